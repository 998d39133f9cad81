/- Several small texts in one: XWide5, XWide6, XWide7, XWide8. -/
import Derived.Test.YtdhbeoahpfimbaaGreatGa
namespace Go.Proofs.YtdhbeoahpfimbaaGreat
open Go.RowKit
set_option maxHeartbeats 1000000 in
theorem quo_big0 (a b d p q D : Int) (up n : Bool) (w : World) (h : wideB a b = true) (hd : d ≠ 0) (d1 : -9223372036854775808 ≤ d) (d2 : d ≤ 9223372036854775807)
    (hn : n = decide (a < 0)) (hp : absI (a * 1152921504606846976 + b) / 18446744073709551616 = p) (hq : absI (a * 1152921504606846976 + b) % 18446744073709551616 = q) (hD : absI d = D) (hc : D ≤ p) :
    Calls Tryz.prog 273 #[.agg #[.int .i64 a, .int .i64 b], .int .i64 d, .bool up] w fun e w' => e = .returned (.tuple #[.int .i64 0, .int .i64 5]) ∧ Below w.heap.size w w' := by
  have S := fun w => sizeof_walk a b p q n w h hn hp hq
  have A := fun w => abs_any d w d1 d2
  rw [hD] at A
  have hz : (d == 0) = false := by simpa using hd
  replace S := hidden S
  replace A := hidden A
  clear hn hp hq hD hd
  go_enter Tryz.func273, Tryz.ntmps273
  go_wp2_with (first | (((first | (go_at_call 311; refine (wvalid_any _ _ _).mono ?_; rintro e w' ⟨rfl, hb⟩) | (go_at_call 312; refine (S.out _).mono ?_; rintro e w' ⟨rfl, hb⟩)); (try replace hb := below_undrew hb); (try replace hb := below_undrewN hb); obtain ⟨hcell, hfroz⟩ := bcell hb; have hz := hb.size; (try simp at hz); (try (have z6 := Nat.lt_of_lt_of_le z7 hz)); (try (have z7 := Nat.lt_of_lt_of_le z8 hz)); (try (have z8 := Nat.lt_of_lt_of_le z9 hz)); (try (have z9 := Nat.lt_of_lt_of_le (Nat.lt_succ_self _) hz)); (try have z0 : w.heap.size < w'.heap.size := by omega); (try have z1 : w.heap.size + 1 < w'.heap.size := by omega); (try have z2 : w.heap.size + 1 + 1 < w'.heap.size := by omega); (try have z3 : w.heap.size + 1 + 1 + 1 < w'.heap.size := by omega))) | (go_at_call 271; refine (A.out _).mono ?_; rintro e w' ⟨rfl, rfl⟩))
  go_ret2
  exact ⟨rfl, by (repeat (first | exact Below.refl _ _ | refine bl_drewN ?_ | refine bl_drew ?_ | refine bl_alloc ?_ _ | refine Below.setCell ?_ (by (first | (simp; done) | (simp; omega) | omega)) _ | refine bl_step (by assumption) ?_))⟩
set_option maxHeartbeats 1000000 in
theorem quo_dpzf (a b d p q D Q R : Int) (n : Bool) (w : World) (h : wideB a b = true) (hd : d ≠ 0) (d1 : -9223372036854775808 ≤ d) (d2 : d ≤ 9223372036854775807)
    (hn : n = decide (a < 0)) (hp : absI (a * 1152921504606846976 + b) / 18446744073709551616 = p) (hq : absI (a * 1152921504606846976 + b) % 18446744073709551616 = q) (hD : absI d = D) (hc : p < D)
    (hneg : (n != decide (d < 0)) = false) (hQ : (p * 18446744073709551616 + q) / D = Q) (hR : (p * 18446744073709551616 + q) % D = R) (hr : R ≤ 0) (hf : Q < 9223372036854775808) (_hm : Q ≤ 18446744073709551615) :
    Calls Tryz.prog 273 #[.agg #[.int .i64 a, .int .i64 b], .int .i64 d, .bool false] w fun e w' => e = .returned (.tuple #[.int .i64 Q, .int .i64 0]) ∧ Below w.heap.size w w' := by
  have S := fun w => sizeof_walk a b p q n w h hn hp hq
  have A := fun w => abs_any d w d1 d2
  rw [hD] at A
  have D0 : D ≤ 9223372036854775808 := by rw [← hD]; exact (absI_bd d d1 d2).2
  have p0 : 0 ≤ p := by rw [← hp]; exact Int.ediv_nonneg (absI_nn _) (by omega)
  have q0 : 0 ≤ q := by rw [← hq]; exact Int.emod_nonneg _ (by omega)
  have q1 : q ≤ 18446744073709551615 := by
    have := Int.emod_lt_of_pos (absI (a * 1152921504606846976 + b)) (show (0 : Int) < 18446744073709551616 by omega)
    omega
  have V := fun w => div64_any p q D w p0 hc (by omega) q0 q1
  rw [hQ, hR] at V
  have Q0 : 0 ≤ Q := by rw [← hQ]; exact Int.ediv_nonneg (by omega) (by omega)
  have hz : (d == 0) = false := by simpa using hd
  replace S := hidden S
  replace A := hidden A
  replace V := hidden V
  clear hn hp hq hD hd hQ hR
  obtain ⟨sd, hsd⟩ : ∃ sd, decide (d < 0) = sd := ⟨_, rfl⟩
  rw [hsd] at hneg
  cases n <;> cases sd <;> simp only [Bool.true_bne, Bool.false_bne, Bool.not_true, Bool.not_false, Bool.true_eq_false] at hneg
  all_goals
   go_enter Tryz.func273, Tryz.ntmps273
   go_wp2_with (first | (((first | (go_at_call 311; refine (wvalid_any _ _ _).mono ?_; rintro e w' ⟨rfl, hb⟩; have nm0 := trivial) | (go_at_call 312; refine (S.out _).mono ?_; rintro e w' ⟨rfl, hb⟩; have nm1 := trivial)); (try replace hb := below_undrew hb); (try replace hb := below_undrewN hb); obtain ⟨hcell, hfroz⟩ := bcell hb; have hz := hb.size; (try simp at hz); (try (have z6 := Nat.lt_of_lt_of_le z7 hz)); (try (have z7 := Nat.lt_of_lt_of_le z8 hz)); (try (have z8 := Nat.lt_of_lt_of_le z9 hz)); (try (have z9 := Nat.lt_of_lt_of_le (Nat.lt_succ_self _) hz)); (try have z0 : w.heap.size < w'.heap.size := by omega); (try have z1 : w.heap.size + 1 < w'.heap.size := by omega); (try have z2 : w.heap.size + 1 + 1 < w'.heap.size := by omega); (try have z3 : w.heap.size + 1 + 1 + 1 < w'.heap.size := by omega); (try have y1 : w1.heap.size < w'.heap.size := by omega); (first | (clear nm0) | (clear nm1; obtain ⟨w1, rfl⟩ : ∃ v, v = w' := ⟨_, rfl⟩)))) | (go_at_call 271; refine (A.out _).mono ?_; rintro e w' ⟨rfl, rfl⟩) | (go_at_call 110; refine (V.out _).mono ?_; rintro e w' ⟨rfl, nd, rfl⟩))
   go_ret2
   first | exact ⟨rfl, by (repeat (first | exact Below.refl _ _ | refine bl_drewN ?_ | refine bl_drew ?_ | refine bl_alloc ?_ _ | refine Below.setCell ?_ (by (first | (simp; done) | (simp; omega) | omega)) _ | refine bl_step (by assumption) ?_))⟩ | exact ⟨ret_two ⟨by (simp only [wrap64, IntKind.wrap_u64]; omega), rfl⟩, by (repeat (first | exact Below.refl _ _ | refine bl_drewN ?_ | refine bl_drew ?_ | refine bl_alloc ?_ _ | refine Below.setCell ?_ (by (first | (simp; done) | (simp; omega) | omega)) _ | refine bl_step (by assumption) ?_))⟩
set_option maxHeartbeats 1000000 in
theorem quo_dpzx (a b d p q D Q R : Int) (n : Bool) (w : World) (h : wideB a b = true) (hd : d ≠ 0) (d1 : -9223372036854775808 ≤ d) (d2 : d ≤ 9223372036854775807)
    (hn : n = decide (a < 0)) (hp : absI (a * 1152921504606846976 + b) / 18446744073709551616 = p) (hq : absI (a * 1152921504606846976 + b) % 18446744073709551616 = q) (hD : absI d = D) (hc : p < D)
    (hneg : (n != decide (d < 0)) = false) (hQ : (p * 18446744073709551616 + q) / D = Q) (hR : (p * 18446744073709551616 + q) % D = R) (hr : R ≤ 0) (hf : 9223372036854775808 ≤ Q) (hm : Q ≤ 18446744073709551615) :
    Calls Tryz.prog 273 #[.agg #[.int .i64 a, .int .i64 b], .int .i64 d, .bool false] w fun e w' => e = .returned (.tuple #[.int .i64 0, .int .i64 5]) ∧ Below w.heap.size w w' := by
  have S := fun w => sizeof_walk a b p q n w h hn hp hq
  have A := fun w => abs_any d w d1 d2
  rw [hD] at A
  have D0 : D ≤ 9223372036854775808 := by rw [← hD]; exact (absI_bd d d1 d2).2
  have p0 : 0 ≤ p := by rw [← hp]; exact Int.ediv_nonneg (absI_nn _) (by omega)
  have q0 : 0 ≤ q := by rw [← hq]; exact Int.emod_nonneg _ (by omega)
  have q1 : q ≤ 18446744073709551615 := by
    have := Int.emod_lt_of_pos (absI (a * 1152921504606846976 + b)) (show (0 : Int) < 18446744073709551616 by omega)
    omega
  have V := fun w => div64_any p q D w p0 hc (by omega) q0 q1
  rw [hQ, hR] at V
  have Q0 : 0 ≤ Q := by rw [← hQ]; exact Int.ediv_nonneg (by omega) (by omega)
  have hz : (d == 0) = false := by simpa using hd
  replace S := hidden S
  replace A := hidden A
  replace V := hidden V
  clear hn hp hq hD hd hQ hR
  obtain ⟨sd, hsd⟩ : ∃ sd, decide (d < 0) = sd := ⟨_, rfl⟩
  rw [hsd] at hneg
  cases n <;> cases sd <;> simp only [Bool.true_bne, Bool.false_bne, Bool.not_true, Bool.not_false, Bool.true_eq_false] at hneg
  all_goals
   go_enter Tryz.func273, Tryz.ntmps273
   go_wp2_with (first | (((first | (go_at_call 311; refine (wvalid_any _ _ _).mono ?_; rintro e w' ⟨rfl, hb⟩; have nm0 := trivial) | (go_at_call 312; refine (S.out _).mono ?_; rintro e w' ⟨rfl, hb⟩; have nm1 := trivial)); (try replace hb := below_undrew hb); (try replace hb := below_undrewN hb); obtain ⟨hcell, hfroz⟩ := bcell hb; have hz := hb.size; (try simp at hz); (try (have z6 := Nat.lt_of_lt_of_le z7 hz)); (try (have z7 := Nat.lt_of_lt_of_le z8 hz)); (try (have z8 := Nat.lt_of_lt_of_le z9 hz)); (try (have z9 := Nat.lt_of_lt_of_le (Nat.lt_succ_self _) hz)); (try have z0 : w.heap.size < w'.heap.size := by omega); (try have z1 : w.heap.size + 1 < w'.heap.size := by omega); (try have z2 : w.heap.size + 1 + 1 < w'.heap.size := by omega); (try have z3 : w.heap.size + 1 + 1 + 1 < w'.heap.size := by omega); (try have y1 : w1.heap.size < w'.heap.size := by omega); (first | (clear nm0) | (clear nm1; obtain ⟨w1, rfl⟩ : ∃ v, v = w' := ⟨_, rfl⟩)))) | (go_at_call 271; refine (A.out _).mono ?_; rintro e w' ⟨rfl, rfl⟩) | (go_at_call 110; refine (V.out _).mono ?_; rintro e w' ⟨rfl, nd, rfl⟩))
   go_ret2
   first | exact ⟨rfl, by (repeat (first | exact Below.refl _ _ | refine bl_drewN ?_ | refine bl_drew ?_ | refine bl_alloc ?_ _ | refine Below.setCell ?_ (by (first | (simp; done) | (simp; omega) | omega)) _ | refine bl_step (by assumption) ?_))⟩ | exact ⟨ret_two ⟨by (simp only [wrap64, IntKind.wrap_u64]; omega), rfl⟩, by (repeat (first | exact Below.refl _ _ | refine bl_drewN ?_ | refine bl_drew ?_ | refine bl_alloc ?_ _ | refine Below.setCell ?_ (by (first | (simp; done) | (simp; omega) | omega)) _ | refine bl_step (by assumption) ?_))⟩
set_option maxHeartbeats 1000000 in
theorem quo_dprf (a b d p q D Q R : Int) (n : Bool) (w : World) (h : wideB a b = true) (hd : d ≠ 0) (d1 : -9223372036854775808 ≤ d) (d2 : d ≤ 9223372036854775807)
    (hn : n = decide (a < 0)) (hp : absI (a * 1152921504606846976 + b) / 18446744073709551616 = p) (hq : absI (a * 1152921504606846976 + b) % 18446744073709551616 = q) (hD : absI d = D) (hc : p < D)
    (hneg : (n != decide (d < 0)) = false) (hQ : (p * 18446744073709551616 + q) / D = Q) (hR : (p * 18446744073709551616 + q) % D = R) (hr : 0 < R) (hf : Q < 9223372036854775808) (_hm : Q ≤ 18446744073709551615) :
    Calls Tryz.prog 273 #[.agg #[.int .i64 a, .int .i64 b], .int .i64 d, .bool false] w fun e w' => e = .returned (.tuple #[.int .i64 Q, .int .i64 0]) ∧ Below w.heap.size w w' := by
  have S := fun w => sizeof_walk a b p q n w h hn hp hq
  have A := fun w => abs_any d w d1 d2
  rw [hD] at A
  have D0 : D ≤ 9223372036854775808 := by rw [← hD]; exact (absI_bd d d1 d2).2
  have p0 : 0 ≤ p := by rw [← hp]; exact Int.ediv_nonneg (absI_nn _) (by omega)
  have q0 : 0 ≤ q := by rw [← hq]; exact Int.emod_nonneg _ (by omega)
  have q1 : q ≤ 18446744073709551615 := by
    have := Int.emod_lt_of_pos (absI (a * 1152921504606846976 + b)) (show (0 : Int) < 18446744073709551616 by omega)
    omega
  have V := fun w => div64_any p q D w p0 hc (by omega) q0 q1
  rw [hQ, hR] at V
  have Q0 : 0 ≤ Q := by rw [← hQ]; exact Int.ediv_nonneg (by omega) (by omega)
  have hz : (d == 0) = false := by simpa using hd
  replace S := hidden S
  replace A := hidden A
  replace V := hidden V
  clear hn hp hq hD hd hQ hR
  obtain ⟨sd, hsd⟩ : ∃ sd, decide (d < 0) = sd := ⟨_, rfl⟩
  rw [hsd] at hneg
  cases n <;> cases sd <;> simp only [Bool.true_bne, Bool.false_bne, Bool.not_true, Bool.not_false, Bool.true_eq_false] at hneg
  all_goals
   go_enter Tryz.func273, Tryz.ntmps273
   go_wp2_with (first | (((first | (go_at_call 311; refine (wvalid_any _ _ _).mono ?_; rintro e w' ⟨rfl, hb⟩; have nm0 := trivial) | (go_at_call 312; refine (S.out _).mono ?_; rintro e w' ⟨rfl, hb⟩; have nm1 := trivial)); (try replace hb := below_undrew hb); (try replace hb := below_undrewN hb); obtain ⟨hcell, hfroz⟩ := bcell hb; have hz := hb.size; (try simp at hz); (try (have z6 := Nat.lt_of_lt_of_le z7 hz)); (try (have z7 := Nat.lt_of_lt_of_le z8 hz)); (try (have z8 := Nat.lt_of_lt_of_le z9 hz)); (try (have z9 := Nat.lt_of_lt_of_le (Nat.lt_succ_self _) hz)); (try have z0 : w.heap.size < w'.heap.size := by omega); (try have z1 : w.heap.size + 1 < w'.heap.size := by omega); (try have z2 : w.heap.size + 1 + 1 < w'.heap.size := by omega); (try have z3 : w.heap.size + 1 + 1 + 1 < w'.heap.size := by omega); (try have y1 : w1.heap.size < w'.heap.size := by omega); (first | (clear nm0) | (clear nm1; obtain ⟨w1, rfl⟩ : ∃ v, v = w' := ⟨_, rfl⟩)))) | (go_at_call 271; refine (A.out _).mono ?_; rintro e w' ⟨rfl, rfl⟩) | (go_at_call 110; refine (V.out _).mono ?_; rintro e w' ⟨rfl, nd, rfl⟩))
   go_ret2
   first | exact ⟨rfl, by (repeat (first | exact Below.refl _ _ | refine bl_drewN ?_ | refine bl_drew ?_ | refine bl_alloc ?_ _ | refine Below.setCell ?_ (by (first | (simp; done) | (simp; omega) | omega)) _ | refine bl_step (by assumption) ?_))⟩ | exact ⟨ret_two ⟨by (simp only [wrap64, IntKind.wrap_u64]; omega), rfl⟩, by (repeat (first | exact Below.refl _ _ | refine bl_drewN ?_ | refine bl_drew ?_ | refine bl_alloc ?_ _ | refine Below.setCell ?_ (by (first | (simp; done) | (simp; omega) | omega)) _ | refine bl_step (by assumption) ?_))⟩
set_option maxHeartbeats 1000000 in
theorem quo_dprx (a b d p q D Q R : Int) (n : Bool) (w : World) (h : wideB a b = true) (hd : d ≠ 0) (d1 : -9223372036854775808 ≤ d) (d2 : d ≤ 9223372036854775807)
    (hn : n = decide (a < 0)) (hp : absI (a * 1152921504606846976 + b) / 18446744073709551616 = p) (hq : absI (a * 1152921504606846976 + b) % 18446744073709551616 = q) (hD : absI d = D) (hc : p < D)
    (hneg : (n != decide (d < 0)) = false) (hQ : (p * 18446744073709551616 + q) / D = Q) (hR : (p * 18446744073709551616 + q) % D = R) (hr : 0 < R) (hf : 9223372036854775808 ≤ Q) (hm : Q ≤ 18446744073709551615) :
    Calls Tryz.prog 273 #[.agg #[.int .i64 a, .int .i64 b], .int .i64 d, .bool false] w fun e w' => e = .returned (.tuple #[.int .i64 0, .int .i64 5]) ∧ Below w.heap.size w w' := by
  have S := fun w => sizeof_walk a b p q n w h hn hp hq
  have A := fun w => abs_any d w d1 d2
  rw [hD] at A
  have D0 : D ≤ 9223372036854775808 := by rw [← hD]; exact (absI_bd d d1 d2).2
  have p0 : 0 ≤ p := by rw [← hp]; exact Int.ediv_nonneg (absI_nn _) (by omega)
  have q0 : 0 ≤ q := by rw [← hq]; exact Int.emod_nonneg _ (by omega)
  have q1 : q ≤ 18446744073709551615 := by
    have := Int.emod_lt_of_pos (absI (a * 1152921504606846976 + b)) (show (0 : Int) < 18446744073709551616 by omega)
    omega
  have V := fun w => div64_any p q D w p0 hc (by omega) q0 q1
  rw [hQ, hR] at V
  have Q0 : 0 ≤ Q := by rw [← hQ]; exact Int.ediv_nonneg (by omega) (by omega)
  have hz : (d == 0) = false := by simpa using hd
  replace S := hidden S
  replace A := hidden A
  replace V := hidden V
  clear hn hp hq hD hd hQ hR
  obtain ⟨sd, hsd⟩ : ∃ sd, decide (d < 0) = sd := ⟨_, rfl⟩
  rw [hsd] at hneg
  cases n <;> cases sd <;> simp only [Bool.true_bne, Bool.false_bne, Bool.not_true, Bool.not_false, Bool.true_eq_false] at hneg
  all_goals
   go_enter Tryz.func273, Tryz.ntmps273
   go_wp2_with (first | (((first | (go_at_call 311; refine (wvalid_any _ _ _).mono ?_; rintro e w' ⟨rfl, hb⟩; have nm0 := trivial) | (go_at_call 312; refine (S.out _).mono ?_; rintro e w' ⟨rfl, hb⟩; have nm1 := trivial)); (try replace hb := below_undrew hb); (try replace hb := below_undrewN hb); obtain ⟨hcell, hfroz⟩ := bcell hb; have hz := hb.size; (try simp at hz); (try (have z6 := Nat.lt_of_lt_of_le z7 hz)); (try (have z7 := Nat.lt_of_lt_of_le z8 hz)); (try (have z8 := Nat.lt_of_lt_of_le z9 hz)); (try (have z9 := Nat.lt_of_lt_of_le (Nat.lt_succ_self _) hz)); (try have z0 : w.heap.size < w'.heap.size := by omega); (try have z1 : w.heap.size + 1 < w'.heap.size := by omega); (try have z2 : w.heap.size + 1 + 1 < w'.heap.size := by omega); (try have z3 : w.heap.size + 1 + 1 + 1 < w'.heap.size := by omega); (try have y1 : w1.heap.size < w'.heap.size := by omega); (first | (clear nm0) | (clear nm1; obtain ⟨w1, rfl⟩ : ∃ v, v = w' := ⟨_, rfl⟩)))) | (go_at_call 271; refine (A.out _).mono ?_; rintro e w' ⟨rfl, rfl⟩) | (go_at_call 110; refine (V.out _).mono ?_; rintro e w' ⟨rfl, nd, rfl⟩))
   go_ret2
   first | exact ⟨rfl, by (repeat (first | exact Below.refl _ _ | refine bl_drewN ?_ | refine bl_drew ?_ | refine bl_alloc ?_ _ | refine Below.setCell ?_ (by (first | (simp; done) | (simp; omega) | omega)) _ | refine bl_step (by assumption) ?_))⟩ | exact ⟨ret_two ⟨by (simp only [wrap64, IntKind.wrap_u64]; omega), rfl⟩, by (repeat (first | exact Below.refl _ _ | refine bl_drewN ?_ | refine bl_drew ?_ | refine bl_alloc ?_ _ | refine Below.setCell ?_ (by (first | (simp; done) | (simp; omega) | omega)) _ | refine bl_step (by assumption) ?_))⟩
set_option maxHeartbeats 1000000 in
theorem quo_dnzf (a b d p q D Q R : Int) (n : Bool) (w : World) (h : wideB a b = true) (hd : d ≠ 0) (d1 : -9223372036854775808 ≤ d) (d2 : d ≤ 9223372036854775807)
    (hn : n = decide (a < 0)) (hp : absI (a * 1152921504606846976 + b) / 18446744073709551616 = p) (hq : absI (a * 1152921504606846976 + b) % 18446744073709551616 = q) (hD : absI d = D) (hc : p < D)
    (hneg : (n != decide (d < 0)) = true) (hQ : (p * 18446744073709551616 + q) / D = Q) (hR : (p * 18446744073709551616 + q) % D = R) (hr : R ≤ 0) (hf : Q ≤ 9223372036854775808) (_hm : Q ≤ 18446744073709551615) :
    Calls Tryz.prog 273 #[.agg #[.int .i64 a, .int .i64 b], .int .i64 d, .bool false] w fun e w' => e = .returned (.tuple #[.int .i64 (-(Q)), .int .i64 0]) ∧ Below w.heap.size w w' := by
  have S := fun w => sizeof_walk a b p q n w h hn hp hq
  have A := fun w => abs_any d w d1 d2
  rw [hD] at A
  have D0 : D ≤ 9223372036854775808 := by rw [← hD]; exact (absI_bd d d1 d2).2
  have p0 : 0 ≤ p := by rw [← hp]; exact Int.ediv_nonneg (absI_nn _) (by omega)
  have q0 : 0 ≤ q := by rw [← hq]; exact Int.emod_nonneg _ (by omega)
  have q1 : q ≤ 18446744073709551615 := by
    have := Int.emod_lt_of_pos (absI (a * 1152921504606846976 + b)) (show (0 : Int) < 18446744073709551616 by omega)
    omega
  have V := fun w => div64_any p q D w p0 hc (by omega) q0 q1
  rw [hQ, hR] at V
  have Q0 : 0 ≤ Q := by rw [← hQ]; exact Int.ediv_nonneg (by omega) (by omega)
  have hz : (d == 0) = false := by simpa using hd
  replace S := hidden S
  replace A := hidden A
  replace V := hidden V
  clear hn hp hq hD hd hQ hR
  obtain ⟨sd, hsd⟩ : ∃ sd, decide (d < 0) = sd := ⟨_, rfl⟩
  rw [hsd] at hneg
  cases n <;> cases sd <;> simp only [Bool.true_bne, Bool.false_bne, Bool.not_true, Bool.not_false, Bool.false_eq_true] at hneg
  all_goals
   go_enter Tryz.func273, Tryz.ntmps273
   go_wp2_with (first | (((first | (go_at_call 311; refine (wvalid_any _ _ _).mono ?_; rintro e w' ⟨rfl, hb⟩; have nm0 := trivial) | (go_at_call 312; refine (S.out _).mono ?_; rintro e w' ⟨rfl, hb⟩; have nm1 := trivial)); (try replace hb := below_undrew hb); (try replace hb := below_undrewN hb); obtain ⟨hcell, hfroz⟩ := bcell hb; have hz := hb.size; (try simp at hz); (try (have z6 := Nat.lt_of_lt_of_le z7 hz)); (try (have z7 := Nat.lt_of_lt_of_le z8 hz)); (try (have z8 := Nat.lt_of_lt_of_le z9 hz)); (try (have z9 := Nat.lt_of_lt_of_le (Nat.lt_succ_self _) hz)); (try have z0 : w.heap.size < w'.heap.size := by omega); (try have z1 : w.heap.size + 1 < w'.heap.size := by omega); (try have z2 : w.heap.size + 1 + 1 < w'.heap.size := by omega); (try have z3 : w.heap.size + 1 + 1 + 1 < w'.heap.size := by omega); (try have y1 : w1.heap.size < w'.heap.size := by omega); (first | (clear nm0) | (clear nm1; obtain ⟨w1, rfl⟩ : ∃ v, v = w' := ⟨_, rfl⟩)))) | (go_at_call 271; refine (A.out _).mono ?_; rintro e w' ⟨rfl, rfl⟩) | (go_at_call 110; refine (V.out _).mono ?_; rintro e w' ⟨rfl, nd, rfl⟩))
   go_ret2
   first | exact ⟨rfl, by (repeat (first | exact Below.refl _ _ | refine bl_drewN ?_ | refine bl_drew ?_ | refine bl_alloc ?_ _ | refine Below.setCell ?_ (by (first | (simp; done) | (simp; omega) | omega)) _ | refine bl_step (by assumption) ?_))⟩ | exact ⟨ret_two ⟨by (simp only [wrap64, IntKind.wrap_u64]; omega), rfl⟩, by (repeat (first | exact Below.refl _ _ | refine bl_drewN ?_ | refine bl_drew ?_ | refine bl_alloc ?_ _ | refine Below.setCell ?_ (by (first | (simp; done) | (simp; omega) | omega)) _ | refine bl_step (by assumption) ?_))⟩
set_option maxHeartbeats 1000000 in
theorem quo_dnzx (a b d p q D Q R : Int) (n : Bool) (w : World) (h : wideB a b = true) (hd : d ≠ 0) (d1 : -9223372036854775808 ≤ d) (d2 : d ≤ 9223372036854775807)
    (hn : n = decide (a < 0)) (hp : absI (a * 1152921504606846976 + b) / 18446744073709551616 = p) (hq : absI (a * 1152921504606846976 + b) % 18446744073709551616 = q) (hD : absI d = D) (hc : p < D)
    (hneg : (n != decide (d < 0)) = true) (hQ : (p * 18446744073709551616 + q) / D = Q) (hR : (p * 18446744073709551616 + q) % D = R) (hr : R ≤ 0) (hf : 9223372036854775808 < Q) (hm : Q ≤ 18446744073709551615) :
    Calls Tryz.prog 273 #[.agg #[.int .i64 a, .int .i64 b], .int .i64 d, .bool false] w fun e w' => e = .returned (.tuple #[.int .i64 0, .int .i64 5]) ∧ Below w.heap.size w w' := by
  have S := fun w => sizeof_walk a b p q n w h hn hp hq
  have A := fun w => abs_any d w d1 d2
  rw [hD] at A
  have D0 : D ≤ 9223372036854775808 := by rw [← hD]; exact (absI_bd d d1 d2).2
  have p0 : 0 ≤ p := by rw [← hp]; exact Int.ediv_nonneg (absI_nn _) (by omega)
  have q0 : 0 ≤ q := by rw [← hq]; exact Int.emod_nonneg _ (by omega)
  have q1 : q ≤ 18446744073709551615 := by
    have := Int.emod_lt_of_pos (absI (a * 1152921504606846976 + b)) (show (0 : Int) < 18446744073709551616 by omega)
    omega
  have V := fun w => div64_any p q D w p0 hc (by omega) q0 q1
  rw [hQ, hR] at V
  have Q0 : 0 ≤ Q := by rw [← hQ]; exact Int.ediv_nonneg (by omega) (by omega)
  have hz : (d == 0) = false := by simpa using hd
  replace S := hidden S
  replace A := hidden A
  replace V := hidden V
  clear hn hp hq hD hd hQ hR
  obtain ⟨sd, hsd⟩ : ∃ sd, decide (d < 0) = sd := ⟨_, rfl⟩
  rw [hsd] at hneg
  cases n <;> cases sd <;> simp only [Bool.true_bne, Bool.false_bne, Bool.not_true, Bool.not_false, Bool.false_eq_true] at hneg
  all_goals
   go_enter Tryz.func273, Tryz.ntmps273
   go_wp2_with (first | (((first | (go_at_call 311; refine (wvalid_any _ _ _).mono ?_; rintro e w' ⟨rfl, hb⟩; have nm0 := trivial) | (go_at_call 312; refine (S.out _).mono ?_; rintro e w' ⟨rfl, hb⟩; have nm1 := trivial)); (try replace hb := below_undrew hb); (try replace hb := below_undrewN hb); obtain ⟨hcell, hfroz⟩ := bcell hb; have hz := hb.size; (try simp at hz); (try (have z6 := Nat.lt_of_lt_of_le z7 hz)); (try (have z7 := Nat.lt_of_lt_of_le z8 hz)); (try (have z8 := Nat.lt_of_lt_of_le z9 hz)); (try (have z9 := Nat.lt_of_lt_of_le (Nat.lt_succ_self _) hz)); (try have z0 : w.heap.size < w'.heap.size := by omega); (try have z1 : w.heap.size + 1 < w'.heap.size := by omega); (try have z2 : w.heap.size + 1 + 1 < w'.heap.size := by omega); (try have z3 : w.heap.size + 1 + 1 + 1 < w'.heap.size := by omega); (try have y1 : w1.heap.size < w'.heap.size := by omega); (first | (clear nm0) | (clear nm1; obtain ⟨w1, rfl⟩ : ∃ v, v = w' := ⟨_, rfl⟩)))) | (go_at_call 271; refine (A.out _).mono ?_; rintro e w' ⟨rfl, rfl⟩) | (go_at_call 110; refine (V.out _).mono ?_; rintro e w' ⟨rfl, nd, rfl⟩))
   go_ret2
   first | exact ⟨rfl, by (repeat (first | exact Below.refl _ _ | refine bl_drewN ?_ | refine bl_drew ?_ | refine bl_alloc ?_ _ | refine Below.setCell ?_ (by (first | (simp; done) | (simp; omega) | omega)) _ | refine bl_step (by assumption) ?_))⟩ | exact ⟨ret_two ⟨by (simp only [wrap64, IntKind.wrap_u64]; omega), rfl⟩, by (repeat (first | exact Below.refl _ _ | refine bl_drewN ?_ | refine bl_drew ?_ | refine bl_alloc ?_ _ | refine Below.setCell ?_ (by (first | (simp; done) | (simp; omega) | omega)) _ | refine bl_step (by assumption) ?_))⟩
set_option maxHeartbeats 1000000 in
theorem quo_dnrf (a b d p q D Q R : Int) (n : Bool) (w : World) (h : wideB a b = true) (hd : d ≠ 0) (d1 : -9223372036854775808 ≤ d) (d2 : d ≤ 9223372036854775807)
    (hn : n = decide (a < 0)) (hp : absI (a * 1152921504606846976 + b) / 18446744073709551616 = p) (hq : absI (a * 1152921504606846976 + b) % 18446744073709551616 = q) (hD : absI d = D) (hc : p < D)
    (hneg : (n != decide (d < 0)) = true) (hQ : (p * 18446744073709551616 + q) / D = Q) (hR : (p * 18446744073709551616 + q) % D = R) (hr : 0 < R) (hf : Q + 1 ≤ 9223372036854775808) (_hm : Q + 1 ≤ 18446744073709551615) :
    Calls Tryz.prog 273 #[.agg #[.int .i64 a, .int .i64 b], .int .i64 d, .bool false] w fun e w' => e = .returned (.tuple #[.int .i64 (-(Q + 1)), .int .i64 0]) ∧ Below w.heap.size w w' := by
  have S := fun w => sizeof_walk a b p q n w h hn hp hq
  have A := fun w => abs_any d w d1 d2
  rw [hD] at A
  have D0 : D ≤ 9223372036854775808 := by rw [← hD]; exact (absI_bd d d1 d2).2
  have p0 : 0 ≤ p := by rw [← hp]; exact Int.ediv_nonneg (absI_nn _) (by omega)
  have q0 : 0 ≤ q := by rw [← hq]; exact Int.emod_nonneg _ (by omega)
  have q1 : q ≤ 18446744073709551615 := by
    have := Int.emod_lt_of_pos (absI (a * 1152921504606846976 + b)) (show (0 : Int) < 18446744073709551616 by omega)
    omega
  have V := fun w => div64_any p q D w p0 hc (by omega) q0 q1
  rw [hQ, hR] at V
  have Q0 : 0 ≤ Q := by rw [← hQ]; exact Int.ediv_nonneg (by omega) (by omega)
  have hz : (d == 0) = false := by simpa using hd
  replace S := hidden S
  replace A := hidden A
  replace V := hidden V
  clear hn hp hq hD hd hQ hR
  obtain ⟨sd, hsd⟩ : ∃ sd, decide (d < 0) = sd := ⟨_, rfl⟩
  rw [hsd] at hneg
  cases n <;> cases sd <;> simp only [Bool.true_bne, Bool.false_bne, Bool.not_true, Bool.not_false, Bool.false_eq_true] at hneg
  have hz2 : (Q + 1 == 0) = false := by simp; omega
  all_goals
   go_enter Tryz.func273, Tryz.ntmps273
   go_wp2_with (first | (((first | (go_at_call 311; refine (wvalid_any _ _ _).mono ?_; rintro e w' ⟨rfl, hb⟩; have nm0 := trivial) | (go_at_call 312; refine (S.out _).mono ?_; rintro e w' ⟨rfl, hb⟩; have nm1 := trivial)); (try replace hb := below_undrew hb); (try replace hb := below_undrewN hb); obtain ⟨hcell, hfroz⟩ := bcell hb; have hz := hb.size; (try simp at hz); (try (have z6 := Nat.lt_of_lt_of_le z7 hz)); (try (have z7 := Nat.lt_of_lt_of_le z8 hz)); (try (have z8 := Nat.lt_of_lt_of_le z9 hz)); (try (have z9 := Nat.lt_of_lt_of_le (Nat.lt_succ_self _) hz)); (try have z0 : w.heap.size < w'.heap.size := by omega); (try have z1 : w.heap.size + 1 < w'.heap.size := by omega); (try have z2 : w.heap.size + 1 + 1 < w'.heap.size := by omega); (try have z3 : w.heap.size + 1 + 1 + 1 < w'.heap.size := by omega); (try have y1 : w1.heap.size < w'.heap.size := by omega); (first | (clear nm0) | (clear nm1; obtain ⟨w1, rfl⟩ : ∃ v, v = w' := ⟨_, rfl⟩)))) | (go_at_call 271; refine (A.out _).mono ?_; rintro e w' ⟨rfl, rfl⟩) | (go_at_call 110; refine (V.out _).mono ?_; rintro e w' ⟨rfl, nd, rfl⟩))
   go_ret2
   first | exact ⟨rfl, by (repeat (first | exact Below.refl _ _ | refine bl_drewN ?_ | refine bl_drew ?_ | refine bl_alloc ?_ _ | refine Below.setCell ?_ (by (first | (simp; done) | (simp; omega) | omega)) _ | refine bl_step (by assumption) ?_))⟩ | exact ⟨ret_two ⟨by (simp only [wrap64, IntKind.wrap_u64]; omega), rfl⟩, by (repeat (first | exact Below.refl _ _ | refine bl_drewN ?_ | refine bl_drew ?_ | refine bl_alloc ?_ _ | refine Below.setCell ?_ (by (first | (simp; done) | (simp; omega) | omega)) _ | refine bl_step (by assumption) ?_))⟩
set_option maxHeartbeats 1000000 in
theorem quo_dnrx (a b d p q D Q R : Int) (n : Bool) (w : World) (h : wideB a b = true) (hd : d ≠ 0) (d1 : -9223372036854775808 ≤ d) (d2 : d ≤ 9223372036854775807)
    (hn : n = decide (a < 0)) (hp : absI (a * 1152921504606846976 + b) / 18446744073709551616 = p) (hq : absI (a * 1152921504606846976 + b) % 18446744073709551616 = q) (hD : absI d = D) (hc : p < D)
    (hneg : (n != decide (d < 0)) = true) (hQ : (p * 18446744073709551616 + q) / D = Q) (hR : (p * 18446744073709551616 + q) % D = R) (hr : 0 < R) (hf : 9223372036854775808 < Q + 1) (hm : Q + 1 ≤ 18446744073709551615) :
    Calls Tryz.prog 273 #[.agg #[.int .i64 a, .int .i64 b], .int .i64 d, .bool false] w fun e w' => e = .returned (.tuple #[.int .i64 0, .int .i64 5]) ∧ Below w.heap.size w w' := by
  have S := fun w => sizeof_walk a b p q n w h hn hp hq
  have A := fun w => abs_any d w d1 d2
  rw [hD] at A
  have D0 : D ≤ 9223372036854775808 := by rw [← hD]; exact (absI_bd d d1 d2).2
  have p0 : 0 ≤ p := by rw [← hp]; exact Int.ediv_nonneg (absI_nn _) (by omega)
  have q0 : 0 ≤ q := by rw [← hq]; exact Int.emod_nonneg _ (by omega)
  have q1 : q ≤ 18446744073709551615 := by
    have := Int.emod_lt_of_pos (absI (a * 1152921504606846976 + b)) (show (0 : Int) < 18446744073709551616 by omega)
    omega
  have V := fun w => div64_any p q D w p0 hc (by omega) q0 q1
  rw [hQ, hR] at V
  have Q0 : 0 ≤ Q := by rw [← hQ]; exact Int.ediv_nonneg (by omega) (by omega)
  have hz : (d == 0) = false := by simpa using hd
  replace S := hidden S
  replace A := hidden A
  replace V := hidden V
  clear hn hp hq hD hd hQ hR
  obtain ⟨sd, hsd⟩ : ∃ sd, decide (d < 0) = sd := ⟨_, rfl⟩
  rw [hsd] at hneg
  cases n <;> cases sd <;> simp only [Bool.true_bne, Bool.false_bne, Bool.not_true, Bool.not_false, Bool.false_eq_true] at hneg
  have hz2 : (Q + 1 == 0) = false := by simp; omega
  all_goals
   go_enter Tryz.func273, Tryz.ntmps273
   go_wp2_with (first | (((first | (go_at_call 311; refine (wvalid_any _ _ _).mono ?_; rintro e w' ⟨rfl, hb⟩; have nm0 := trivial) | (go_at_call 312; refine (S.out _).mono ?_; rintro e w' ⟨rfl, hb⟩; have nm1 := trivial)); (try replace hb := below_undrew hb); (try replace hb := below_undrewN hb); obtain ⟨hcell, hfroz⟩ := bcell hb; have hz := hb.size; (try simp at hz); (try (have z6 := Nat.lt_of_lt_of_le z7 hz)); (try (have z7 := Nat.lt_of_lt_of_le z8 hz)); (try (have z8 := Nat.lt_of_lt_of_le z9 hz)); (try (have z9 := Nat.lt_of_lt_of_le (Nat.lt_succ_self _) hz)); (try have z0 : w.heap.size < w'.heap.size := by omega); (try have z1 : w.heap.size + 1 < w'.heap.size := by omega); (try have z2 : w.heap.size + 1 + 1 < w'.heap.size := by omega); (try have z3 : w.heap.size + 1 + 1 + 1 < w'.heap.size := by omega); (try have y1 : w1.heap.size < w'.heap.size := by omega); (first | (clear nm0) | (clear nm1; obtain ⟨w1, rfl⟩ : ∃ v, v = w' := ⟨_, rfl⟩)))) | (go_at_call 271; refine (A.out _).mono ?_; rintro e w' ⟨rfl, rfl⟩) | (go_at_call 110; refine (V.out _).mono ?_; rintro e w' ⟨rfl, nd, rfl⟩))
   go_ret2
   first | exact ⟨rfl, by (repeat (first | exact Below.refl _ _ | refine bl_drewN ?_ | refine bl_drew ?_ | refine bl_alloc ?_ _ | refine Below.setCell ?_ (by (first | (simp; done) | (simp; omega) | omega)) _ | refine bl_step (by assumption) ?_))⟩ | exact ⟨ret_two ⟨by (simp only [wrap64, IntKind.wrap_u64]; omega), rfl⟩, by (repeat (first | exact Below.refl _ _ | refine bl_drewN ?_ | refine bl_drew ?_ | refine bl_alloc ?_ _ | refine Below.setCell ?_ (by (first | (simp; done) | (simp; omega) | omega)) _ | refine bl_step (by assumption) ?_))⟩
set_option maxHeartbeats 1000000 in
theorem quo_upzf (a b d p q D Q R : Int) (n : Bool) (w : World) (h : wideB a b = true) (hd : d ≠ 0) (d1 : -9223372036854775808 ≤ d) (d2 : d ≤ 9223372036854775807)
    (hn : n = decide (a < 0)) (hp : absI (a * 1152921504606846976 + b) / 18446744073709551616 = p) (hq : absI (a * 1152921504606846976 + b) % 18446744073709551616 = q) (hD : absI d = D) (hc : p < D)
    (hneg : (n != decide (d < 0)) = false) (hQ : (p * 18446744073709551616 + q) / D = Q) (hR : (p * 18446744073709551616 + q) % D = R) (hr : R ≤ 0) (hf : Q < 9223372036854775808) (_hm : Q ≤ 18446744073709551615) :
    Calls Tryz.prog 273 #[.agg #[.int .i64 a, .int .i64 b], .int .i64 d, .bool true] w fun e w' => e = .returned (.tuple #[.int .i64 Q, .int .i64 0]) ∧ Below w.heap.size w w' := by
  have S := fun w => sizeof_walk a b p q n w h hn hp hq
  have A := fun w => abs_any d w d1 d2
  rw [hD] at A
  have D0 : D ≤ 9223372036854775808 := by rw [← hD]; exact (absI_bd d d1 d2).2
  have p0 : 0 ≤ p := by rw [← hp]; exact Int.ediv_nonneg (absI_nn _) (by omega)
  have q0 : 0 ≤ q := by rw [← hq]; exact Int.emod_nonneg _ (by omega)
  have q1 : q ≤ 18446744073709551615 := by
    have := Int.emod_lt_of_pos (absI (a * 1152921504606846976 + b)) (show (0 : Int) < 18446744073709551616 by omega)
    omega
  have V := fun w => div64_any p q D w p0 hc (by omega) q0 q1
  rw [hQ, hR] at V
  have Q0 : 0 ≤ Q := by rw [← hQ]; exact Int.ediv_nonneg (by omega) (by omega)
  have hz : (d == 0) = false := by simpa using hd
  replace S := hidden S
  replace A := hidden A
  replace V := hidden V
  clear hn hp hq hD hd hQ hR
  obtain ⟨sd, hsd⟩ : ∃ sd, decide (d < 0) = sd := ⟨_, rfl⟩
  rw [hsd] at hneg
  cases n <;> cases sd <;> simp only [Bool.true_bne, Bool.false_bne, Bool.not_true, Bool.not_false, Bool.true_eq_false] at hneg
  all_goals
   go_enter Tryz.func273, Tryz.ntmps273
   go_wp2_with (first | (((first | (go_at_call 311; refine (wvalid_any _ _ _).mono ?_; rintro e w' ⟨rfl, hb⟩; have nm0 := trivial) | (go_at_call 312; refine (S.out _).mono ?_; rintro e w' ⟨rfl, hb⟩; have nm1 := trivial)); (try replace hb := below_undrew hb); (try replace hb := below_undrewN hb); obtain ⟨hcell, hfroz⟩ := bcell hb; have hz := hb.size; (try simp at hz); (try (have z6 := Nat.lt_of_lt_of_le z7 hz)); (try (have z7 := Nat.lt_of_lt_of_le z8 hz)); (try (have z8 := Nat.lt_of_lt_of_le z9 hz)); (try (have z9 := Nat.lt_of_lt_of_le (Nat.lt_succ_self _) hz)); (try have z0 : w.heap.size < w'.heap.size := by omega); (try have z1 : w.heap.size + 1 < w'.heap.size := by omega); (try have z2 : w.heap.size + 1 + 1 < w'.heap.size := by omega); (try have z3 : w.heap.size + 1 + 1 + 1 < w'.heap.size := by omega); (try have y1 : w1.heap.size < w'.heap.size := by omega); (first | (clear nm0) | (clear nm1; obtain ⟨w1, rfl⟩ : ∃ v, v = w' := ⟨_, rfl⟩)))) | (go_at_call 271; refine (A.out _).mono ?_; rintro e w' ⟨rfl, rfl⟩) | (go_at_call 110; refine (V.out _).mono ?_; rintro e w' ⟨rfl, nd, rfl⟩))
   go_ret2
   first | exact ⟨rfl, by (repeat (first | exact Below.refl _ _ | refine bl_drewN ?_ | refine bl_drew ?_ | refine bl_alloc ?_ _ | refine Below.setCell ?_ (by (first | (simp; done) | (simp; omega) | omega)) _ | refine bl_step (by assumption) ?_))⟩ | exact ⟨ret_two ⟨by (simp only [wrap64, IntKind.wrap_u64]; omega), rfl⟩, by (repeat (first | exact Below.refl _ _ | refine bl_drewN ?_ | refine bl_drew ?_ | refine bl_alloc ?_ _ | refine Below.setCell ?_ (by (first | (simp; done) | (simp; omega) | omega)) _ | refine bl_step (by assumption) ?_))⟩
set_option maxHeartbeats 1000000 in
theorem quo_upzx (a b d p q D Q R : Int) (n : Bool) (w : World) (h : wideB a b = true) (hd : d ≠ 0) (d1 : -9223372036854775808 ≤ d) (d2 : d ≤ 9223372036854775807)
    (hn : n = decide (a < 0)) (hp : absI (a * 1152921504606846976 + b) / 18446744073709551616 = p) (hq : absI (a * 1152921504606846976 + b) % 18446744073709551616 = q) (hD : absI d = D) (hc : p < D)
    (hneg : (n != decide (d < 0)) = false) (hQ : (p * 18446744073709551616 + q) / D = Q) (hR : (p * 18446744073709551616 + q) % D = R) (hr : R ≤ 0) (hf : 9223372036854775808 ≤ Q) (hm : Q ≤ 18446744073709551615) :
    Calls Tryz.prog 273 #[.agg #[.int .i64 a, .int .i64 b], .int .i64 d, .bool true] w fun e w' => e = .returned (.tuple #[.int .i64 0, .int .i64 5]) ∧ Below w.heap.size w w' := by
  have S := fun w => sizeof_walk a b p q n w h hn hp hq
  have A := fun w => abs_any d w d1 d2
  rw [hD] at A
  have D0 : D ≤ 9223372036854775808 := by rw [← hD]; exact (absI_bd d d1 d2).2
  have p0 : 0 ≤ p := by rw [← hp]; exact Int.ediv_nonneg (absI_nn _) (by omega)
  have q0 : 0 ≤ q := by rw [← hq]; exact Int.emod_nonneg _ (by omega)
  have q1 : q ≤ 18446744073709551615 := by
    have := Int.emod_lt_of_pos (absI (a * 1152921504606846976 + b)) (show (0 : Int) < 18446744073709551616 by omega)
    omega
  have V := fun w => div64_any p q D w p0 hc (by omega) q0 q1
  rw [hQ, hR] at V
  have Q0 : 0 ≤ Q := by rw [← hQ]; exact Int.ediv_nonneg (by omega) (by omega)
  have hz : (d == 0) = false := by simpa using hd
  replace S := hidden S
  replace A := hidden A
  replace V := hidden V
  clear hn hp hq hD hd hQ hR
  obtain ⟨sd, hsd⟩ : ∃ sd, decide (d < 0) = sd := ⟨_, rfl⟩
  rw [hsd] at hneg
  cases n <;> cases sd <;> simp only [Bool.true_bne, Bool.false_bne, Bool.not_true, Bool.not_false, Bool.true_eq_false] at hneg
  all_goals
   go_enter Tryz.func273, Tryz.ntmps273
   go_wp2_with (first | (((first | (go_at_call 311; refine (wvalid_any _ _ _).mono ?_; rintro e w' ⟨rfl, hb⟩; have nm0 := trivial) | (go_at_call 312; refine (S.out _).mono ?_; rintro e w' ⟨rfl, hb⟩; have nm1 := trivial)); (try replace hb := below_undrew hb); (try replace hb := below_undrewN hb); obtain ⟨hcell, hfroz⟩ := bcell hb; have hz := hb.size; (try simp at hz); (try (have z6 := Nat.lt_of_lt_of_le z7 hz)); (try (have z7 := Nat.lt_of_lt_of_le z8 hz)); (try (have z8 := Nat.lt_of_lt_of_le z9 hz)); (try (have z9 := Nat.lt_of_lt_of_le (Nat.lt_succ_self _) hz)); (try have z0 : w.heap.size < w'.heap.size := by omega); (try have z1 : w.heap.size + 1 < w'.heap.size := by omega); (try have z2 : w.heap.size + 1 + 1 < w'.heap.size := by omega); (try have z3 : w.heap.size + 1 + 1 + 1 < w'.heap.size := by omega); (try have y1 : w1.heap.size < w'.heap.size := by omega); (first | (clear nm0) | (clear nm1; obtain ⟨w1, rfl⟩ : ∃ v, v = w' := ⟨_, rfl⟩)))) | (go_at_call 271; refine (A.out _).mono ?_; rintro e w' ⟨rfl, rfl⟩) | (go_at_call 110; refine (V.out _).mono ?_; rintro e w' ⟨rfl, nd, rfl⟩))
   go_ret2
   first | exact ⟨rfl, by (repeat (first | exact Below.refl _ _ | refine bl_drewN ?_ | refine bl_drew ?_ | refine bl_alloc ?_ _ | refine Below.setCell ?_ (by (first | (simp; done) | (simp; omega) | omega)) _ | refine bl_step (by assumption) ?_))⟩ | exact ⟨ret_two ⟨by (simp only [wrap64, IntKind.wrap_u64]; omega), rfl⟩, by (repeat (first | exact Below.refl _ _ | refine bl_drewN ?_ | refine bl_drew ?_ | refine bl_alloc ?_ _ | refine Below.setCell ?_ (by (first | (simp; done) | (simp; omega) | omega)) _ | refine bl_step (by assumption) ?_))⟩
set_option maxHeartbeats 1000000 in
theorem quo_uprf (a b d p q D Q R : Int) (n : Bool) (w : World) (h : wideB a b = true) (hd : d ≠ 0) (d1 : -9223372036854775808 ≤ d) (d2 : d ≤ 9223372036854775807)
    (hn : n = decide (a < 0)) (hp : absI (a * 1152921504606846976 + b) / 18446744073709551616 = p) (hq : absI (a * 1152921504606846976 + b) % 18446744073709551616 = q) (hD : absI d = D) (hc : p < D)
    (hneg : (n != decide (d < 0)) = false) (hQ : (p * 18446744073709551616 + q) / D = Q) (hR : (p * 18446744073709551616 + q) % D = R) (hr : 0 < R) (hf : Q + 1 < 9223372036854775808) (_hm : Q + 1 ≤ 18446744073709551615) :
    Calls Tryz.prog 273 #[.agg #[.int .i64 a, .int .i64 b], .int .i64 d, .bool true] w fun e w' => e = .returned (.tuple #[.int .i64 (Q + 1), .int .i64 0]) ∧ Below w.heap.size w w' := by
  have S := fun w => sizeof_walk a b p q n w h hn hp hq
  have A := fun w => abs_any d w d1 d2
  rw [hD] at A
  have D0 : D ≤ 9223372036854775808 := by rw [← hD]; exact (absI_bd d d1 d2).2
  have p0 : 0 ≤ p := by rw [← hp]; exact Int.ediv_nonneg (absI_nn _) (by omega)
  have q0 : 0 ≤ q := by rw [← hq]; exact Int.emod_nonneg _ (by omega)
  have q1 : q ≤ 18446744073709551615 := by
    have := Int.emod_lt_of_pos (absI (a * 1152921504606846976 + b)) (show (0 : Int) < 18446744073709551616 by omega)
    omega
  have V := fun w => div64_any p q D w p0 hc (by omega) q0 q1
  rw [hQ, hR] at V
  have Q0 : 0 ≤ Q := by rw [← hQ]; exact Int.ediv_nonneg (by omega) (by omega)
  have hz : (d == 0) = false := by simpa using hd
  replace S := hidden S
  replace A := hidden A
  replace V := hidden V
  clear hn hp hq hD hd hQ hR
  obtain ⟨sd, hsd⟩ : ∃ sd, decide (d < 0) = sd := ⟨_, rfl⟩
  rw [hsd] at hneg
  cases n <;> cases sd <;> simp only [Bool.true_bne, Bool.false_bne, Bool.not_true, Bool.not_false, Bool.true_eq_false] at hneg
  have hz2 : (Q + 1 == 0) = false := by simp; omega
  all_goals
   go_enter Tryz.func273, Tryz.ntmps273
   go_wp2_with (first | (((first | (go_at_call 311; refine (wvalid_any _ _ _).mono ?_; rintro e w' ⟨rfl, hb⟩; have nm0 := trivial) | (go_at_call 312; refine (S.out _).mono ?_; rintro e w' ⟨rfl, hb⟩; have nm1 := trivial)); (try replace hb := below_undrew hb); (try replace hb := below_undrewN hb); obtain ⟨hcell, hfroz⟩ := bcell hb; have hz := hb.size; (try simp at hz); (try (have z6 := Nat.lt_of_lt_of_le z7 hz)); (try (have z7 := Nat.lt_of_lt_of_le z8 hz)); (try (have z8 := Nat.lt_of_lt_of_le z9 hz)); (try (have z9 := Nat.lt_of_lt_of_le (Nat.lt_succ_self _) hz)); (try have z0 : w.heap.size < w'.heap.size := by omega); (try have z1 : w.heap.size + 1 < w'.heap.size := by omega); (try have z2 : w.heap.size + 1 + 1 < w'.heap.size := by omega); (try have z3 : w.heap.size + 1 + 1 + 1 < w'.heap.size := by omega); (try have y1 : w1.heap.size < w'.heap.size := by omega); (first | (clear nm0) | (clear nm1; obtain ⟨w1, rfl⟩ : ∃ v, v = w' := ⟨_, rfl⟩)))) | (go_at_call 271; refine (A.out _).mono ?_; rintro e w' ⟨rfl, rfl⟩) | (go_at_call 110; refine (V.out _).mono ?_; rintro e w' ⟨rfl, nd, rfl⟩))
   go_ret2
   first | exact ⟨rfl, by (repeat (first | exact Below.refl _ _ | refine bl_drewN ?_ | refine bl_drew ?_ | refine bl_alloc ?_ _ | refine Below.setCell ?_ (by (first | (simp; done) | (simp; omega) | omega)) _ | refine bl_step (by assumption) ?_))⟩ | exact ⟨ret_two ⟨by (simp only [wrap64, IntKind.wrap_u64]; omega), rfl⟩, by (repeat (first | exact Below.refl _ _ | refine bl_drewN ?_ | refine bl_drew ?_ | refine bl_alloc ?_ _ | refine Below.setCell ?_ (by (first | (simp; done) | (simp; omega) | omega)) _ | refine bl_step (by assumption) ?_))⟩
set_option maxHeartbeats 1000000 in
theorem quo_uprx (a b d p q D Q R : Int) (n : Bool) (w : World) (h : wideB a b = true) (hd : d ≠ 0) (d1 : -9223372036854775808 ≤ d) (d2 : d ≤ 9223372036854775807)
    (hn : n = decide (a < 0)) (hp : absI (a * 1152921504606846976 + b) / 18446744073709551616 = p) (hq : absI (a * 1152921504606846976 + b) % 18446744073709551616 = q) (hD : absI d = D) (hc : p < D)
    (hneg : (n != decide (d < 0)) = false) (hQ : (p * 18446744073709551616 + q) / D = Q) (hR : (p * 18446744073709551616 + q) % D = R) (hr : 0 < R) (hf : 9223372036854775808 ≤ Q + 1) (hm : Q + 1 ≤ 18446744073709551615) :
    Calls Tryz.prog 273 #[.agg #[.int .i64 a, .int .i64 b], .int .i64 d, .bool true] w fun e w' => e = .returned (.tuple #[.int .i64 0, .int .i64 5]) ∧ Below w.heap.size w w' := by
  have S := fun w => sizeof_walk a b p q n w h hn hp hq
  have A := fun w => abs_any d w d1 d2
  rw [hD] at A
  have D0 : D ≤ 9223372036854775808 := by rw [← hD]; exact (absI_bd d d1 d2).2
  have p0 : 0 ≤ p := by rw [← hp]; exact Int.ediv_nonneg (absI_nn _) (by omega)
  have q0 : 0 ≤ q := by rw [← hq]; exact Int.emod_nonneg _ (by omega)
  have q1 : q ≤ 18446744073709551615 := by
    have := Int.emod_lt_of_pos (absI (a * 1152921504606846976 + b)) (show (0 : Int) < 18446744073709551616 by omega)
    omega
  have V := fun w => div64_any p q D w p0 hc (by omega) q0 q1
  rw [hQ, hR] at V
  have Q0 : 0 ≤ Q := by rw [← hQ]; exact Int.ediv_nonneg (by omega) (by omega)
  have hz : (d == 0) = false := by simpa using hd
  replace S := hidden S
  replace A := hidden A
  replace V := hidden V
  clear hn hp hq hD hd hQ hR
  obtain ⟨sd, hsd⟩ : ∃ sd, decide (d < 0) = sd := ⟨_, rfl⟩
  rw [hsd] at hneg
  cases n <;> cases sd <;> simp only [Bool.true_bne, Bool.false_bne, Bool.not_true, Bool.not_false, Bool.true_eq_false] at hneg
  have hz2 : (Q + 1 == 0) = false := by simp; omega
  all_goals
   go_enter Tryz.func273, Tryz.ntmps273
   go_wp2_with (first | (((first | (go_at_call 311; refine (wvalid_any _ _ _).mono ?_; rintro e w' ⟨rfl, hb⟩; have nm0 := trivial) | (go_at_call 312; refine (S.out _).mono ?_; rintro e w' ⟨rfl, hb⟩; have nm1 := trivial)); (try replace hb := below_undrew hb); (try replace hb := below_undrewN hb); obtain ⟨hcell, hfroz⟩ := bcell hb; have hz := hb.size; (try simp at hz); (try (have z6 := Nat.lt_of_lt_of_le z7 hz)); (try (have z7 := Nat.lt_of_lt_of_le z8 hz)); (try (have z8 := Nat.lt_of_lt_of_le z9 hz)); (try (have z9 := Nat.lt_of_lt_of_le (Nat.lt_succ_self _) hz)); (try have z0 : w.heap.size < w'.heap.size := by omega); (try have z1 : w.heap.size + 1 < w'.heap.size := by omega); (try have z2 : w.heap.size + 1 + 1 < w'.heap.size := by omega); (try have z3 : w.heap.size + 1 + 1 + 1 < w'.heap.size := by omega); (try have y1 : w1.heap.size < w'.heap.size := by omega); (first | (clear nm0) | (clear nm1; obtain ⟨w1, rfl⟩ : ∃ v, v = w' := ⟨_, rfl⟩)))) | (go_at_call 271; refine (A.out _).mono ?_; rintro e w' ⟨rfl, rfl⟩) | (go_at_call 110; refine (V.out _).mono ?_; rintro e w' ⟨rfl, nd, rfl⟩))
   go_ret2
   first | exact ⟨rfl, by (repeat (first | exact Below.refl _ _ | refine bl_drewN ?_ | refine bl_drew ?_ | refine bl_alloc ?_ _ | refine Below.setCell ?_ (by (first | (simp; done) | (simp; omega) | omega)) _ | refine bl_step (by assumption) ?_))⟩ | exact ⟨ret_two ⟨by (simp only [wrap64, IntKind.wrap_u64]; omega), rfl⟩, by (repeat (first | exact Below.refl _ _ | refine bl_drewN ?_ | refine bl_drew ?_ | refine bl_alloc ?_ _ | refine Below.setCell ?_ (by (first | (simp; done) | (simp; omega) | omega)) _ | refine bl_step (by assumption) ?_))⟩
set_option maxHeartbeats 1000000 in
theorem quo_unzf (a b d p q D Q R : Int) (n : Bool) (w : World) (h : wideB a b = true) (hd : d ≠ 0) (d1 : -9223372036854775808 ≤ d) (d2 : d ≤ 9223372036854775807)
    (hn : n = decide (a < 0)) (hp : absI (a * 1152921504606846976 + b) / 18446744073709551616 = p) (hq : absI (a * 1152921504606846976 + b) % 18446744073709551616 = q) (hD : absI d = D) (hc : p < D)
    (hneg : (n != decide (d < 0)) = true) (hQ : (p * 18446744073709551616 + q) / D = Q) (hR : (p * 18446744073709551616 + q) % D = R) (hr : R ≤ 0) (hf : Q ≤ 9223372036854775808) (_hm : Q ≤ 18446744073709551615) :
    Calls Tryz.prog 273 #[.agg #[.int .i64 a, .int .i64 b], .int .i64 d, .bool true] w fun e w' => e = .returned (.tuple #[.int .i64 (-(Q)), .int .i64 0]) ∧ Below w.heap.size w w' := by
  have S := fun w => sizeof_walk a b p q n w h hn hp hq
  have A := fun w => abs_any d w d1 d2
  rw [hD] at A
  have D0 : D ≤ 9223372036854775808 := by rw [← hD]; exact (absI_bd d d1 d2).2
  have p0 : 0 ≤ p := by rw [← hp]; exact Int.ediv_nonneg (absI_nn _) (by omega)
  have q0 : 0 ≤ q := by rw [← hq]; exact Int.emod_nonneg _ (by omega)
  have q1 : q ≤ 18446744073709551615 := by
    have := Int.emod_lt_of_pos (absI (a * 1152921504606846976 + b)) (show (0 : Int) < 18446744073709551616 by omega)
    omega
  have V := fun w => div64_any p q D w p0 hc (by omega) q0 q1
  rw [hQ, hR] at V
  have Q0 : 0 ≤ Q := by rw [← hQ]; exact Int.ediv_nonneg (by omega) (by omega)
  have hz : (d == 0) = false := by simpa using hd
  replace S := hidden S
  replace A := hidden A
  replace V := hidden V
  clear hn hp hq hD hd hQ hR
  obtain ⟨sd, hsd⟩ : ∃ sd, decide (d < 0) = sd := ⟨_, rfl⟩
  rw [hsd] at hneg
  cases n <;> cases sd <;> simp only [Bool.true_bne, Bool.false_bne, Bool.not_true, Bool.not_false, Bool.false_eq_true] at hneg
  all_goals
   go_enter Tryz.func273, Tryz.ntmps273
   go_wp2_with (first | (((first | (go_at_call 311; refine (wvalid_any _ _ _).mono ?_; rintro e w' ⟨rfl, hb⟩; have nm0 := trivial) | (go_at_call 312; refine (S.out _).mono ?_; rintro e w' ⟨rfl, hb⟩; have nm1 := trivial)); (try replace hb := below_undrew hb); (try replace hb := below_undrewN hb); obtain ⟨hcell, hfroz⟩ := bcell hb; have hz := hb.size; (try simp at hz); (try (have z6 := Nat.lt_of_lt_of_le z7 hz)); (try (have z7 := Nat.lt_of_lt_of_le z8 hz)); (try (have z8 := Nat.lt_of_lt_of_le z9 hz)); (try (have z9 := Nat.lt_of_lt_of_le (Nat.lt_succ_self _) hz)); (try have z0 : w.heap.size < w'.heap.size := by omega); (try have z1 : w.heap.size + 1 < w'.heap.size := by omega); (try have z2 : w.heap.size + 1 + 1 < w'.heap.size := by omega); (try have z3 : w.heap.size + 1 + 1 + 1 < w'.heap.size := by omega); (try have y1 : w1.heap.size < w'.heap.size := by omega); (first | (clear nm0) | (clear nm1; obtain ⟨w1, rfl⟩ : ∃ v, v = w' := ⟨_, rfl⟩)))) | (go_at_call 271; refine (A.out _).mono ?_; rintro e w' ⟨rfl, rfl⟩) | (go_at_call 110; refine (V.out _).mono ?_; rintro e w' ⟨rfl, nd, rfl⟩))
   go_ret2
   first | exact ⟨rfl, by (repeat (first | exact Below.refl _ _ | refine bl_drewN ?_ | refine bl_drew ?_ | refine bl_alloc ?_ _ | refine Below.setCell ?_ (by (first | (simp; done) | (simp; omega) | omega)) _ | refine bl_step (by assumption) ?_))⟩ | exact ⟨ret_two ⟨by (simp only [wrap64, IntKind.wrap_u64]; omega), rfl⟩, by (repeat (first | exact Below.refl _ _ | refine bl_drewN ?_ | refine bl_drew ?_ | refine bl_alloc ?_ _ | refine Below.setCell ?_ (by (first | (simp; done) | (simp; omega) | omega)) _ | refine bl_step (by assumption) ?_))⟩
set_option maxHeartbeats 1000000 in
theorem quo_unzx (a b d p q D Q R : Int) (n : Bool) (w : World) (h : wideB a b = true) (hd : d ≠ 0) (d1 : -9223372036854775808 ≤ d) (d2 : d ≤ 9223372036854775807)
    (hn : n = decide (a < 0)) (hp : absI (a * 1152921504606846976 + b) / 18446744073709551616 = p) (hq : absI (a * 1152921504606846976 + b) % 18446744073709551616 = q) (hD : absI d = D) (hc : p < D)
    (hneg : (n != decide (d < 0)) = true) (hQ : (p * 18446744073709551616 + q) / D = Q) (hR : (p * 18446744073709551616 + q) % D = R) (hr : R ≤ 0) (hf : 9223372036854775808 < Q) (hm : Q ≤ 18446744073709551615) :
    Calls Tryz.prog 273 #[.agg #[.int .i64 a, .int .i64 b], .int .i64 d, .bool true] w fun e w' => e = .returned (.tuple #[.int .i64 0, .int .i64 5]) ∧ Below w.heap.size w w' := by
  have S := fun w => sizeof_walk a b p q n w h hn hp hq
  have A := fun w => abs_any d w d1 d2
  rw [hD] at A
  have D0 : D ≤ 9223372036854775808 := by rw [← hD]; exact (absI_bd d d1 d2).2
  have p0 : 0 ≤ p := by rw [← hp]; exact Int.ediv_nonneg (absI_nn _) (by omega)
  have q0 : 0 ≤ q := by rw [← hq]; exact Int.emod_nonneg _ (by omega)
  have q1 : q ≤ 18446744073709551615 := by
    have := Int.emod_lt_of_pos (absI (a * 1152921504606846976 + b)) (show (0 : Int) < 18446744073709551616 by omega)
    omega
  have V := fun w => div64_any p q D w p0 hc (by omega) q0 q1
  rw [hQ, hR] at V
  have Q0 : 0 ≤ Q := by rw [← hQ]; exact Int.ediv_nonneg (by omega) (by omega)
  have hz : (d == 0) = false := by simpa using hd
  replace S := hidden S
  replace A := hidden A
  replace V := hidden V
  clear hn hp hq hD hd hQ hR
  obtain ⟨sd, hsd⟩ : ∃ sd, decide (d < 0) = sd := ⟨_, rfl⟩
  rw [hsd] at hneg
  cases n <;> cases sd <;> simp only [Bool.true_bne, Bool.false_bne, Bool.not_true, Bool.not_false, Bool.false_eq_true] at hneg
  all_goals
   go_enter Tryz.func273, Tryz.ntmps273
   go_wp2_with (first | (((first | (go_at_call 311; refine (wvalid_any _ _ _).mono ?_; rintro e w' ⟨rfl, hb⟩; have nm0 := trivial) | (go_at_call 312; refine (S.out _).mono ?_; rintro e w' ⟨rfl, hb⟩; have nm1 := trivial)); (try replace hb := below_undrew hb); (try replace hb := below_undrewN hb); obtain ⟨hcell, hfroz⟩ := bcell hb; have hz := hb.size; (try simp at hz); (try (have z6 := Nat.lt_of_lt_of_le z7 hz)); (try (have z7 := Nat.lt_of_lt_of_le z8 hz)); (try (have z8 := Nat.lt_of_lt_of_le z9 hz)); (try (have z9 := Nat.lt_of_lt_of_le (Nat.lt_succ_self _) hz)); (try have z0 : w.heap.size < w'.heap.size := by omega); (try have z1 : w.heap.size + 1 < w'.heap.size := by omega); (try have z2 : w.heap.size + 1 + 1 < w'.heap.size := by omega); (try have z3 : w.heap.size + 1 + 1 + 1 < w'.heap.size := by omega); (try have y1 : w1.heap.size < w'.heap.size := by omega); (first | (clear nm0) | (clear nm1; obtain ⟨w1, rfl⟩ : ∃ v, v = w' := ⟨_, rfl⟩)))) | (go_at_call 271; refine (A.out _).mono ?_; rintro e w' ⟨rfl, rfl⟩) | (go_at_call 110; refine (V.out _).mono ?_; rintro e w' ⟨rfl, nd, rfl⟩))
   go_ret2
   first | exact ⟨rfl, by (repeat (first | exact Below.refl _ _ | refine bl_drewN ?_ | refine bl_drew ?_ | refine bl_alloc ?_ _ | refine Below.setCell ?_ (by (first | (simp; done) | (simp; omega) | omega)) _ | refine bl_step (by assumption) ?_))⟩ | exact ⟨ret_two ⟨by (simp only [wrap64, IntKind.wrap_u64]; omega), rfl⟩, by (repeat (first | exact Below.refl _ _ | refine bl_drewN ?_ | refine bl_drew ?_ | refine bl_alloc ?_ _ | refine Below.setCell ?_ (by (first | (simp; done) | (simp; omega) | omega)) _ | refine bl_step (by assumption) ?_))⟩
set_option maxHeartbeats 1000000 in
theorem quo_unrf (a b d p q D Q R : Int) (n : Bool) (w : World) (h : wideB a b = true) (hd : d ≠ 0) (d1 : -9223372036854775808 ≤ d) (d2 : d ≤ 9223372036854775807)
    (hn : n = decide (a < 0)) (hp : absI (a * 1152921504606846976 + b) / 18446744073709551616 = p) (hq : absI (a * 1152921504606846976 + b) % 18446744073709551616 = q) (hD : absI d = D) (hc : p < D)
    (hneg : (n != decide (d < 0)) = true) (hQ : (p * 18446744073709551616 + q) / D = Q) (hR : (p * 18446744073709551616 + q) % D = R) (hr : 0 < R) (hf : Q ≤ 9223372036854775808) (_hm : Q ≤ 18446744073709551615) :
    Calls Tryz.prog 273 #[.agg #[.int .i64 a, .int .i64 b], .int .i64 d, .bool true] w fun e w' => e = .returned (.tuple #[.int .i64 (-(Q)), .int .i64 0]) ∧ Below w.heap.size w w' := by
  have S := fun w => sizeof_walk a b p q n w h hn hp hq
  have A := fun w => abs_any d w d1 d2
  rw [hD] at A
  have D0 : D ≤ 9223372036854775808 := by rw [← hD]; exact (absI_bd d d1 d2).2
  have p0 : 0 ≤ p := by rw [← hp]; exact Int.ediv_nonneg (absI_nn _) (by omega)
  have q0 : 0 ≤ q := by rw [← hq]; exact Int.emod_nonneg _ (by omega)
  have q1 : q ≤ 18446744073709551615 := by
    have := Int.emod_lt_of_pos (absI (a * 1152921504606846976 + b)) (show (0 : Int) < 18446744073709551616 by omega)
    omega
  have V := fun w => div64_any p q D w p0 hc (by omega) q0 q1
  rw [hQ, hR] at V
  have Q0 : 0 ≤ Q := by rw [← hQ]; exact Int.ediv_nonneg (by omega) (by omega)
  have hz : (d == 0) = false := by simpa using hd
  replace S := hidden S
  replace A := hidden A
  replace V := hidden V
  clear hn hp hq hD hd hQ hR
  obtain ⟨sd, hsd⟩ : ∃ sd, decide (d < 0) = sd := ⟨_, rfl⟩
  rw [hsd] at hneg
  cases n <;> cases sd <;> simp only [Bool.true_bne, Bool.false_bne, Bool.not_true, Bool.not_false, Bool.false_eq_true] at hneg
  all_goals
   go_enter Tryz.func273, Tryz.ntmps273
   go_wp2_with (first | (((first | (go_at_call 311; refine (wvalid_any _ _ _).mono ?_; rintro e w' ⟨rfl, hb⟩; have nm0 := trivial) | (go_at_call 312; refine (S.out _).mono ?_; rintro e w' ⟨rfl, hb⟩; have nm1 := trivial)); (try replace hb := below_undrew hb); (try replace hb := below_undrewN hb); obtain ⟨hcell, hfroz⟩ := bcell hb; have hz := hb.size; (try simp at hz); (try (have z6 := Nat.lt_of_lt_of_le z7 hz)); (try (have z7 := Nat.lt_of_lt_of_le z8 hz)); (try (have z8 := Nat.lt_of_lt_of_le z9 hz)); (try (have z9 := Nat.lt_of_lt_of_le (Nat.lt_succ_self _) hz)); (try have z0 : w.heap.size < w'.heap.size := by omega); (try have z1 : w.heap.size + 1 < w'.heap.size := by omega); (try have z2 : w.heap.size + 1 + 1 < w'.heap.size := by omega); (try have z3 : w.heap.size + 1 + 1 + 1 < w'.heap.size := by omega); (try have y1 : w1.heap.size < w'.heap.size := by omega); (first | (clear nm0) | (clear nm1; obtain ⟨w1, rfl⟩ : ∃ v, v = w' := ⟨_, rfl⟩)))) | (go_at_call 271; refine (A.out _).mono ?_; rintro e w' ⟨rfl, rfl⟩) | (go_at_call 110; refine (V.out _).mono ?_; rintro e w' ⟨rfl, nd, rfl⟩))
   go_ret2
   first | exact ⟨rfl, by (repeat (first | exact Below.refl _ _ | refine bl_drewN ?_ | refine bl_drew ?_ | refine bl_alloc ?_ _ | refine Below.setCell ?_ (by (first | (simp; done) | (simp; omega) | omega)) _ | refine bl_step (by assumption) ?_))⟩ | exact ⟨ret_two ⟨by (simp only [wrap64, IntKind.wrap_u64]; omega), rfl⟩, by (repeat (first | exact Below.refl _ _ | refine bl_drewN ?_ | refine bl_drew ?_ | refine bl_alloc ?_ _ | refine Below.setCell ?_ (by (first | (simp; done) | (simp; omega) | omega)) _ | refine bl_step (by assumption) ?_))⟩
set_option maxHeartbeats 1000000 in
theorem quo_unrx (a b d p q D Q R : Int) (n : Bool) (w : World) (h : wideB a b = true) (hd : d ≠ 0) (d1 : -9223372036854775808 ≤ d) (d2 : d ≤ 9223372036854775807)
    (hn : n = decide (a < 0)) (hp : absI (a * 1152921504606846976 + b) / 18446744073709551616 = p) (hq : absI (a * 1152921504606846976 + b) % 18446744073709551616 = q) (hD : absI d = D) (hc : p < D)
    (hneg : (n != decide (d < 0)) = true) (hQ : (p * 18446744073709551616 + q) / D = Q) (hR : (p * 18446744073709551616 + q) % D = R) (hr : 0 < R) (hf : 9223372036854775808 < Q) (hm : Q ≤ 18446744073709551615) :
    Calls Tryz.prog 273 #[.agg #[.int .i64 a, .int .i64 b], .int .i64 d, .bool true] w fun e w' => e = .returned (.tuple #[.int .i64 0, .int .i64 5]) ∧ Below w.heap.size w w' := by
  have S := fun w => sizeof_walk a b p q n w h hn hp hq
  have A := fun w => abs_any d w d1 d2
  rw [hD] at A
  have D0 : D ≤ 9223372036854775808 := by rw [← hD]; exact (absI_bd d d1 d2).2
  have p0 : 0 ≤ p := by rw [← hp]; exact Int.ediv_nonneg (absI_nn _) (by omega)
  have q0 : 0 ≤ q := by rw [← hq]; exact Int.emod_nonneg _ (by omega)
  have q1 : q ≤ 18446744073709551615 := by
    have := Int.emod_lt_of_pos (absI (a * 1152921504606846976 + b)) (show (0 : Int) < 18446744073709551616 by omega)
    omega
  have V := fun w => div64_any p q D w p0 hc (by omega) q0 q1
  rw [hQ, hR] at V
  have Q0 : 0 ≤ Q := by rw [← hQ]; exact Int.ediv_nonneg (by omega) (by omega)
  have hz : (d == 0) = false := by simpa using hd
  replace S := hidden S
  replace A := hidden A
  replace V := hidden V
  clear hn hp hq hD hd hQ hR
  obtain ⟨sd, hsd⟩ : ∃ sd, decide (d < 0) = sd := ⟨_, rfl⟩
  rw [hsd] at hneg
  cases n <;> cases sd <;> simp only [Bool.true_bne, Bool.false_bne, Bool.not_true, Bool.not_false, Bool.false_eq_true] at hneg
  all_goals
   go_enter Tryz.func273, Tryz.ntmps273
   go_wp2_with (first | (((first | (go_at_call 311; refine (wvalid_any _ _ _).mono ?_; rintro e w' ⟨rfl, hb⟩; have nm0 := trivial) | (go_at_call 312; refine (S.out _).mono ?_; rintro e w' ⟨rfl, hb⟩; have nm1 := trivial)); (try replace hb := below_undrew hb); (try replace hb := below_undrewN hb); obtain ⟨hcell, hfroz⟩ := bcell hb; have hz := hb.size; (try simp at hz); (try (have z6 := Nat.lt_of_lt_of_le z7 hz)); (try (have z7 := Nat.lt_of_lt_of_le z8 hz)); (try (have z8 := Nat.lt_of_lt_of_le z9 hz)); (try (have z9 := Nat.lt_of_lt_of_le (Nat.lt_succ_self _) hz)); (try have z0 : w.heap.size < w'.heap.size := by omega); (try have z1 : w.heap.size + 1 < w'.heap.size := by omega); (try have z2 : w.heap.size + 1 + 1 < w'.heap.size := by omega); (try have z3 : w.heap.size + 1 + 1 + 1 < w'.heap.size := by omega); (try have y1 : w1.heap.size < w'.heap.size := by omega); (first | (clear nm0) | (clear nm1; obtain ⟨w1, rfl⟩ : ∃ v, v = w' := ⟨_, rfl⟩)))) | (go_at_call 271; refine (A.out _).mono ?_; rintro e w' ⟨rfl, rfl⟩) | (go_at_call 110; refine (V.out _).mono ?_; rintro e w' ⟨rfl, nd, rfl⟩))
   go_ret2
   first | exact ⟨rfl, by (repeat (first | exact Below.refl _ _ | refine bl_drewN ?_ | refine bl_drew ?_ | refine bl_alloc ?_ _ | refine Below.setCell ?_ (by (first | (simp; done) | (simp; omega) | omega)) _ | refine bl_step (by assumption) ?_))⟩ | exact ⟨ret_two ⟨by (simp only [wrap64, IntKind.wrap_u64]; omega), rfl⟩, by (repeat (first | exact Below.refl _ _ | refine bl_drewN ?_ | refine bl_drew ?_ | refine bl_alloc ?_ _ | refine Below.setCell ?_ (by (first | (simp; done) | (simp; omega) | omega)) _ | refine bl_step (by assumption) ?_))⟩
/-- a quotient rounded down, whatever the divisor's sign; and up -/
def fl (V d : Int) : Int := if 0 < d then V / d else (-V) / (-d)
def ce (V d : Int) : Int := -(fl (-V) d)
theorem neg_div (M D : Int) (hD : 0 < D) : (-M) / D = if 0 < M % D then -(M / D) - 1 else -(M / D) := by
  have e := Int.mul_ediv_add_emod M D
  have r0 := Int.emod_nonneg M (Int.ne_of_gt hD)
  have r1 := Int.emod_lt_of_pos M hD
  generalize M / D = Q at *
  generalize M % D = R at *
  split
  · apply Int.le_antisymm
    · have : (-M) / D < -Q := Int.ediv_lt_of_lt_mul hD (by rw [Int.neg_mul, Int.mul_comm Q D]; omega)
      omega
    · apply (Int.le_ediv_iff_mul_le hD).2
      rw [Int.sub_mul, Int.neg_mul, Int.mul_comm Q D]; omega
  · apply Int.le_antisymm
    · have : (-M) / D < -Q + 1 := Int.ediv_lt_of_lt_mul hD (by rw [Int.add_mul, Int.neg_mul, Int.mul_comm Q D]; omega)
      omega
    · apply (Int.le_ediv_iff_mul_le hD).2
      rw [Int.neg_mul, Int.mul_comm Q D]; omega
theorem fl_abs (V d : Int) (hd : d ≠ 0) : fl V d = if (decide (V < 0) != decide (d < 0)) = true then (if 0 < absI V % absI d then -(absI V / absI d) - 1 else -(absI V / absI d)) else absI V / absI d := by
  have hD : 0 < absI d := by unfold absI; split <;> omega
  have h1 := neg_div (absI V) (absI d) hD
  unfold fl
  by_cases hv : V < 0
  · have ev : absI V = -V := by unfold absI; rw [if_pos hv]
    by_cases hn : d < 0
    · have ed : absI d = -d := by unfold absI; rw [if_pos hn]
      have e2 : -V / -d = absI V / absI d := by rw [ev, ed]
      rw [if_neg (by omega), e2]; simp [hv, hn]
    · have ed : absI d = d := by unfold absI; rw [if_neg hn]
      have e2 : V / d = -absI V / absI d := by rw [ev, ed, Int.neg_neg]
      rw [if_pos (by omega), e2, h1]; simp [hv, hn]
  · have ev : absI V = V := by unfold absI; rw [if_neg hv]
    by_cases hn : d < 0
    · have ed : absI d = -d := by unfold absI; rw [if_pos hn]
      have e2 : -V / -d = -absI V / absI d := by rw [ev, ed]
      rw [if_neg (by omega), e2, h1]; simp [hv, hn]
    · have ed : absI d = d := by unfold absI; rw [if_neg hn]
      have e2 : V / d = absI V / absI d := by rw [ev, ed]
      rw [if_pos (by omega), e2]; simp [hv, hn]
theorem ce_abs (V d : Int) (hd : d ≠ 0) : ce V d = if (decide (V < 0) != decide (d < 0)) = true then -(absI V / absI d) else (if 0 < absI V % absI d then absI V / absI d + 1 else absI V / absI d) := by
  unfold ce
  rw [fl_abs (-V) d hd]
  have ev : absI (-V) = absI V := by unfold absI; split <;> split <;> omega
  rw [ev]
  by_cases hz : V = 0
  · subst hz
    have : absI 0 = 0 := rfl
    rw [this]; simp
  · have e : decide (-V < 0) = !decide (V < 0) := by
      by_cases hv : V < 0
      · simp [hv]; omega
      · simp [hv]; omega
    rw [e]
    by_cases hv : V < 0 <;> by_cases hn : d < 0 <;> simp [hv, hn] <;> split <;> omega
set_option maxHeartbeats 1000000 in
theorem quo_dnro (a b d p q D Q R : Int) (n : Bool) (w : World) (h : wideB a b = true) (hd : d ≠ 0) (d1 : -9223372036854775808 ≤ d) (d2 : d ≤ 9223372036854775807)
    (hn : n = decide (a < 0)) (hp : absI (a * 1152921504606846976 + b) / 18446744073709551616 = p) (hq : absI (a * 1152921504606846976 + b) % 18446744073709551616 = q) (hD : absI d = D) (hc : p < D)
    (hneg : (n != decide (d < 0)) = true) (hQ : (p * 18446744073709551616 + q) / D = Q) (hR : (p * 18446744073709551616 + q) % D = R) (hr : 0 < R) (hf : 18446744073709551615 ≤ Q) (hm : Q ≤ 18446744073709551615) :
    Calls Tryz.prog 273 #[.agg #[.int .i64 a, .int .i64 b], .int .i64 d, .bool false] w fun e w' => e = .returned (.tuple #[.int .i64 0, .int .i64 5]) ∧ Below w.heap.size w w' := by
  have S := fun w => sizeof_walk a b p q n w h hn hp hq
  have A := fun w => abs_any d w d1 d2
  rw [hD] at A
  have D0 : D ≤ 9223372036854775808 := by rw [← hD]; exact (absI_bd d d1 d2).2
  have p0 : 0 ≤ p := by rw [← hp]; exact Int.ediv_nonneg (absI_nn _) (by omega)
  have q0 : 0 ≤ q := by rw [← hq]; exact Int.emod_nonneg _ (by omega)
  have q1 : q ≤ 18446744073709551615 := by
    have := Int.emod_lt_of_pos (absI (a * 1152921504606846976 + b)) (show (0 : Int) < 18446744073709551616 by omega)
    omega
  have V := fun w => div64_any p q D w p0 hc (by omega) q0 q1
  rw [hQ, hR] at V
  have Q0 : 0 ≤ Q := by rw [← hQ]; exact Int.ediv_nonneg (by omega) (by omega)
  have hz : (d == 0) = false := by simpa using hd
  replace S := hidden S
  replace A := hidden A
  replace V := hidden V
  clear hn hp hq hD hd hQ hR
  have hz2 : (IntKind.u64.wrap (Q + 1) == 0) = true := by (rw [IntKind.wrap_u64, beq_iff_eq]; omega)
  obtain ⟨sd, hsd⟩ : ∃ sd, decide (d < 0) = sd := ⟨_, rfl⟩
  rw [hsd] at hneg
  cases n <;> cases sd <;> simp only [Bool.true_bne, Bool.false_bne, Bool.not_true, Bool.not_false, Bool.false_eq_true] at hneg
  all_goals
   go_enter Tryz.func273, Tryz.ntmps273
   go_wp2_with (first | (((first | (go_at_call 311; refine (wvalid_any _ _ _).mono ?_; rintro e w' ⟨rfl, hb⟩; have nm0 := trivial) | (go_at_call 312; refine (S.out _).mono ?_; rintro e w' ⟨rfl, hb⟩; have nm1 := trivial)); (try replace hb := below_undrew hb); (try replace hb := below_undrewN hb); obtain ⟨hcell, hfroz⟩ := bcell hb; have hz := hb.size; (try simp at hz); (try (have z6 := Nat.lt_of_lt_of_le z7 hz)); (try (have z7 := Nat.lt_of_lt_of_le z8 hz)); (try (have z8 := Nat.lt_of_lt_of_le z9 hz)); (try (have z9 := Nat.lt_of_lt_of_le (Nat.lt_succ_self _) hz)); (try have z0 : w.heap.size < w'.heap.size := by omega); (try have z1 : w.heap.size + 1 < w'.heap.size := by omega); (try have z2 : w.heap.size + 1 + 1 < w'.heap.size := by omega); (try have z3 : w.heap.size + 1 + 1 + 1 < w'.heap.size := by omega); (try have y1 : w1.heap.size < w'.heap.size := by omega); (first | (clear nm0) | (clear nm1; obtain ⟨w1, rfl⟩ : ∃ v, v = w' := ⟨_, rfl⟩)))) | (go_at_call 271; refine (A.out _).mono ?_; rintro e w' ⟨rfl, rfl⟩) | (go_at_call 110; refine (V.out _).mono ?_; rintro e w' ⟨rfl, nd, rfl⟩))
   go_ret2
   first | exact ⟨rfl, by (repeat (first | exact Below.refl _ _ | refine bl_drewN ?_ | refine bl_drew ?_ | refine bl_alloc ?_ _ | refine Below.setCell ?_ (by (first | (simp; done) | (simp; omega) | omega)) _ | refine bl_step (by assumption) ?_))⟩ | exact ⟨ret_two ⟨by (simp only [wrap64, IntKind.wrap_u64]; omega), rfl⟩, by (repeat (first | exact Below.refl _ _ | refine bl_drewN ?_ | refine bl_drew ?_ | refine bl_alloc ?_ _ | refine Below.setCell ?_ (by (first | (simp; done) | (simp; omega) | omega)) _ | refine bl_step (by assumption) ?_))⟩
set_option maxHeartbeats 1000000 in
theorem quo_upro (a b d p q D Q R : Int) (n : Bool) (w : World) (h : wideB a b = true) (hd : d ≠ 0) (d1 : -9223372036854775808 ≤ d) (d2 : d ≤ 9223372036854775807)
    (hn : n = decide (a < 0)) (hp : absI (a * 1152921504606846976 + b) / 18446744073709551616 = p) (hq : absI (a * 1152921504606846976 + b) % 18446744073709551616 = q) (hD : absI d = D) (hc : p < D)
    (hneg : (n != decide (d < 0)) = false) (hQ : (p * 18446744073709551616 + q) / D = Q) (hR : (p * 18446744073709551616 + q) % D = R) (hr : 0 < R) (hf : 18446744073709551615 ≤ Q) (hm : Q ≤ 18446744073709551615) :
    Calls Tryz.prog 273 #[.agg #[.int .i64 a, .int .i64 b], .int .i64 d, .bool true] w fun e w' => e = .returned (.tuple #[.int .i64 0, .int .i64 5]) ∧ Below w.heap.size w w' := by
  have S := fun w => sizeof_walk a b p q n w h hn hp hq
  have A := fun w => abs_any d w d1 d2
  rw [hD] at A
  have D0 : D ≤ 9223372036854775808 := by rw [← hD]; exact (absI_bd d d1 d2).2
  have p0 : 0 ≤ p := by rw [← hp]; exact Int.ediv_nonneg (absI_nn _) (by omega)
  have q0 : 0 ≤ q := by rw [← hq]; exact Int.emod_nonneg _ (by omega)
  have q1 : q ≤ 18446744073709551615 := by
    have := Int.emod_lt_of_pos (absI (a * 1152921504606846976 + b)) (show (0 : Int) < 18446744073709551616 by omega)
    omega
  have V := fun w => div64_any p q D w p0 hc (by omega) q0 q1
  rw [hQ, hR] at V
  have Q0 : 0 ≤ Q := by rw [← hQ]; exact Int.ediv_nonneg (by omega) (by omega)
  have hz : (d == 0) = false := by simpa using hd
  replace S := hidden S
  replace A := hidden A
  replace V := hidden V
  clear hn hp hq hD hd hQ hR
  have hz2 : (IntKind.u64.wrap (Q + 1) == 0) = true := by (rw [IntKind.wrap_u64, beq_iff_eq]; omega)
  obtain ⟨sd, hsd⟩ : ∃ sd, decide (d < 0) = sd := ⟨_, rfl⟩
  rw [hsd] at hneg
  cases n <;> cases sd <;> simp only [Bool.true_bne, Bool.false_bne, Bool.not_true, Bool.not_false, Bool.true_eq_false] at hneg
  all_goals
   go_enter Tryz.func273, Tryz.ntmps273
   go_wp2_with (first | (((first | (go_at_call 311; refine (wvalid_any _ _ _).mono ?_; rintro e w' ⟨rfl, hb⟩; have nm0 := trivial) | (go_at_call 312; refine (S.out _).mono ?_; rintro e w' ⟨rfl, hb⟩; have nm1 := trivial)); (try replace hb := below_undrew hb); (try replace hb := below_undrewN hb); obtain ⟨hcell, hfroz⟩ := bcell hb; have hz := hb.size; (try simp at hz); (try (have z6 := Nat.lt_of_lt_of_le z7 hz)); (try (have z7 := Nat.lt_of_lt_of_le z8 hz)); (try (have z8 := Nat.lt_of_lt_of_le z9 hz)); (try (have z9 := Nat.lt_of_lt_of_le (Nat.lt_succ_self _) hz)); (try have z0 : w.heap.size < w'.heap.size := by omega); (try have z1 : w.heap.size + 1 < w'.heap.size := by omega); (try have z2 : w.heap.size + 1 + 1 < w'.heap.size := by omega); (try have z3 : w.heap.size + 1 + 1 + 1 < w'.heap.size := by omega); (try have y1 : w1.heap.size < w'.heap.size := by omega); (first | (clear nm0) | (clear nm1; obtain ⟨w1, rfl⟩ : ∃ v, v = w' := ⟨_, rfl⟩)))) | (go_at_call 271; refine (A.out _).mono ?_; rintro e w' ⟨rfl, rfl⟩) | (go_at_call 110; refine (V.out _).mono ?_; rintro e w' ⟨rfl, nd, rfl⟩))
   go_ret2
   first | exact ⟨rfl, by (repeat (first | exact Below.refl _ _ | refine bl_drewN ?_ | refine bl_drew ?_ | refine bl_alloc ?_ _ | refine Below.setCell ?_ (by (first | (simp; done) | (simp; omega) | omega)) _ | refine bl_step (by assumption) ?_))⟩ | exact ⟨ret_two ⟨by (simp only [wrap64, IntKind.wrap_u64]; omega), rfl⟩, by (repeat (first | exact Below.refl _ _ | refine bl_drewN ?_ | refine bl_drew ?_ | refine bl_alloc ?_ _ | refine Below.setCell ?_ (by (first | (simp; done) | (simp; omega) | omega)) _ | refine bl_step (by assumption) ?_))⟩
/-- a number and no error if it fits an int, else the error -/
def fitT (x : Int) : Value := if -9223372036854775808 ≤ x ∧ x ≤ 9223372036854775807 then .tuple #[.int .i64 x, .int .i64 0] else .tuple #[.int .i64 0, .int .i64 5]
theorem fitT_ok (x : Int) (h : -9223372036854775808 ≤ x ∧ x ≤ 9223372036854775807) : fitT x = .tuple #[.int .i64 x, .int .i64 0] := if_pos h
theorem fitT_no (x : Int) (h : ¬ (-9223372036854775808 ≤ x ∧ x ≤ 9223372036854775807)) : fitT x = .tuple #[.int .i64 0, .int .i64 5] := if_neg h
theorem quo_down (a b d : Int) (w : World) (h : wideB a b = true) (hd : d ≠ 0) (d1 : -9223372036854775808 ≤ d) (d2 : d ≤ 9223372036854775807) :
    Calls Tryz.prog 273 #[.agg #[.int .i64 a, .int .i64 b], .int .i64 d, .bool false] w fun e w' => e = .returned (fitT (fl (a * 1152921504606846976 + b) d)) ∧ Below w.heap.size w w' := by
  have hw := wideB_t h
  have hs : decide (a * 1152921504606846976 + b < 0) = decide (a < 0) := by simp only [decide_eq_decide]; omega
  have F := fl_abs (a * 1152921504606846976 + b) d hd
  rw [hs] at F
  have M0 := absI_nn (a * 1152921504606846976 + b)
  have D0 : 0 < absI d := by unfold absI; split <;> omega
  have D1 := (absI_bd d d1 d2).2
  have e := Int.mul_ediv_add_emod (absI (a * 1152921504606846976 + b)) 18446744073709551616
  have q0 := Int.emod_nonneg (absI (a * 1152921504606846976 + b)) (show (18446744073709551616 : Int) ≠ 0 by omega)
  have q1 := Int.emod_lt_of_pos (absI (a * 1152921504606846976 + b)) (show (0 : Int) < 18446744073709551616 by omega)
  have p0 : 0 ≤ absI (a * 1152921504606846976 + b) / 18446744073709551616 := Int.ediv_nonneg M0 (by omega)
  obtain ⟨p, hp⟩ : ∃ p, absI (a * 1152921504606846976 + b) / 18446744073709551616 = p := ⟨_, rfl⟩
  obtain ⟨q, hq⟩ : ∃ q, absI (a * 1152921504606846976 + b) % 18446744073709551616 = q := ⟨_, rfl⟩
  obtain ⟨D, hD⟩ : ∃ D, absI d = D := ⟨_, rfl⟩
  rw [hp, hq] at e
  rw [hq] at q0 q1
  rw [hp] at p0
  have eM : absI (a * 1152921504606846976 + b) = p * 18446744073709551616 + q := by omega
  rw [eM, hD] at F
  rw [hD] at D0 D1
  have R0 := Int.emod_nonneg (p * 18446744073709551616 + q) (Int.ne_of_gt D0)
  have R1 := Int.emod_lt_of_pos (p * 18446744073709551616 + q) D0
  have eR := Int.mul_ediv_add_emod (p * 18446744073709551616 + q) D
  by_cases hc : D ≤ p
  · refine (quo_big0 a b d p q D false _ w h hd d1 d2 rfl hp hq hD hc).mono ?_
    rintro e w' ⟨rfl, hb⟩
    have big : 18446744073709551616 ≤ (p * 18446744073709551616 + q) / D := (Int.le_ediv_iff_mul_le D0).2 (by omega)
    refine ⟨?_, hb⟩
    rw [fitT_no]
    rw [F]
    split <;> (try split) <;> omega
  have hc := Int.not_le.1 hc
  have small : (p * 18446744073709551616 + q) / D < 18446744073709551616 := Int.ediv_lt_of_lt_mul D0 (by omega)
  have Q0 : 0 ≤ (p * 18446744073709551616 + q) / D := Int.ediv_nonneg (by omega) (by omega)
  obtain ⟨Q, hQ⟩ : ∃ Q, (p * 18446744073709551616 + q) / D = Q := ⟨_, rfl⟩
  obtain ⟨R, hR⟩ : ∃ R, (p * 18446744073709551616 + q) % D = R := ⟨_, rfl⟩
  rw [hQ] at small Q0
  rw [hR] at R0
  rw [hQ, hR] at F
  clear eR R1 e M0
  by_cases hneg : (decide (a < 0) != decide (d < 0)) = true
  · rw [if_pos hneg] at F
    by_cases hr : 0 < R
    · rw [if_pos hr] at F
      by_cases ho : 18446744073709551615 ≤ Q
      · refine (quo_dnro a b d p q D Q R _ w h hd d1 d2 rfl hp hq hD hc hneg hQ hR hr ho (by omega)).mono ?_
        rintro e w' ⟨rfl, hb⟩
        exact ⟨by rw [F, fitT_no _ (by omega)], hb⟩
      by_cases hf : Q + 1 ≤ 9223372036854775808
      · refine (quo_dnrf a b d p q D Q R _ w h hd d1 d2 rfl hp hq hD hc hneg hQ hR hr hf (by omega)).mono ?_
        rintro e w' ⟨rfl, hb⟩
        exact ⟨by rw [F, show -Q - 1 = -(Q + 1) by omega, fitT_ok _ (by omega)], hb⟩
      · refine (quo_dnrx a b d p q D Q R _ w h hd d1 d2 rfl hp hq hD hc hneg hQ hR hr (by omega) (by omega)).mono ?_
        rintro e w' ⟨rfl, hb⟩
        exact ⟨by rw [F, fitT_no _ (by omega)], hb⟩
    · rw [if_neg hr] at F
      by_cases hf : Q ≤ 9223372036854775808
      · refine (quo_dnzf a b d p q D Q R _ w h hd d1 d2 rfl hp hq hD hc hneg hQ hR (Int.not_lt.1 hr) hf (by omega)).mono ?_
        rintro e w' ⟨rfl, hb⟩
        exact ⟨by rw [F, fitT_ok _ (by omega)], hb⟩
      · refine (quo_dnzx a b d p q D Q R _ w h hd d1 d2 rfl hp hq hD hc hneg hQ hR (Int.not_lt.1 hr) (by omega) (by omega)).mono ?_
        rintro e w' ⟨rfl, hb⟩
        exact ⟨by rw [F, fitT_no _ (by omega)], hb⟩
  · rw [if_neg hneg] at F
    replace hneg := Bool.eq_false_iff.2 hneg
    by_cases hr : 0 < R
    · by_cases hf : Q < 9223372036854775808
      · refine (quo_dprf a b d p q D Q R _ w h hd d1 d2 rfl hp hq hD hc hneg hQ hR hr hf (by omega)).mono ?_
        rintro e w' ⟨rfl, hb⟩
        exact ⟨by rw [F, fitT_ok _ (by omega)], hb⟩
      · refine (quo_dprx a b d p q D Q R _ w h hd d1 d2 rfl hp hq hD hc hneg hQ hR hr (by omega) (by omega)).mono ?_
        rintro e w' ⟨rfl, hb⟩
        exact ⟨by rw [F, fitT_no _ (by omega)], hb⟩
    · by_cases hf : Q < 9223372036854775808
      · refine (quo_dpzf a b d p q D Q R _ w h hd d1 d2 rfl hp hq hD hc hneg hQ hR (Int.not_lt.1 hr) hf (by omega)).mono ?_
        rintro e w' ⟨rfl, hb⟩
        exact ⟨by rw [F, fitT_ok _ (by omega)], hb⟩
      · refine (quo_dpzx a b d p q D Q R _ w h hd d1 d2 rfl hp hq hD hc hneg hQ hR (Int.not_lt.1 hr) (by omega) (by omega)).mono ?_
        rintro e w' ⟨rfl, hb⟩
        exact ⟨by rw [F, fitT_no _ (by omega)], hb⟩
theorem quo_up (a b d : Int) (w : World) (h : wideB a b = true) (hd : d ≠ 0) (d1 : -9223372036854775808 ≤ d) (d2 : d ≤ 9223372036854775807) :
    Calls Tryz.prog 273 #[.agg #[.int .i64 a, .int .i64 b], .int .i64 d, .bool true] w fun e w' => e = .returned (fitT (ce (a * 1152921504606846976 + b) d)) ∧ Below w.heap.size w w' := by
  have hw := wideB_t h
  have hs : decide (a * 1152921504606846976 + b < 0) = decide (a < 0) := by simp only [decide_eq_decide]; omega
  have F := ce_abs (a * 1152921504606846976 + b) d hd
  rw [hs] at F
  have M0 := absI_nn (a * 1152921504606846976 + b)
  have D0 : 0 < absI d := by unfold absI; split <;> omega
  have D1 := (absI_bd d d1 d2).2
  have e := Int.mul_ediv_add_emod (absI (a * 1152921504606846976 + b)) 18446744073709551616
  have q0 := Int.emod_nonneg (absI (a * 1152921504606846976 + b)) (show (18446744073709551616 : Int) ≠ 0 by omega)
  have q1 := Int.emod_lt_of_pos (absI (a * 1152921504606846976 + b)) (show (0 : Int) < 18446744073709551616 by omega)
  have p0 : 0 ≤ absI (a * 1152921504606846976 + b) / 18446744073709551616 := Int.ediv_nonneg M0 (by omega)
  obtain ⟨p, hp⟩ : ∃ p, absI (a * 1152921504606846976 + b) / 18446744073709551616 = p := ⟨_, rfl⟩
  obtain ⟨q, hq⟩ : ∃ q, absI (a * 1152921504606846976 + b) % 18446744073709551616 = q := ⟨_, rfl⟩
  obtain ⟨D, hD⟩ : ∃ D, absI d = D := ⟨_, rfl⟩
  rw [hp, hq] at e
  rw [hq] at q0 q1
  rw [hp] at p0
  have eM : absI (a * 1152921504606846976 + b) = p * 18446744073709551616 + q := by omega
  rw [eM, hD] at F
  rw [hD] at D0 D1
  have R0 := Int.emod_nonneg (p * 18446744073709551616 + q) (Int.ne_of_gt D0)
  have R1 := Int.emod_lt_of_pos (p * 18446744073709551616 + q) D0
  have eR := Int.mul_ediv_add_emod (p * 18446744073709551616 + q) D
  by_cases hc : D ≤ p
  · refine (quo_big0 a b d p q D true _ w h hd d1 d2 rfl hp hq hD hc).mono ?_
    rintro e w' ⟨rfl, hb⟩
    have big : 18446744073709551616 ≤ (p * 18446744073709551616 + q) / D := (Int.le_ediv_iff_mul_le D0).2 (by omega)
    refine ⟨?_, hb⟩
    rw [fitT_no]
    rw [F]
    split <;> (try split) <;> omega
  have hc := Int.not_le.1 hc
  have small : (p * 18446744073709551616 + q) / D < 18446744073709551616 := Int.ediv_lt_of_lt_mul D0 (by omega)
  have Q0 : 0 ≤ (p * 18446744073709551616 + q) / D := Int.ediv_nonneg (by omega) (by omega)
  obtain ⟨Q, hQ⟩ : ∃ Q, (p * 18446744073709551616 + q) / D = Q := ⟨_, rfl⟩
  obtain ⟨R, hR⟩ : ∃ R, (p * 18446744073709551616 + q) % D = R := ⟨_, rfl⟩
  rw [hQ] at small Q0
  rw [hR] at R0
  rw [hQ, hR] at F
  clear eR R1 e M0
  by_cases hneg : (decide (a < 0) != decide (d < 0)) = true
  · rw [if_pos hneg] at F
    by_cases hr : 0 < R
    · by_cases hf : Q ≤ 9223372036854775808
      · refine (quo_unrf a b d p q D Q R _ w h hd d1 d2 rfl hp hq hD hc hneg hQ hR hr hf (by omega)).mono ?_
        rintro e w' ⟨rfl, hb⟩
        exact ⟨by rw [F, fitT_ok _ (by omega)], hb⟩
      · refine (quo_unrx a b d p q D Q R _ w h hd d1 d2 rfl hp hq hD hc hneg hQ hR hr (by omega) (by omega)).mono ?_
        rintro e w' ⟨rfl, hb⟩
        exact ⟨by rw [F, fitT_no _ (by omega)], hb⟩
    · by_cases hf : Q ≤ 9223372036854775808
      · refine (quo_unzf a b d p q D Q R _ w h hd d1 d2 rfl hp hq hD hc hneg hQ hR (Int.not_lt.1 hr) hf (by omega)).mono ?_
        rintro e w' ⟨rfl, hb⟩
        exact ⟨by rw [F, fitT_ok _ (by omega)], hb⟩
      · refine (quo_unzx a b d p q D Q R _ w h hd d1 d2 rfl hp hq hD hc hneg hQ hR (Int.not_lt.1 hr) (by omega) (by omega)).mono ?_
        rintro e w' ⟨rfl, hb⟩
        exact ⟨by rw [F, fitT_no _ (by omega)], hb⟩
  · rw [if_neg hneg] at F
    replace hneg := Bool.eq_false_iff.2 hneg
    by_cases hr : 0 < R
    · rw [if_pos hr] at F
      by_cases ho : 18446744073709551615 ≤ Q
      · refine (quo_upro a b d p q D Q R _ w h hd d1 d2 rfl hp hq hD hc hneg hQ hR hr ho (by omega)).mono ?_
        rintro e w' ⟨rfl, hb⟩
        exact ⟨by rw [F, fitT_no _ (by omega)], hb⟩
      by_cases hf : Q + 1 < 9223372036854775808
      · refine (quo_uprf a b d p q D Q R _ w h hd d1 d2 rfl hp hq hD hc hneg hQ hR hr hf (by omega)).mono ?_
        rintro e w' ⟨rfl, hb⟩
        exact ⟨by rw [F, fitT_ok _ (by omega)], hb⟩
      · refine (quo_uprx a b d p q D Q R _ w h hd d1 d2 rfl hp hq hD hc hneg hQ hR hr (by omega) (by omega)).mono ?_
        rintro e w' ⟨rfl, hb⟩
        exact ⟨by rw [F, fitT_no _ (by omega)], hb⟩
    · rw [if_neg hr] at F
      by_cases hf : Q < 9223372036854775808
      · refine (quo_upzf a b d p q D Q R _ w h hd d1 d2 rfl hp hq hD hc hneg hQ hR (Int.not_lt.1 hr) hf (by omega)).mono ?_
        rintro e w' ⟨rfl, hb⟩
        exact ⟨by rw [F, fitT_ok _ (by omega)], hb⟩
      · refine (quo_upzx a b d p q D Q R _ w h hd d1 d2 rfl hp hq hD hc hneg hQ hR (Int.not_lt.1 hr) (by omega) (by omega)).mono ?_
        rintro e w' ⟨rfl, hb⟩
        exact ⟨by rw [F, fitT_no _ (by omega)], hb⟩
end Go.Proofs.YtdhbeoahpfimbaaGreat
