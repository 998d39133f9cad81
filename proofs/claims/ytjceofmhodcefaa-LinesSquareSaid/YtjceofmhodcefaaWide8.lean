/- The quotient of a wide integer by an integer, rounded down and up: Floor and Ceil of package wide. -/
import Derived.Test.YtjceofmhodcefaaWide6
import Derived.Test.YtjceofmhodcefaaWide7
namespace Go.Proofs.Ytjceofmhodcefaa
open Go.RowKit

/-- a number and no error if it fits an int, else the error -/
def fitT (x : Int) : Value := if -9223372036854775808 ≤ x ∧ x ≤ 9223372036854775807 then .tuple #[.int .i64 x, .int .i64 0] else .tuple #[.int .i64 0, .int .i64 5]
theorem fitT_ok (x : Int) (h : -9223372036854775808 ≤ x ∧ x ≤ 9223372036854775807) : fitT x = .tuple #[.int .i64 x, .int .i64 0] := if_pos h
theorem fitT_no (x : Int) (h : ¬ (-9223372036854775808 ≤ x ∧ x ≤ 9223372036854775807)) : fitT x = .tuple #[.int .i64 0, .int .i64 5] := if_neg h

theorem quo_down (a b d : Int) (w : World) (h : wideB a b = true) (hd : d ≠ 0) (d1 : -9223372036854775808 ≤ d) (d2 : d ≤ 9223372036854775807) :
    Calls Try.prog 73 #[.agg #[.int .i64 (a), .int .i64 (b)], .int .i64 d, .bool false] w fun e w' => e = .returned (fitT (fl (a * 1152921504606846976 + b) d)) ∧ Below w.heap.size w w' := by
  have hw := wideB_t h
  have hs : decide (a * 1152921504606846976 + b < 0) = decide (a < 0) := by simp only [decide_eq_decide]; omega
  have F := fl_abs (a * 1152921504606846976 + b) d hd
  rw [hs] at F
  have M0 := absI_nn (a * 1152921504606846976 + b)
  have D0 : 0 < absI d := by unfold absI; split <;> omega
  have D1 := (absI_bd d d1 d2).2
  have e := Int.mul_ediv_add_emod (absI (a * 1152921504606846976 + b)) 18446744073709551616
  have q0 := Int.emod_nonneg (absI (a * 1152921504606846976 + b)) (show (18446744073709551616 : Int) ≠ 0 by omega)
  have q1 := Int.emod_lt_of_pos (absI (a * 1152921504606846976 + b)) (show (0 : Int) < 18446744073709551616 by omega)
  have p0 : 0 ≤ absI (a * 1152921504606846976 + b) / 18446744073709551616 := Int.ediv_nonneg M0 (by omega)
  obtain ⟨p, hp⟩ : ∃ p, absI (a * 1152921504606846976 + b) / 18446744073709551616 = p := ⟨_, rfl⟩
  obtain ⟨q, hq⟩ : ∃ q, absI (a * 1152921504606846976 + b) % 18446744073709551616 = q := ⟨_, rfl⟩
  obtain ⟨D, hD⟩ : ∃ D, absI d = D := ⟨_, rfl⟩
  rw [hp, hq] at e
  rw [hq] at q0 q1
  rw [hp] at p0
  have eM : absI (a * 1152921504606846976 + b) = p * 18446744073709551616 + q := by omega
  rw [eM, hD] at F
  rw [hD] at D0 D1
  have R0 := Int.emod_nonneg (p * 18446744073709551616 + q) (Int.ne_of_gt D0)
  have R1 := Int.emod_lt_of_pos (p * 18446744073709551616 + q) D0
  have eR := Int.mul_ediv_add_emod (p * 18446744073709551616 + q) D
  by_cases hc : D ≤ p
  · refine (quo_big0 a b d p q D false _ w h hd d1 d2 rfl hp hq hD hc).mono ?_
    rintro e w' ⟨rfl, hb⟩
    have big : 18446744073709551616 ≤ (p * 18446744073709551616 + q) / D := (Int.le_ediv_iff_mul_le D0).2 (by omega)
    refine ⟨?_, hb⟩
    rw [fitT_no]
    rw [F]
    split <;> (try split) <;> omega
  have hc := Int.not_le.1 hc
  have small : (p * 18446744073709551616 + q) / D < 18446744073709551616 := Int.ediv_lt_of_lt_mul D0 (by omega)
  have Q0 : 0 ≤ (p * 18446744073709551616 + q) / D := Int.ediv_nonneg (by omega) (by omega)
  obtain ⟨Q, hQ⟩ : ∃ Q, (p * 18446744073709551616 + q) / D = Q := ⟨_, rfl⟩
  obtain ⟨R, hR⟩ : ∃ R, (p * 18446744073709551616 + q) % D = R := ⟨_, rfl⟩
  rw [hQ] at small Q0
  rw [hR] at R0
  rw [hQ, hR] at F
  clear eR R1 e M0
  by_cases hneg : (decide (a < 0) != decide (d < 0)) = true
  · rw [if_pos hneg] at F
    by_cases hr : 0 < R
    · rw [if_pos hr] at F
      by_cases ho : 18446744073709551615 ≤ Q
      · refine (quo_dnro a b d p q D Q R _ w h hd d1 d2 rfl hp hq hD hc hneg hQ hR hr ho (by omega)).mono ?_
        rintro e w' ⟨rfl, hb⟩
        exact ⟨by rw [F, fitT_no _ (by omega)], hb⟩
      by_cases hf : Q + 1 ≤ 9223372036854775808
      · refine (quo_dnrf a b d p q D Q R _ w h hd d1 d2 rfl hp hq hD hc hneg hQ hR hr hf (by omega)).mono ?_
        rintro e w' ⟨rfl, hb⟩
        exact ⟨by rw [F, show -Q - 1 = -(Q + 1) by omega, fitT_ok _ (by omega)], hb⟩
      · refine (quo_dnrx a b d p q D Q R _ w h hd d1 d2 rfl hp hq hD hc hneg hQ hR hr (by omega) (by omega)).mono ?_
        rintro e w' ⟨rfl, hb⟩
        exact ⟨by rw [F, fitT_no _ (by omega)], hb⟩
    · rw [if_neg hr] at F
      by_cases hf : Q ≤ 9223372036854775808
      · refine (quo_dnzf a b d p q D Q R _ w h hd d1 d2 rfl hp hq hD hc hneg hQ hR (Int.not_lt.1 hr) hf (by omega)).mono ?_
        rintro e w' ⟨rfl, hb⟩
        exact ⟨by rw [F, fitT_ok _ (by omega)], hb⟩
      · refine (quo_dnzx a b d p q D Q R _ w h hd d1 d2 rfl hp hq hD hc hneg hQ hR (Int.not_lt.1 hr) (by omega) (by omega)).mono ?_
        rintro e w' ⟨rfl, hb⟩
        exact ⟨by rw [F, fitT_no _ (by omega)], hb⟩
  · rw [if_neg hneg] at F
    replace hneg := Bool.eq_false_iff.2 hneg
    by_cases hr : 0 < R
    · by_cases hf : Q < 9223372036854775808
      · refine (quo_dprf a b d p q D Q R _ w h hd d1 d2 rfl hp hq hD hc hneg hQ hR hr hf (by omega)).mono ?_
        rintro e w' ⟨rfl, hb⟩
        exact ⟨by rw [F, fitT_ok _ (by omega)], hb⟩
      · refine (quo_dprx a b d p q D Q R _ w h hd d1 d2 rfl hp hq hD hc hneg hQ hR hr (by omega) (by omega)).mono ?_
        rintro e w' ⟨rfl, hb⟩
        exact ⟨by rw [F, fitT_no _ (by omega)], hb⟩
    · by_cases hf : Q < 9223372036854775808
      · refine (quo_dpzf a b d p q D Q R _ w h hd d1 d2 rfl hp hq hD hc hneg hQ hR (Int.not_lt.1 hr) hf (by omega)).mono ?_
        rintro e w' ⟨rfl, hb⟩
        exact ⟨by rw [F, fitT_ok _ (by omega)], hb⟩
      · refine (quo_dpzx a b d p q D Q R _ w h hd d1 d2 rfl hp hq hD hc hneg hQ hR (Int.not_lt.1 hr) (by omega) (by omega)).mono ?_
        rintro e w' ⟨rfl, hb⟩
        exact ⟨by rw [F, fitT_no _ (by omega)], hb⟩

theorem quo_up (a b d : Int) (w : World) (h : wideB a b = true) (hd : d ≠ 0) (d1 : -9223372036854775808 ≤ d) (d2 : d ≤ 9223372036854775807) :
    Calls Try.prog 73 #[.agg #[.int .i64 (a), .int .i64 (b)], .int .i64 d, .bool true] w fun e w' => e = .returned (fitT (ce (a * 1152921504606846976 + b) d)) ∧ Below w.heap.size w w' := by
  have hw := wideB_t h
  have hs : decide (a * 1152921504606846976 + b < 0) = decide (a < 0) := by simp only [decide_eq_decide]; omega
  have F := ce_abs (a * 1152921504606846976 + b) d hd
  rw [hs] at F
  have M0 := absI_nn (a * 1152921504606846976 + b)
  have D0 : 0 < absI d := by unfold absI; split <;> omega
  have D1 := (absI_bd d d1 d2).2
  have e := Int.mul_ediv_add_emod (absI (a * 1152921504606846976 + b)) 18446744073709551616
  have q0 := Int.emod_nonneg (absI (a * 1152921504606846976 + b)) (show (18446744073709551616 : Int) ≠ 0 by omega)
  have q1 := Int.emod_lt_of_pos (absI (a * 1152921504606846976 + b)) (show (0 : Int) < 18446744073709551616 by omega)
  have p0 : 0 ≤ absI (a * 1152921504606846976 + b) / 18446744073709551616 := Int.ediv_nonneg M0 (by omega)
  obtain ⟨p, hp⟩ : ∃ p, absI (a * 1152921504606846976 + b) / 18446744073709551616 = p := ⟨_, rfl⟩
  obtain ⟨q, hq⟩ : ∃ q, absI (a * 1152921504606846976 + b) % 18446744073709551616 = q := ⟨_, rfl⟩
  obtain ⟨D, hD⟩ : ∃ D, absI d = D := ⟨_, rfl⟩
  rw [hp, hq] at e
  rw [hq] at q0 q1
  rw [hp] at p0
  have eM : absI (a * 1152921504606846976 + b) = p * 18446744073709551616 + q := by omega
  rw [eM, hD] at F
  rw [hD] at D0 D1
  have R0 := Int.emod_nonneg (p * 18446744073709551616 + q) (Int.ne_of_gt D0)
  have R1 := Int.emod_lt_of_pos (p * 18446744073709551616 + q) D0
  have eR := Int.mul_ediv_add_emod (p * 18446744073709551616 + q) D
  by_cases hc : D ≤ p
  · refine (quo_big0 a b d p q D true _ w h hd d1 d2 rfl hp hq hD hc).mono ?_
    rintro e w' ⟨rfl, hb⟩
    have big : 18446744073709551616 ≤ (p * 18446744073709551616 + q) / D := (Int.le_ediv_iff_mul_le D0).2 (by omega)
    refine ⟨?_, hb⟩
    rw [fitT_no]
    rw [F]
    split <;> (try split) <;> omega
  have hc := Int.not_le.1 hc
  have small : (p * 18446744073709551616 + q) / D < 18446744073709551616 := Int.ediv_lt_of_lt_mul D0 (by omega)
  have Q0 : 0 ≤ (p * 18446744073709551616 + q) / D := Int.ediv_nonneg (by omega) (by omega)
  obtain ⟨Q, hQ⟩ : ∃ Q, (p * 18446744073709551616 + q) / D = Q := ⟨_, rfl⟩
  obtain ⟨R, hR⟩ : ∃ R, (p * 18446744073709551616 + q) % D = R := ⟨_, rfl⟩
  rw [hQ] at small Q0
  rw [hR] at R0
  rw [hQ, hR] at F
  clear eR R1 e M0
  by_cases hneg : (decide (a < 0) != decide (d < 0)) = true
  · rw [if_pos hneg] at F
    by_cases hr : 0 < R
    · by_cases hf : Q ≤ 9223372036854775808
      · refine (quo_unrf a b d p q D Q R _ w h hd d1 d2 rfl hp hq hD hc hneg hQ hR hr hf (by omega)).mono ?_
        rintro e w' ⟨rfl, hb⟩
        exact ⟨by rw [F, fitT_ok _ (by omega)], hb⟩
      · refine (quo_unrx a b d p q D Q R _ w h hd d1 d2 rfl hp hq hD hc hneg hQ hR hr (by omega) (by omega)).mono ?_
        rintro e w' ⟨rfl, hb⟩
        exact ⟨by rw [F, fitT_no _ (by omega)], hb⟩
    · by_cases hf : Q ≤ 9223372036854775808
      · refine (quo_unzf a b d p q D Q R _ w h hd d1 d2 rfl hp hq hD hc hneg hQ hR (Int.not_lt.1 hr) hf (by omega)).mono ?_
        rintro e w' ⟨rfl, hb⟩
        exact ⟨by rw [F, fitT_ok _ (by omega)], hb⟩
      · refine (quo_unzx a b d p q D Q R _ w h hd d1 d2 rfl hp hq hD hc hneg hQ hR (Int.not_lt.1 hr) (by omega) (by omega)).mono ?_
        rintro e w' ⟨rfl, hb⟩
        exact ⟨by rw [F, fitT_no _ (by omega)], hb⟩
  · rw [if_neg hneg] at F
    replace hneg := Bool.eq_false_iff.2 hneg
    by_cases hr : 0 < R
    · rw [if_pos hr] at F
      by_cases ho : 18446744073709551615 ≤ Q
      · refine (quo_upro a b d p q D Q R _ w h hd d1 d2 rfl hp hq hD hc hneg hQ hR hr ho (by omega)).mono ?_
        rintro e w' ⟨rfl, hb⟩
        exact ⟨by rw [F, fitT_no _ (by omega)], hb⟩
      by_cases hf : Q + 1 < 9223372036854775808
      · refine (quo_uprf a b d p q D Q R _ w h hd d1 d2 rfl hp hq hD hc hneg hQ hR hr hf (by omega)).mono ?_
        rintro e w' ⟨rfl, hb⟩
        exact ⟨by rw [F, fitT_ok _ (by omega)], hb⟩
      · refine (quo_uprx a b d p q D Q R _ w h hd d1 d2 rfl hp hq hD hc hneg hQ hR hr (by omega) (by omega)).mono ?_
        rintro e w' ⟨rfl, hb⟩
        exact ⟨by rw [F, fitT_no _ (by omega)], hb⟩
    · rw [if_neg hr] at F
      by_cases hf : Q < 9223372036854775808
      · refine (quo_upzf a b d p q D Q R _ w h hd d1 d2 rfl hp hq hD hc hneg hQ hR (Int.not_lt.1 hr) hf (by omega)).mono ?_
        rintro e w' ⟨rfl, hb⟩
        exact ⟨by rw [F, fitT_ok _ (by omega)], hb⟩
      · refine (quo_upzx a b d p q D Q R _ w h hd d1 d2 rfl hp hq hD hc hneg hQ hR (Int.not_lt.1 hr) (by omega) (by omega)).mono ?_
        rintro e w' ⟨rfl, hb⟩
        exact ⟨by rw [F, fitT_no _ (by omega)], hb⟩

end Go.Proofs.Ytjceofmhodcefaa
