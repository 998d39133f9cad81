/- The laws of the augmented semidiameter and of the reduced parallax, in plain arithmetic. -/
import Derived.Test.YtcpghihgppgpmaaPar6
namespace Go.Proofs.Ytcpghihgppgpmaa
open Go.RowKit

/-- the sine of an angle of the first quarter -/
theorem sin_alt (h : Int) (h0 : 0 ≤ h) (h1 : h ≤ 5400000) : 0 ≤ bLo h ∧ bLo h ≤ bHi h ∧ bHi h ≤ 1073741824 := by
  have s := sin_pos h h h0 (by omega) (by omega)
  have p := enc_point h
  rw [p.1, p.2] at s
  exact s
theorem sin_par (n : Int) (h0 : 0 ≤ n) (h1 : n ≤ 120000) : 0 ≤ bLo n ∧ bLo n ≤ bHi n ∧ bHi n ≤ 37473100 := by
  have s := sin_alt n h0 (by omega)
  have u3 := b_up (-5400000) n 120000 (by omega) (by omega) h1 (by omega)
  have v2 : bHi 120000 ≤ 37473100 := by decide +kernel
  omega
theorem mu_point (n h : Int) (n0 : 0 ≤ n) (n1 : n ≤ 120000) (h0 : 0 ≤ h) (h1 : h ≤ 5400000) : muA n n h h = bLo n * bLo h / 1073741824 ∧ muZ n n h h = -(-(bHi n * bHi h) / 1073741824) ∧ 0 ≤ bLo n * bLo h ∧ bLo n * bLo h ≤ bHi n * bHi h ∧ bHi n * bHi h ≤ 37473100 * 1073741824 := by
  have s := sin_alt h h0 h1
  have t := sin_par n n0 n1
  have p := enc_point n
  have q := enc_point h
  unfold muA muZ
  rw [p.1, p.2, q.1, q.2, fl_30, ce_30]
  have m0 : 0 ≤ bLo n * bLo h := Int.mul_nonneg t.1 s.1
  have m1 : bLo n * bLo h ≤ bLo n * bHi h := Int.mul_le_mul_of_nonneg_left s.2.1 t.1
  have m2 : bLo n * bLo h ≤ bHi n * bLo h := Int.mul_le_mul_of_nonneg_right t.2.1 s.1
  have m3 : bLo n * bHi h ≤ bHi n * bHi h := Int.mul_le_mul_of_nonneg_right t.2.1 (by omega)
  have m4 : bHi n * bLo h ≤ bHi n * bHi h := Int.mul_le_mul_of_nonneg_left s.2.1 (by omega)
  have m5 : bHi n * bHi h ≤ 37473100 * 1073741824 := Int.mul_le_mul t.2.2 s.2.2 (by omega) (by decide)
  generalize bLo n * bLo h = a at *
  generalize bLo n * bHi h = b at *
  generalize bHi n * bLo h = c at *
  generalize bHi n * bHi h = d at *
  omega
theorem au_point (s n h : Int) (s0 : 0 ≤ s) (n0 : 0 ≤ n) (n1 : n ≤ 120000) (h0 : 0 ≤ h) (h1 : h ≤ 5400000) :
    auLo s s n n h h = s + muA n n h h * s / 1073741824 ∧ auHi s s n n h h = s + -(-(muZ n n h h * s) / 1073741824) ∧ 0 ≤ muA n n h h ∧ muA n n h h ≤ muZ n n h h ∧ muZ n n h h ≤ 37473100 := by
  have m := mu_point n h n0 n1 h0 h1
  have k : 0 ≤ muA n n h h ∧ muA n n h h ≤ muZ n n h h ∧ muZ n n h h ≤ 37473100 := by
    rw [m.1, m.2.1]
    have := m.2.2
    generalize bLo n * bLo h = a at *
    generalize bHi n * bHi h = d at *
    omega
  have e1 : p01 (muA n n h h) = muA n n h h := by unfold p01; omega
  have e2 : p01 (muZ n n h h) = muZ n n h h := by unfold p01; omega
  have t := tm_is s s (muA n n h h) (muZ n n h h) s0 (by omega) k.1 k.2.1
  unfold auLo auHi
  rw [e1, e2, t.1, t.2]
  exact ⟨rfl, rfl, k⟩
theorem sin_under (h : Int) (h0 : 0 ≤ h) (h1 : h ≤ 5400000) : encHi (-h) 0 = 0 ∧ encLo (-h) 0 ≤ 0 := by
  have e := enc_neg 0 h
  rw [show -(0 : Int) = 0 from rfl] at e
  have s := sin_pos 0 h (by omega) h0 (by omega)
  have x := enc_has 0 h 0 (by omega) h0
  have z : bLo 0 = 0 := rfl
  rw [e.1, e.2]
  omega
theorem augments_plain (s n h k : Int) (s0 : 0 ≤ s) (_s1 : s ≤ 120000) (n0 : 0 ≤ n) (n1 : n ≤ 120000) (h0 : 0 ≤ h) (h1 : h ≤ 5400000) (k0 : 0 ≤ k) (k1 : k ≤ 5400000 - h) :
    s ≤ auLo s s n n h h ∧ auLo s s n n h h ≤ auLo s s n n (h + k) (h + k) ∧ auHi s s n n h h ≤ auHi s s n n (h + k) (h + k) ∧ auHi s s n n (h + k) (h + k) ≤ s + s / 25 + 2 ∧ auLo s s n n (-h) 0 = s ∧ auHi s s n n (-h) 0 = s := by
  have p := au_point s n h s0 n0 n1 h0 h1
  have q := au_point s n (h + k) s0 n0 n1 (by omega) (by omega)
  have u := b_up (-5400000) h (h + k) (by omega) (by omega) (by omega) (by omega)
  have m1 := mu_point n h n0 n1 h0 h1
  have m2 := mu_point n (h + k) n0 n1 (by omega) (by omega)
  have t := sin_par n n0 n1
  have s2 := sin_alt h h0 h1
  have c1 : bLo n * bLo h ≤ bLo n * bLo (h + k) := Int.mul_le_mul_of_nonneg_left u.1 t.1
  have c2 : bHi n * bHi h ≤ bHi n * bHi (h + k) := Int.mul_le_mul_of_nonneg_left u.2 (by omega)
  have d1 : muA n n h h ≤ muA n n (h + k) (h + k) := by
    rw [m1.1, m2.1]; exact div_mono c1
  have d2 : muZ n n h h ≤ muZ n n (h + k) (h + k) := by
    rw [m1.2.1, m2.2.1]
    generalize bHi n * bHi h = a at *
    generalize bHi n * bHi (h + k) = b at *
    omega
  have e1 : muA n n h h * s ≤ muA n n (h + k) (h + k) * s := Int.mul_le_mul_of_nonneg_right d1 s0
  have e2 : muZ n n h h * s ≤ muZ n n (h + k) (h + k) * s := Int.mul_le_mul_of_nonneg_right d2 s0
  have e3 : muZ n n (h + k) (h + k) * s ≤ 37473100 * s := Int.mul_le_mul_of_nonneg_right q.2.2.2.2 s0
  have e0 : 0 ≤ muA n n h h * s := Int.mul_nonneg p.2.2.1 s0
  -- under the horizon
  have w := sin_under h h0 h1
  have pn := enc_point n
  have z1 : muA n n (-h) 0 ≤ 0 ∧ muZ n n (-h) 0 = 0 := by
    unfold muA muZ
    rw [w.1, pn.1, pn.2, fl_30, ce_30]
    have x1 : bLo n * encLo (-h) 0 ≤ 0 := Int.mul_nonpos_of_nonneg_of_nonpos t.1 w.2
    have x2 : bHi n * encLo (-h) 0 ≤ 0 := Int.mul_nonpos_of_nonneg_of_nonpos (by omega) w.2
    rw [Int.mul_zero, Int.mul_zero]
    omega
  have z2 : p01 (muA n n (-h) 0) = 0 := by unfold p01; omega
  have z3 : p01 (muZ n n (-h) 0) = 0 := by unfold p01; omega
  have tz := tm_is s s 0 0 s0 (by omega) (by omega) (by omega)
  rw [Int.zero_mul] at tz
  rw [p.1, p.2.1, q.1, q.2.1]
  unfold auLo auHi
  rw [z2, z3, tz.1, tz.2]
  generalize muA n n h h * s = f1 at *
  generalize muA n n (h + k) (h + k) * s = f2 at *
  generalize muZ n n h h * s = f3 at *
  generalize muZ n n (h + k) (h + k) * s = f4 at *
  omega

theorem sq_of (f g : Int) (f0 : 0 ≤ f) (fg : f ≤ g) : sqLo f g = f * f ∧ max (f * f) (g * g) = g * g ∧ sqLo (-g) (-f) = f * f ∧ max (-g * -g) (-f * -f) = g * g := by
  have m : f * f ≤ g * g := Int.mul_le_mul fg fg f0 (by omega)
  have n1 : -g * -g = g * g := Int.neg_mul_neg g g
  have n2 : -f * -f = f * f := Int.neg_mul_neg f f
  unfold sqLo
  rw [n1, n2]
  by_cases z : f = 0
  · subst z
    rw [zeroB_mk (by omega), zeroB_mk (by omega)]
    simp only [if_true]
    omega
  · rw [zeroB_not (by omega), zeroB_not (by omega)]
    simp only [Bool.false_eq_true, if_false]
    omega
theorem sq_point (l : Int) (h0 : 0 ≤ l) (h1 : l ≤ 5400000) : sqA l l = bLo l * bLo l / 1073741824 ∧ sqZ l l = -(-(bHi l * bHi l) / 1073741824) ∧ sqA (-l) (-l) = sqA l l ∧ sqZ (-l) (-l) = sqZ l l := by
  have s := sin_alt l h0 h1
  have p := enc_point l
  have q := enc_point (-l)
  have n := b_neg l
  have k := sq_of (bLo l) (bHi l) s.1 s.2.1
  unfold sqA sqZ
  rw [q.1, q.2, p.1, p.2, n.1, n.2, k.1, k.2.1, k.2.2.1, k.2.2.2, fl_30, ce_30]
  exact ⟨rfl, rfl, rfl, rfl⟩
theorem ob_point (n l : Int) (n0 : 0 ≤ n) (_n1 : n ≤ 120000) (_h0 : 0 ≤ l) (_h1 : l ≤ 5400000) :
    obLo n n l l = n - -(-(-(-(sqZ l l * n) / 1073741824) * 1000) / 298257) ∧ obHi n n l l = n - sqA l l * n / 1073741824 * 1000 / 298257 ∧ 0 ≤ sqA l l ∧ sqA l l ≤ sqZ l l ∧ sqZ l l ≤ 1073741824 := by
  have k := sq_is l l (by omega)
  have t := tm_is n n (sqA l l) (sqZ l l) n0 (by omega) k.1 k.2.1
  unfold obLo obHi
  rw [t.1, t.2]
  exact ⟨rfl, rfl, k⟩
theorem flattens_plain (n l k : Int) (n0 : 0 ≤ n) (n1 : n ≤ 120000) (h0 : 0 ≤ l) (h1 : l ≤ 5400000) (k0 : 0 ≤ k) (k1 : k ≤ 5400000 - l) :
    (obHi n n l l ≤ n ∧ obLo n n (l + k) (l + k) ≤ obLo n n l l ∧ obHi n n (l + k) (l + k) ≤ obHi n n l l) ∧ (obLo n n 0 0 = n ∧ obHi n n 0 0 = n) ∧ (obLo n n (-l) (-l) = obLo n n l l ∧ obHi n n (-l) (-l) = obHi n n l l) ∧
    obLo n n 5400000 5400000 ≤ n - n * 1000 / 298257 ∧ n - n * 1000 / 298257 - 1 ≤ obHi n n 5400000 5400000 ∧ obHi n n 5400000 5400000 - obLo n n 5400000 5400000 ≤ 1 := by
  have p1 := ob_point n l n0 n1 h0 h1
  have p2 := ob_point n (l + k) n0 n1 (by omega) (by omega)
  have p3 := ob_point n 0 n0 n1 (by omega) (by omega)
  have p4 := ob_point n 5400000 n0 n1 (by omega) (by omega)
  have s1 := sq_point l h0 h1
  have s2 := sq_point (l + k) (by omega) (by omega)
  have z3 : sqA 0 0 = 0 ∧ sqZ 0 0 = 0 := ⟨by kernel_rfl, by kernel_rfl⟩
  have z4 : sqA 5400000 5400000 = 1073741824 ∧ sqZ 5400000 5400000 = 1073741824 := ⟨by kernel_rfl, by kernel_rfl⟩
  have u := b_up (-5400000) l (l + k) (by omega) (by omega) (by omega) (by omega)
  have a1 := sin_alt l h0 h1
  have a2 := sin_alt (l + k) (by omega) (by omega)
  have c1 : bLo l * bLo l ≤ bLo (l + k) * bLo (l + k) := Int.mul_le_mul u.1 u.1 a1.1 a2.1
  have c2 : bHi l * bHi l ≤ bHi (l + k) * bHi (l + k) := Int.mul_le_mul u.2 u.2 (by omega) (by omega)
  have d1 : sqA l l ≤ sqA (l + k) (l + k) := by rw [s1.1, s2.1]; exact div_mono c1
  have d2 : sqZ l l ≤ sqZ (l + k) (l + k) := by
    rw [s1.2.1, s2.2.1]
    generalize bHi l * bHi l = a at *
    generalize bHi (l + k) * bHi (l + k) = b at *
    omega
  have e1 : sqA l l * n ≤ sqA (l + k) (l + k) * n := Int.mul_le_mul_of_nonneg_right d1 n0
  have e2 : sqZ l l * n ≤ sqZ (l + k) (l + k) * n := Int.mul_le_mul_of_nonneg_right d2 n0
  have e0 : 0 ≤ sqA l l * n := Int.mul_nonneg p1.2.2.1 n0
  have eq : obLo n n (-l) (-l) = obLo n n l l ∧ obHi n n (-l) (-l) = obHi n n l l := by
    unfold obLo obHi
    rw [s1.2.2.1, s1.2.2.2]
    exact ⟨rfl, rfl⟩
  rw [eq.1, eq.2, p1.1, p1.2.1, p2.1, p2.2.1, p3.1, p3.2.1, p4.1, p4.2.1, z3.1, z3.2, z4.1, z4.2, Int.zero_mul]
  generalize sqA l l * n = f1 at *
  generalize sqA (l + k) (l + k) * n = f2 at *
  generalize sqZ l l * n = f3 at *
  generalize sqZ (l + k) (l + k) * n = f4 at *
  omega

end Go.Proofs.Ytcpghihgppgpmaa
