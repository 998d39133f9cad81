/- A part of the arcs has its result inside, in plain arithmetic. -/
import Derived.Test.YtcpghihgppgpmaaPar9
namespace Go.Proofs.Ytcpghihgppgpmaa
open Go.RowKit

/-- a product of numbers of two intervals, the first one not negative -/
theorem corner (f g r s x y : Int) (f0 : 0 ≤ f) (h1 : f ≤ x) (h2 : x ≤ g) (h3 : r ≤ y) (h4 : y ≤ s) :
    min (f * r) (min (f * s) (min (g * r) (g * s))) ≤ x * y ∧ x * y ≤ max (f * r) (max (f * s) (max (g * r) (g * s))) := by
  have a1 : x * r ≤ x * y := Int.mul_le_mul_of_nonneg_left h3 (by omega)
  have a2 : x * y ≤ x * s := Int.mul_le_mul_of_nonneg_left h4 (by omega)
  have b1 : f * r ≤ x * r ∨ g * r ≤ x * r := by
    by_cases z : 0 ≤ r
    · exact Or.inl (Int.mul_le_mul_of_nonneg_right h1 z)
    · exact Or.inr (Int.mul_le_mul_of_nonpos_right h2 (by omega))
  have b2 : x * s ≤ g * s ∨ x * s ≤ f * s := by
    by_cases z : 0 ≤ s
    · exact Or.inl (Int.mul_le_mul_of_nonneg_right h2 z)
    · exact Or.inr (Int.mul_le_mul_of_nonpos_right h1 (by omega))
  generalize x * y = p at *
  generalize x * r = q at *
  generalize x * s = t at *
  generalize f * r = u1 at *
  generalize f * s = u2 at *
  generalize g * r = u3 at *
  generalize g * s = u4 at *
  omega
theorem in_enc (a b n : Int) (h0 : a ≤ n) (h1 : n ≤ b) : encLo a b ≤ bLo n ∧ bLo n ≤ bHi n ∧ bHi n ≤ encHi a b := by
  have := enc_has a b n h0 h1
  have := b_bd n
  omega
theorem ia_part (c d q r p h : Int) (c0 : 0 ≤ c) (h1 : c ≤ p) (h2 : p ≤ d) (q0 : -5400000 ≤ q) (h3 : q ≤ h) (h4 : h ≤ r) (r1 : r ≤ 5400000) :
    iaLo c d q r ≤ iaLo p p h h ∧ iaLo p p h h ≤ iaHi p p h h ∧ iaHi p p h h ≤ iaHi c d q r ∧ 0 ≤ iaLo c d q r ∧ iaHi c d q r ≤ d := by
  have s := sin_pos (q + 5400000) (r + 5400000) (by omega) (by omega) (by omega)
  have i := in_enc (q + 5400000) (r + 5400000) (h + 5400000) (by omega) (by omega)
  have e := enc_point (h + 5400000)
  have t1 := tm_is c d _ _ c0 (by omega) s.1 s.2.1
  have t2 := tm_is p p (bLo (h + 5400000)) (bHi (h + 5400000)) (by omega) (by omega) (by omega) i.2.1
  have b := tm_bd c d _ _ c0 (by omega) s.1 s.2.1 s.2.2
  unfold iaLo iaHi
  rw [e.1, e.2]
  refine ⟨?_, ?_, ?_, b.1, b.2.2⟩
  · rw [t1.1, t2.1]
    exact div_mono (Int.mul_le_mul i.1 h1 c0 (by omega))
  · rw [t2.1, t2.2]
    have := Int.mul_le_mul_of_nonneg_right i.2.1 (show 0 ≤ p by omega)
    generalize bLo (h + 5400000) * p = x at *
    generalize bHi (h + 5400000) * p = y at *
    omega
  · rw [t1.2, t2.2]
    have := Int.mul_le_mul i.2.2 h2 (by omega) (by omega)
    generalize bHi (h + 5400000) * p = x at *
    generalize encHi (q + 5400000) (r + 5400000) * d = y at *
    omega
theorem mu_part (c d q r p h : Int) (c0 : 0 ≤ c) (h1 : c ≤ p) (h2 : p ≤ d) (d1 : d ≤ 120000) (h3 : q ≤ h) (h4 : h ≤ r) : muA c d q r ≤ muA p p h h ∧ muZ p p h h ≤ muZ c d q r := by
  have s := sin_pos c d c0 (by omega) (by omega)
  have i := in_enc c d p h1 h2
  have j := in_enc q r h h3 h4
  have e1 := enc_point p
  have e2 := enc_point h
  have k1 := corner (encLo c d) (encHi c d) (encLo q r) (encHi q r) (bLo p) (bLo h) s.1 i.1 (by omega) j.1 (by omega)
  have k2 := corner (encLo c d) (encHi c d) (encLo q r) (encHi q r) (bLo p) (bHi h) s.1 i.1 (by omega) (by omega) j.2.2
  have k3 := corner (encLo c d) (encHi c d) (encLo q r) (encHi q r) (bHi p) (bLo h) s.1 (by omega) i.2.2 j.1 (by omega)
  have k4 := corner (encLo c d) (encHi c d) (encLo q r) (encHi q r) (bHi p) (bHi h) s.1 (by omega) i.2.2 (by omega) j.2.2
  unfold muA muZ
  rw [e1.1, e1.2, e2.1, e2.2, fl_30, fl_30, ce_30, ce_30]
  constructor
  · apply div_mono; omega
  · have : ∀ x y : Int, x ≤ y → -(-x / 1073741824) ≤ -(-y / 1073741824) := fun x y h => by omega
    apply this
    omega
theorem au_part (a b c d q r s p h : Int) (a0 : 0 ≤ a) (g1 : a ≤ s) (g2 : s ≤ b) (_b1 : b ≤ 120000) (c0 : 0 ≤ c) (h1 : c ≤ p) (h2 : p ≤ d) (d1 : d ≤ 120000) (h3 : q ≤ h) (h4 : h ≤ r) :
    auLo a b c d q r ≤ auLo s s p p h h ∧ auLo s s p p h h ≤ auHi s s p p h h ∧ auHi s s p p h h ≤ auHi a b c d q r ∧ 0 ≤ auLo a b c d q r ∧ auHi a b c d q r ≤ 2 * b := by
  have m := mu_part c d q r p h c0 h1 h2 d1 h3 h4
  have k1 := p01_bd _ _ (mu_bd c d q r).2.1
  have k2 := p01_bd _ _ (mu_bd p p h h).2.1
  have m1 : p01 (muA c d q r) ≤ p01 (muA p p h h) := by unfold p01; omega
  have m2 : p01 (muZ p p h h) ≤ p01 (muZ c d q r) := by unfold p01; omega
  have t1 := tm_is a b _ _ a0 (by omega) k1.1 k1.2.1
  have t2 := tm_is s s _ _ (show 0 ≤ s by omega) (Int.le_refl s) k2.1 k2.2.1
  have b1 := tm_bd a b _ _ a0 (by omega) k1.1 k1.2.1 k1.2.2
  have b2 := tm_bd s s _ _ (show 0 ≤ s by omega) (Int.le_refl s) k2.1 k2.2.1 k2.2.2
  have u1 : p01 (muA c d q r) * a ≤ p01 (muA p p h h) * s := Int.mul_le_mul m1 g1 a0 (by omega)
  have u2 : p01 (muZ p p h h) * s ≤ p01 (muZ c d q r) * b := Int.mul_le_mul m2 g2 (by omega) (by omega)
  have v1 : tmLo a b (p01 (muA c d q r)) (p01 (muZ c d q r)) ≤ tmLo s s (p01 (muA p p h h)) (p01 (muZ p p h h)) := by rw [t1.1, t2.1]; exact div_mono u1
  have v2 : tmHi s s (p01 (muA p p h h)) (p01 (muZ p p h h)) ≤ tmHi a b (p01 (muA c d q r)) (p01 (muZ c d q r)) := by
    rw [t1.2, t2.2]
    generalize p01 (muZ p p h h) * s = x at *
    generalize p01 (muZ c d q r) * b = y at *
    omega
  unfold auLo auHi
  omega
theorem sq_in (f g y : Int) (h1 : f ≤ y) (h2 : y ≤ g) : y * y ≤ max (f * f) (g * g) ∧ (0 < f → f * f ≤ y * y) ∧ (g < 0 → g * g ≤ y * y) ∧ 0 ≤ y * y := by
  have z0 : 0 ≤ y * y := by
    rcases Int.le_total 0 y with g | g
    · exact Int.mul_nonneg g g
    · have := Int.mul_nonneg (show 0 ≤ -y by omega) (show 0 ≤ -y by omega)
      rw [Int.neg_mul_neg] at this
      exact this
  refine ⟨?_, fun z => Int.mul_le_mul h1 h1 (by omega) (by omega), fun z => ?_, z0⟩
  · rcases Int.le_total 0 y with z | z
    · have := Int.mul_le_mul h2 h2 z (by omega)
      omega
    · have := Int.mul_le_mul (show -y ≤ -f by omega) (show -y ≤ -f by omega) (by omega) (by omega)
      rw [Int.neg_mul_neg, Int.neg_mul_neg] at this
      omega
  · have := Int.mul_le_mul (show -g ≤ -y by omega) (show -g ≤ -y by omega) (by omega) (by omega)
    rw [Int.neg_mul_neg, Int.neg_mul_neg] at this
    exact this
theorem sq_part (q r h : Int) (h3 : q ≤ h) (h4 : h ≤ r) : sqA q r ≤ sqA h h ∧ sqZ h h ≤ sqZ q r := by
  have j := in_enc q r h h3 h4
  have e := enc_point h
  have k1 := sq_in _ _ (bLo h) j.1 (show bLo h ≤ encHi q r by omega)
  have k2 := sq_in _ _ (bHi h) (show encLo q r ≤ bHi h by omega) j.2.2
  unfold sqA sqZ
  rw [e.1, e.2, fl_30, fl_30, ce_30, ce_30]
  constructor
  · apply div_mono
    unfold sqLo
    by_cases z : zeroB (encLo q r) (encHi q r) = true
    · rw [if_pos z]
      split <;> omega
    · rw [if_neg z]
      have zf := zeroB_f (by simpa using z)
      have z2 : zeroB (bLo h) (bHi h) = false := zeroB_not (by omega)
      rw [z2]
      simp only [Bool.false_eq_true, if_false]
      rcases zf with zf | zf
      · have := k1.2.1 zf
        have := k2.2.1 zf
        omega
      · have := k1.2.2.1 zf
        have := k2.2.2.1 zf
        omega
  · have : ∀ x y : Int, x ≤ y → -(-x / 1073741824) ≤ -(-y / 1073741824) := fun x y h => by omega
    apply this
    omega
theorem ob_part (c d q r p h : Int) (c0 : 0 ≤ c) (h1 : c ≤ p) (h2 : p ≤ d) (d1 : d ≤ 120000) (h3 : q ≤ h) (h4 : h ≤ r) :
    obLo c d q r ≤ obLo p p h h ∧ obLo p p h h ≤ obHi p p h h ∧ obHi p p h h ≤ obHi c d q r ∧ -120000 ≤ obLo c d q r ∧ obHi c d q r ≤ d := by
  have m := sq_part q r h h3 h4
  have k1 := sq_is q r (by omega)
  have k2 := sq_is h h (by omega)
  have t1 := tm_is c d _ _ c0 (by omega) k1.1 k1.2.1
  have t2 := tm_is p p _ _ (show 0 ≤ p by omega) (Int.le_refl p) k2.1 k2.2.1
  have b1 := tm_bd c d _ _ c0 (by omega) k1.1 k1.2.1 k1.2.2
  have b2 := tm_bd p p _ _ (show 0 ≤ p by omega) (Int.le_refl p) k2.1 k2.2.1 k2.2.2
  have u1 : sqA q r * c ≤ sqA h h * p := Int.mul_le_mul m.1 h1 c0 (by omega)
  have u2 : sqZ h h * p ≤ sqZ q r * d := Int.mul_le_mul m.2 h2 (by omega) (by omega)
  have v1 : tmLo c d (sqA q r) (sqZ q r) ≤ tmLo p p (sqA h h) (sqZ h h) := by rw [t1.1, t2.1]; exact div_mono u1
  have v2 : tmHi p p (sqA h h) (sqZ h h) ≤ tmHi c d (sqA q r) (sqZ q r) := by
    rw [t1.2, t2.2]
    generalize sqZ h h * p = x at *
    generalize sqZ q r * d = y at *
    omega
  unfold obLo obHi
  omega
theorem di_part (c d p : Int) (c0 : 1 ≤ c) (h1 : c ≤ p) (h2 : p ≤ d) (d1 : d ≤ 120000) : diLo c d ≤ diLo p p ∧ diLo p p ≤ diHi p p ∧ diHi p p ≤ diHi c d := by
  have s := sin_small c d c0 (by omega) d1
  have t := sin_small p p (by omega) (by omega) (by omega)
  have u := b_up (-5400000) c p (by omega) (by omega) h1 (by omega)
  have v := b_up (-5400000) p d (by omega) (by omega) h2 (by omega)
  have g := distances_plain p 0 (by omega) (by omega) (by omega) (by omega)
  unfold diLo diHi at *
  rw [s.1, s.2.1, t.1, t.2.1] at *
  have d3 := div_turns (bHi p) (bHi d) (by omega) v.2
  have d4 := div_turns (bLo c) (bLo p) (by omega) u.1
  omega

end Go.Proofs.Ytcpghihgppgpmaa
