/- The laws of parallax that need no reference, in plain arithmetic. -/
import Derived.Test.YtcpghihgppgpmaaPar4
namespace Go.Proofs.Ytcpghihgppgpmaa
open Go.RowKit

theorem div_mono {x y : Int} (h : x ≤ y) : x / 1073741824 ≤ y / 1073741824 := by omega
/-- the cosine of an altitude -/
theorem cos_alt (h : Int) (h0 : 0 ≤ h) (h1 : h ≤ 5400000) : 0 ≤ bLo (h + 5400000) ∧ bLo (h + 5400000) ≤ bHi (h + 5400000) ∧ bHi (h + 5400000) ≤ 1073741824 := by
  have s := sin_pos (h + 5400000) (h + 5400000) (by omega) (by omega) (by omega)
  have p := enc_point (h + 5400000)
  rw [p.1, p.2] at s
  exact s
theorem ia_point (n h : Int) (n0 : 0 ≤ n) (h0 : 0 ≤ h) (h1 : h ≤ 5400000) : iaLo n n h h = bLo (h + 5400000) * n / 1073741824 ∧ iaHi n n h h = -(-(bHi (h + 5400000) * n) / 1073741824) := by
  have p := enc_point (h + 5400000)
  have c := cos_alt h h0 h1
  unfold iaLo iaHi
  rw [p.1, p.2]
  exact tm_is n n _ _ n0 (by omega) c.1 c.2.1
theorem falls_plain (hp less h above : Int) (a0 : 0 ≤ hp) (_a1 : hp ≤ 120000) (b0 : 0 ≤ less) (b1 : less ≤ hp) (h0 : 0 ≤ h) (_h1 : h ≤ 5400000) (c0 : 0 ≤ above) (c1 : above ≤ 5400000 - h) :
    (iaLo (hp - less) (hp - less) (h + above) (h + above) ≤ iaLo hp hp h h ∧ iaHi (hp - less) (hp - less) (h + above) (h + above) ≤ iaHi hp hp h h ∧ 0 ≤ iaLo (hp - less) (hp - less) (h + above) (h + above) ∧ iaHi hp hp h h ≤ hp) ∧
    (iaLo hp hp 0 0 = hp ∧ iaHi hp hp 0 0 = hp) ∧ iaLo hp hp 5400000 5400000 = 0 ∧ iaHi hp hp 5400000 5400000 = 0 := by
  have p1 := ia_point hp h a0 h0 (by omega)
  have p2 := ia_point (hp - less) (h + above) (by omega) (by omega) (by omega)
  have p3 := ia_point hp 0 a0 (by omega) (by omega)
  have p4 := ia_point hp 5400000 a0 (by omega) (by omega)
  have z1 : bLo (0 + 5400000) = 1073741824 ∧ bHi (0 + 5400000) = 1073741824 := ⟨rfl, rfl⟩
  have z2 : bLo (5400000 + 5400000) = 0 ∧ bHi (5400000 + 5400000) = 0 := ⟨rfl, rfl⟩
  rw [z1.1, z1.2] at p3
  rw [z2.1, z2.2] at p4
  rw [p1.1, p1.2, p2.1, p2.2, p3.1, p3.2, p4.1, p4.2]
  have d := b_down 5400000 (h + 5400000) (h + above + 5400000) (by omega) (by omega) (by omega) (by omega)
  have k1 := cos_alt h h0 (by omega)
  have k2 := cos_alt (h + above) (by omega) (by omega)
  have m1 : bLo (h + above + 5400000) * (hp - less) ≤ bLo (h + 5400000) * hp := Int.mul_le_mul d.1 (by omega) (by omega) (by omega)
  have m2 : bHi (h + above + 5400000) * (hp - less) ≤ bHi (h + 5400000) * hp := Int.mul_le_mul d.2 (by omega) (by omega) (by omega)
  have m3 : 0 ≤ bLo (h + above + 5400000) * (hp - less) := Int.mul_nonneg k2.1 (by omega)
  have m4 : bHi (h + 5400000) * hp ≤ 1073741824 * hp := Int.mul_le_mul_of_nonneg_right k1.2.2 a0
  generalize bLo (h + above + 5400000) * (hp - less) = x1 at *
  generalize bHi (h + above + 5400000) * (hp - less) = x2 at *
  generalize bLo (h + 5400000) * hp = x3 at *
  generalize bHi (h + 5400000) * hp = x4 at *
  omega

/-- a smaller parallax has a distance that is not less -/
theorem distances_plain (hp less : Int) (a0 : 1 ≤ hp) (a1 : hp ≤ 120000) (b0 : 0 ≤ less) (b1 : less < hp) :
    280 ≤ diLo hp hp ∧ diLo hp hp ≤ diHi hp hp ∧ diLo hp hp ≤ diLo (hp - less) (hp - less) ∧ diHi hp hp ≤ diHi (hp - less) (hp - less) ∧ diLo (hp - less) (hp - less) ≤ diHi (hp - less) (hp - less) ∧ diHi (hp - less) (hp - less) ≤ 10737418240 := by
  have s := sin_small hp hp a0 (by omega) a1
  have t := sin_small (hp - less) (hp - less) (by omega) (by omega) (by omega)
  have u := b_up (-5400000) (hp - less) hp (by omega) (by omega) (by omega) (by omega)
  unfold diLo diHi
  rw [s.1, s.2.1, t.1, t.2.1]
  have d1 := div_turns (bLo hp) (bHi hp) (by omega) (by omega)
  have d2 := div_turns (bLo (hp - less)) (bHi (hp - less)) (by omega) (by omega)
  have d3 := div_turns (bHi (hp - less)) (bHi hp) (by omega) (by omega)
  have d4 := div_turns (bLo (hp - less)) (bLo hp) (by omega) (by omega)
  have d5 := div_turns (bHi hp) 37473100 (by omega) (by omega)
  have c1 : ∀ f : Int, 0 < f → 10737418240 / f ≤ -(-10737418240 / f) := fun f f0 => by
    have x1 := Int.mul_ediv_self_le (x := 10737418240) (k := f) (by omega)
    have x2 := Int.mul_ediv_self_le (x := -10737418240) (k := f) (by omega)
    have : f * (10737418240 / f + -10737418240 / f) ≤ f * 0 := by rw [Int.mul_add]; omega
    have := Int.le_of_mul_le_mul_left this f0
    omega
  have e1 := c1 (bLo hp) (by omega)
  have e2 := c1 (bLo (hp - less)) (by omega)
  omega

end Go.Proofs.Ytcpghihgppgpmaa
