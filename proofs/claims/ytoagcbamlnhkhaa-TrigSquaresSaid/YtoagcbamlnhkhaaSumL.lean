/- The formulas for sums, in the enclosures of the sines: what the boxes of the statements contain. -/
import Derived.Test.YtoagcbamlnhkhaaNear
import Derived.Test.YtoagcbamlnhkhaaTrigP
import Derived.Test.YtoagcbamlnhkhaaNk
namespace Go.Proofs.Ytoagcbamlnhkhaa
open Rot

theorem prod_abs {s t S T : Int} (s0 : -S ≤ s) (s1 : s ≤ S) (t0 : -T ≤ t) (t1 : t ≤ T) : -(S * T) ≤ s * t ∧ s * t ≤ S * T := by
  have e := Int.natAbs_mul s t
  have h : s.natAbs * t.natAbs ≤ S.natAbs * T.natAbs := Nat.mul_le_mul (by omega) (by omega)
  rw [← e, ← Int.natAbs_mul] at h
  have p : 0 ≤ S * T := Int.mul_nonneg (by omega) (by omega)
  omega
theorem corner_le {p q p0 p1 q0 q1 M : Int} (hp0 : p0 ≤ p) (hp1 : p ≤ p1) (hq0 : q0 ≤ q) (hq1 : q ≤ q1) (h00 : p0 * q0 ≤ M) (h01 : p0 * q1 ≤ M) (h10 : p1 * q0 ≤ M) (h11 : p1 * q1 ≤ M) : p * q ≤ M := by
  have line : ∀ r : Int, r * q0 ≤ M → r * q1 ≤ M → r * q ≤ M := by
    intro r h0 h1
    rcases Int.le_total 0 r with hr | hr
    · exact Int.le_trans (Int.mul_le_mul_of_nonneg_left hq1 hr) h1
    · exact Int.le_trans (Int.mul_le_mul_of_nonpos_left hr hq0) h0
  rcases Int.le_total 0 q with hq | hq
  · exact Int.le_trans (Int.mul_le_mul_of_nonneg_right hp1 hq) (line p1 h10 h11)
  · exact Int.le_trans (Int.mul_le_mul_of_nonpos_right hp0 hq) (line p0 h00 h01)
theorem scale2 (x y : Int) : x * 2 ^ 98 * (y * 2 ^ 98) = x * y * 2 ^ 196 := by
  rw [show (2 : Int) ^ 196 = 2 ^ 98 * 2 ^ 98 by decide]
  ac_rfl
/-- the product of two enclosed numbers, of the scale 2^128, in the box's product -/
theorem prod_box {X Y xl xh yl yh : Int} (x0 : xl * 2 ^ 98 ≤ X + 2 ^ 42) (x1 : X ≤ xh * 2 ^ 98 + 2 ^ 42) (y0 : yl * 2 ^ 98 ≤ Y + 2 ^ 42) (y1 : Y ≤ yh * 2 ^ 98 + 2 ^ 42) (hx : xl ≤ xh) (hy : yl ≤ yh)
    (a0 : -1073741824 ≤ xl) (a1 : xh ≤ 1073741824) (bY0 : -(2 ^ 128) ≤ Y) (bY1 : Y ≤ 2 ^ 128) :
    X * Y ≤ mxF (xl * yl) (xl * yh) (xh * yl) (xh * yh) 4 * 2 ^ 196 + 2 ^ 171 ∧ mnF (xl * yl) (xl * yh) (xh * yl) (xh * yh) 4 * 2 ^ 196 ≤ X * Y + 2 ^ 171 := by
  obtain ⟨u, hu⟩ : ∃ u, u = max (xl * 2 ^ 98) (min X (xh * 2 ^ 98)) := ⟨_, rfl⟩
  obtain ⟨v, hv⟩ : ∃ v, v = max (yl * 2 ^ 98) (min Y (yh * 2 ^ 98)) := ⟨_, rfl⟩
  have u0 : xl * 2 ^ 98 ≤ u := by omega
  have u1 : u ≤ xh * 2 ^ 98 := by omega
  have u2 : -(2 ^ 42) ≤ X - u ∧ X - u ≤ 2 ^ 42 := by omega
  have v0 : yl * 2 ^ 98 ≤ v := by omega
  have v1 : v ≤ yh * 2 ^ 98 := by omega
  have v2 : -(2 ^ 42) ≤ Y - v ∧ Y - v ≤ 2 ^ 42 := by omega
  have e : X * Y = u * v + u * (Y - v) + (X - u) * Y := by
    rw [Int.mul_sub, Int.sub_mul]
    omega
  have k1 := prod_abs (s := u) (S := 2 ^ 128) (by omega) (by omega) v2.1 v2.2
  have k2 := prod_abs (s := X - u) (t := Y) (T := 2 ^ 128) u2.1 u2.2 bY0 bY1
  generalize e1 : xl * yl = p0 at *
  generalize e2 : xl * yh = p1 at *
  generalize e3 : xh * yl = p2 at *
  generalize e4 : xh * yh = p3 at *
  have m0 : p0 ≤ mxF p0 p1 p2 p3 4 ∧ p1 ≤ mxF p0 p1 p2 p3 4 ∧ p2 ≤ mxF p0 p1 p2 p3 4 ∧ p3 ≤ mxF p0 p1 p2 p3 4 := by simp only [mxF]; omega
  have m1 : mnF p0 p1 p2 p3 4 ≤ p0 ∧ mnF p0 p1 p2 p3 4 ≤ p1 ∧ mnF p0 p1 p2 p3 4 ≤ p2 ∧ mnF p0 p1 p2 p3 4 ≤ p3 := by simp only [mnF]; omega
  generalize mxF p0 p1 p2 p3 4 = H at *
  generalize mnF p0 p1 p2 p3 4 = L at *
  have c := corner_le (M := H * 2 ^ 196) u0 u1 v0 v1 (by rw [scale2, e1]; omega) (by rw [scale2, e2]; omega) (by rw [scale2, e3]; omega) (by rw [scale2, e4]; omega)
  have d := corner_le (p := -u) (p0 := -(xh * 2 ^ 98)) (p1 := -(xl * 2 ^ 98)) (M := -(L * 2 ^ 196)) (by omega) (by omega) v0 v1 (by rw [Int.neg_mul, scale2, e3]; omega) (by rw [Int.neg_mul, scale2, e4]; omega) (by rw [Int.neg_mul, scale2, e1]; omega) (by rw [Int.neg_mul, scale2, e2]; omega)
  rw [Int.neg_mul] at d
  omega
/-- the enclosures at n: of the sine, and of the cosine -/
theorem sin_box (a b : Int) (x y : Int) (_hx : x = a ∨ x = a + 5400000) (_hy : y = b ∨ y = b + 5400000) :
    iS x * iS y ≤ mxF (bLo x * bLo y) (bLo x * bHi y) (bHi x * bLo y) (bHi x * bHi y) 4 * 2 ^ 196 + 2 ^ 171 ∧ mnF (bLo x * bLo y) (bLo x * bHi y) (bHi x * bLo y) (bHi x * bHi y) 4 * 2 ^ 196 ≤ iS x * iS y + 2 ^ 171 := by
  have nx := b_near x
  have ny := b_near y
  have bx := b_bd x
  have b2 := b_bd y
  have iy := i_bd y
  exact prod_box nx.1 nx.2 ny.1 ny.2 (by omega) (by omega) (by omega) (by omega) iy.1.1 iy.1.2
/-- the sine of a sum -/
theorem sums_sin (a b : Int) :
    bLo (a + b) * 1073741824 ≤ mxF (bLo a * bLo (b + 5400000)) (bLo a * bHi (b + 5400000)) (bHi a * bLo (b + 5400000)) (bHi a * bHi (b + 5400000)) 4 + mxF (bLo (a + 5400000) * bLo b) (bLo (a + 5400000) * bHi b) (bHi (a + 5400000) * bLo b) (bHi (a + 5400000) * bHi b) 4 ∧
    mnF (bLo a * bLo (b + 5400000)) (bLo a * bHi (b + 5400000)) (bHi a * bLo (b + 5400000)) (bHi a * bHi (b + 5400000)) 4 + mnF (bLo (a + 5400000) * bLo b) (bLo (a + 5400000) * bHi b) (bHi (a + 5400000) * bLo b) (bHi (a + 5400000) * bHi b) 4 ≤ bHi (a + b) * 1073741824 := by
  have h := (sum_any a b).1
  have n := b_near (a + b)
  have p := sin_box a b a (b + 5400000) (.inl rfl) (.inr rfl)
  have q := sin_box a b (a + 5400000) b (.inr rfl) (.inl rfl)
  unfold iC at h
  generalize iS a * iS (b + 5400000) = P at *
  generalize iS (a + 5400000) * iS b = Q at *
  generalize mxF (bLo a * bLo (b + 5400000)) (bLo a * bHi (b + 5400000)) (bHi a * bLo (b + 5400000)) (bHi a * bHi (b + 5400000)) 4 = H1 at *
  generalize mnF (bLo a * bLo (b + 5400000)) (bLo a * bHi (b + 5400000)) (bHi a * bLo (b + 5400000)) (bHi a * bHi (b + 5400000)) 4 = L1 at *
  generalize mxF (bLo (a + 5400000) * bLo b) (bLo (a + 5400000) * bHi b) (bHi (a + 5400000) * bLo b) (bHi (a + 5400000) * bHi b) 4 = H2 at *
  generalize mnF (bLo (a + 5400000) * bLo b) (bLo (a + 5400000) * bHi b) (bHi (a + 5400000) * bLo b) (bHi (a + 5400000) * bHi b) 4 = L2 at *
  omega
/-- the cosine of a sum -/
theorem sums_cos (a b : Int) :
    bLo (a + b + 5400000) * 1073741824 ≤ mxF (bLo (a + 5400000) * bLo (b + 5400000)) (bLo (a + 5400000) * bHi (b + 5400000)) (bHi (a + 5400000) * bLo (b + 5400000)) (bHi (a + 5400000) * bHi (b + 5400000)) 4 + -mnF (bLo a * bLo b) (bLo a * bHi b) (bHi a * bLo b) (bHi a * bHi b) 4 ∧
    mnF (bLo (a + 5400000) * bLo (b + 5400000)) (bLo (a + 5400000) * bHi (b + 5400000)) (bHi (a + 5400000) * bLo (b + 5400000)) (bHi (a + 5400000) * bHi (b + 5400000)) 4 + -mxF (bLo a * bLo b) (bLo a * bHi b) (bHi a * bLo b) (bHi a * bHi b) 4 ≤ bHi (a + b + 5400000) * 1073741824 := by
  have h := (sum_any a b).2
  have n := b_near (a + b + 5400000)
  have p := sin_box a b (a + 5400000) (b + 5400000) (.inr rfl) (.inr rfl)
  have q := sin_box a b a b (.inl rfl) (.inl rfl)
  unfold iC at h
  generalize iS (a + 5400000) * iS (b + 5400000) = P at *
  generalize iS a * iS b = Q at *
  generalize mxF (bLo (a + 5400000) * bLo (b + 5400000)) (bLo (a + 5400000) * bHi (b + 5400000)) (bHi (a + 5400000) * bLo (b + 5400000)) (bHi (a + 5400000) * bHi (b + 5400000)) 4 = H1 at *
  generalize mnF (bLo (a + 5400000) * bLo (b + 5400000)) (bLo (a + 5400000) * bHi (b + 5400000)) (bHi (a + 5400000) * bLo (b + 5400000)) (bHi (a + 5400000) * bHi (b + 5400000)) 4 = L1 at *
  generalize mxF (bLo a * bLo b) (bLo a * bHi b) (bHi a * bLo b) (bHi a * bHi b) 4 = H2 at *
  generalize mnF (bLo a * bLo b) (bLo a * bHi b) (bHi a * bLo b) (bHi a * bHi b) 4 = L2 at *
  omega

/-- the sine is odd, the cosine even -/
theorem iS_neg (n : Int) : iS (-n) = -iS n := by
  unfold iS
  have e : red (-n) = red n := by unfold red; split <;> split <;> split <;> split <;> omega
  have z : n % 21600000 = 0 ∨ n % 21600000 = 10800000 → gS (red n) = 0 := fun h => by
    have : red n = 0 := by unfold red; split <;> split <;> omega
    rw [this]; exact gS_zero
  rw [e]
  split <;> split <;> first | omega | (have := z (by omega); omega)
theorem iC_neg (n : Int) : iS (-n + 5400000) = iS (n + 5400000) := by
  have h := iS_neg (n - 5400000)
  have k := iS_half (n - 5400000)
  rw [show -(n - 5400000) = -n + 5400000 by omega] at h
  rw [show n - 5400000 + 10800000 = n + 5400000 by omega] at k
  omega
/-- the squares of sine and cosine -/
theorem squares (n : Int) : -(2 ^ 184) ≤ 2 ^ 256 - (iS (n + 5400000) * iS (n + 5400000) + iS n * iS n) ∧ 2 ^ 256 - (iS (n + 5400000) * iS (n + 5400000) + iS n * iS n) ≤ 2 ^ 184 := by
  have h := (sum_any n (-n)).2
  unfold iC at h
  rw [show n + -n + 5400000 = 0 + 5400000 by omega, show iS (0 + 5400000) = 2 ^ 128 from i_zero.2, iC_neg, iS_neg, Int.mul_neg] at h
  omega
theorem squares_box (n : Int) :
    mnF (bLo n * bLo n) (bLo n * bHi n) (bHi n * bLo n) (bHi n * bHi n) 4 + mnF (bLo (n + 5400000) * bLo (n + 5400000)) (bLo (n + 5400000) * bHi (n + 5400000)) (bHi (n + 5400000) * bLo (n + 5400000)) (bHi (n + 5400000) * bHi (n + 5400000)) 4 ≤ 1073741824 * 1073741824 ∧
    1073741824 * 1073741824 ≤ mxF (bLo n * bLo n) (bLo n * bHi n) (bHi n * bLo n) (bHi n * bHi n) 4 + mxF (bLo (n + 5400000) * bLo (n + 5400000)) (bLo (n + 5400000) * bHi (n + 5400000)) (bHi (n + 5400000) * bLo (n + 5400000)) (bHi (n + 5400000) * bHi (n + 5400000)) 4 := by
  have h := squares n
  have p := sin_box n n n n (.inl rfl) (.inl rfl)
  have q := sin_box n n (n + 5400000) (n + 5400000) (.inr rfl) (.inr rfl)
  generalize iS n * iS n = P at *
  generalize iS (n + 5400000) * iS (n + 5400000) = Q at *
  generalize mxF (bLo n * bLo n) (bLo n * bHi n) (bHi n * bLo n) (bHi n * bHi n) 4 = H1 at *
  generalize mnF (bLo n * bLo n) (bLo n * bHi n) (bHi n * bLo n) (bHi n * bHi n) 4 = L1 at *
  generalize mxF (bLo (n + 5400000) * bLo (n + 5400000)) (bLo (n + 5400000) * bHi (n + 5400000)) (bHi (n + 5400000) * bLo (n + 5400000)) (bHi (n + 5400000) * bHi (n + 5400000)) 4 = H2 at *
  generalize mnF (bLo (n + 5400000) * bLo (n + 5400000)) (bLo (n + 5400000) * bHi (n + 5400000)) (bHi (n + 5400000) * bLo (n + 5400000)) (bHi (n + 5400000) * bHi (n + 5400000)) 4 = L2 at *
  omega
/-- the haversine of the double angle is the square of the sine -/
theorem double_box (n x y : Int) (hx : 2 * x ≤ 1073741824 - bHi (2 * n + 5400000)) (hy : 1073741824 - bLo (2 * n + 5400000) ≤ 2 * y) :
    x * 1073741824 ≤ mxF (bLo n * bLo n) (bLo n * bHi n) (bHi n * bLo n) (bHi n * bHi n) 4 ∧ mnF (bLo n * bLo n) (bLo n * bHi n) (bHi n * bLo n) (bHi n * bHi n) 4 ≤ y * 1073741824 := by
  have h := (sum_any n n).2
  have s := squares n
  have p := sin_box n n n n (.inl rfl) (.inl rfl)
  have k := b_near (2 * n + 5400000)
  unfold iC at h
  rw [show n + n + 5400000 = 2 * n + 5400000 by omega] at h
  generalize iS n * iS n = P at *
  generalize iS (n + 5400000) * iS (n + 5400000) = Q at *
  generalize mxF (bLo n * bLo n) (bLo n * bHi n) (bHi n * bLo n) (bHi n * bHi n) 4 = H1 at *
  generalize mnF (bLo n * bLo n) (bLo n * bHi n) (bHi n * bLo n) (bHi n * bHi n) 4 = L1 at *
  omega

end Go.Proofs.Ytoagcbamlnhkhaa
