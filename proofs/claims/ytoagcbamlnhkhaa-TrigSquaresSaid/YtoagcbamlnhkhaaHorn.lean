/- The series of trig, worked off from its last term with rounded products, is near Taylor's polynomials. Plain arithmetic. -/
import Derived.Test.YtoagcbamlnhkhaaPol
namespace Go.Proofs.Ytoagcbamlnhkhaa.Rot

theorem mul_mid {a x lo hi : Int} (ha : 0 ≤ a) (h1 : lo ≤ x) (h2 : x ≤ hi) : a * lo ≤ a * x ∧ a * x ≤ a * hi :=
  ⟨Int.mul_le_mul_of_nonneg_left h1 ha, Int.mul_le_mul_of_nonneg_left h2 ha⟩

/-- one round: a quotient, less its product with what came before -/
theorem horn (W T BB Y d u u2 q m Q A eta eps eps2 : Int) (hW : 0 < W) (hd : 0 < d) (hB : 0 < BB) (hQ : 0 < Q) (T0 : 0 ≤ T) (T1 : T ≤ BB) (u0 : 0 ≤ u) (u1 : u ≤ W) (n0 : 0 ≤ eta) (e0 : 0 ≤ eps)
    (hq1 : q * d ≤ Y) (hq2 : Y < q * d + d) (hm1 : m * W ≤ q * u) (hm2 : q * u < m * W + 2 * W) (hu2 : u2 = q - m)
    (hY : -(eta * BB) ≤ Y * BB - W * T ∧ Y * BB - W * T ≤ eta * BB) (hu : -(eps * Q) ≤ u * Q - W * A ∧ u * Q - W * A ≤ eps * Q) (he : 2 * d + eta + eps ≤ eps2 * d) :
    -(eps2 * (d * BB * Q)) ≤ u2 * (d * BB * Q) - W * (T * (Q - A)) ∧ u2 * (d * BB * Q) - W * (T * (Q - A)) ≤ eps2 * (d * BB * Q) := by
  subst hu2
  obtain ⟨V, hV⟩ : ∃ V, W - u = V := ⟨_, rfl⟩
  have V0 : 0 ≤ V := by omega
  have V1 : V ≤ W := by omega
  have hBQ : 0 ≤ BB * Q := Int.mul_nonneg (by omega) (by omega)
  -- the round itself
  have a1 : q * V ≤ (q - m) * W := by
    have : q * V = q * W - q * u := by rw [← hV, Int.mul_sub]
    have : (q - m) * W = q * W - m * W := Int.sub_mul ..
    omega
  have a2 : (q - m) * W ≤ q * V + 2 * W := by
    have : q * V = q * W - q * u := by rw [← hV, Int.mul_sub]
    have : (q - m) * W = q * W - m * W := Int.sub_mul ..
    omega
  have b1 : Y * V - d * W ≤ (q - m) * W * d := by
    have h1 : (Y - d) * V ≤ q * d * V := Int.mul_le_mul_of_nonneg_right (by omega) V0
    have h2 : q * V * d ≤ (q - m) * W * d := Int.mul_le_mul_of_nonneg_right a1 (by omega)
    have h3 : d * V ≤ d * W := Int.mul_le_mul_of_nonneg_left V1 (by omega)
    have h4 : (Y - d) * V = Y * V - d * V := Int.sub_mul ..
    have h5 : q * d * V = q * V * d := by ac_rfl
    omega
  have b2 : (q - m) * W * d ≤ Y * V + 2 * (d * W) := by
    have h1 : q * d * V ≤ Y * V := Int.mul_le_mul_of_nonneg_right hq1 V0
    have h2 : (q - m) * W * d ≤ (q * V + 2 * W) * d := Int.mul_le_mul_of_nonneg_right a2 (by omega)
    have h4 : (q * V + 2 * W) * d = q * d * V + 2 * (d * W) := by grind
    omega
  have c := mul_mid hBQ b1 b2
  -- the square, and what came before
  have f := abs_mul (Int.mul_nonneg V0 (by omega : 0 ≤ Q)) hY.1 hY.2
  have f3 : V * Q * (eta * BB) ≤ W * Q * (eta * BB) := Int.mul_le_mul_of_nonneg_right (Int.mul_le_mul_of_nonneg_right V1 (by omega)) (Int.mul_nonneg n0 (by omega))
  have g := abs_mul (Int.mul_nonneg (by omega : 0 ≤ W) T0) hu.1 hu.2
  have g3 : W * T * (eps * Q) ≤ W * BB * (eps * Q) := Int.mul_le_mul_of_nonneg_right (Int.mul_le_mul_of_nonneg_left T1 (by omega)) (Int.mul_nonneg e0 (by omega))
  have k : W * (BB * Q * (2 * d + eta + eps)) ≤ W * (BB * Q * (eps2 * d)) := Int.mul_le_mul_of_nonneg_left (Int.mul_le_mul_of_nonneg_left he hBQ) (by omega)
  have dw : 0 ≤ BB * Q * (d * W) := Int.mul_nonneg hBQ (Int.mul_nonneg (by omega) (by omega))
  -- all products as sums of the same ones
  have i1 : BB * Q * (Y * V - d * W) = BB * Q * (Y * V) - BB * Q * (d * W) := Int.mul_sub ..
  have i2 : BB * Q * (Y * V + 2 * (d * W)) = BB * Q * (Y * V) + 2 * (BB * Q * (d * W)) := by grind
  have i3 : V * Q * (Y * BB - W * T) = BB * Q * (Y * V) - W * T * (V * Q) := by grind
  have i4 : W * T * (u * Q - W * A) = W * (W * (T * (Q - A))) - W * T * (V * Q) := by rw [← hV]; grind
  have i5 : W * (BB * Q * (2 * d + eta + eps)) = 2 * (BB * Q * (d * W)) + W * Q * (eta * BB) + W * BB * (eps * Q) := by grind
  have i6 : BB * Q * ((q - m) * W * d) = W * ((q - m) * (d * BB * Q)) := by ac_rfl
  have i7 : W * (BB * Q * (eps2 * d)) = W * (eps2 * (d * BB * Q)) := by ac_rfl
  rw [i1, i6] at c
  rw [i2] at c
  rw [i3] at f
  rw [i4] at g
  rw [i5, i7] at k
  constructor
  · apply Int.le_of_mul_le_mul_left _ hW
    rw [Int.mul_neg, Int.mul_sub]
    omega
  · apply Int.le_of_mul_le_mul_left _ hW
    rw [Int.mul_sub]
    omega

/-- the bounds of the errors -/
def epsN (odd : Int) : Nat → Int
  | 0 => 2 ^ 256 / 600
  | j + 1 => 3 + (4 + epsN odd j) / dT odd (12 - j)
theorem dT_pos (odd : Int) (j : Nat) (ho : 0 ≤ odd) (hj : j < 12) : 2 ≤ dT odd (12 - j) := by
  unfold dT
  have a : 1 ≤ 2 * ((12 - j : Nat) : Int) - 1 + odd := by omega
  have b : 2 ≤ 2 * ((12 - j : Nat) : Int) + odd := by omega
  have := Int.mul_le_mul a b (by omega) (by omega)
  omega
theorem qN_pos (odd : Int) (j : Nat) (ho : 0 ≤ odd) (hj : j ≤ 12) : 0 < qN odd j := by
  induction j with
  | zero => show (0 : Int) < 1; decide
  | succ j ih =>
    have h := dT_pos odd j ho (by omega)
    exact Int.mul_pos (Int.mul_pos (by omega) (by decide)) (ih (by omega))
theorem epsN_pos (odd : Int) (j : Nat) (ho : 0 ≤ odd) (hj : j ≤ 12) : 0 ≤ epsN odd j := by
  induction j with
  | zero => show (0 : Int) ≤ 2 ^ 256 / 600; decide
  | succ j ih =>
    have h := dT_pos odd j ho (by omega)
    have := Int.ediv_nonneg (by have := ih (by omega); omega : 0 ≤ 4 + epsN odd j) (by omega : 0 ≤ dT odd (12 - j))
    show 0 ≤ 3 + (4 + epsN odd j) / dT odd (12 - j)
    omega

theorem square_near (n X Y : Int) (n0 : 0 ≤ n) (n1 : n ≤ 2700000) (hX1 : X * 10800000 ≤ piN * n) (hX2 : piN * n < X * 10800000 + 10800000) (X0 : 0 ≤ X) (hY1 : Y * 2 ^ 256 ≤ X * X) (hY2 : X * X < Y * 2 ^ 256 + 2 * 2 ^ 256) :
    -(4 * (bN * bN)) ≤ Y * (bN * bN) - 2 ^ 256 * ((piN * n) * (piN * n)) ∧ Y * (bN * bN) - 2 ^ 256 * ((piN * n) * (piN * n)) ≤ 4 * (bN * bN) := by
  have xb : 0 ≤ piN * n ∧ piN * n ≤ bN := by unfold piN bN; omega
  generalize piN * n = x at *
  have s1 : (X * 10800000) * (X * 10800000) ≤ x * x := Int.mul_le_mul hX1 hX1 (by omega) (by omega)
  have s2 : (x - 10800000) * (x - 10800000) ≤ (X * 10800000) * (X * 10800000) ∨ x < 10800000 := by
    by_cases h : x < 10800000
    · exact Or.inr h
    · exact Or.inl (Int.mul_le_mul (by omega) (by omega) (by omega) (by omega))
  have e1 : (X * 10800000) * (X * 10800000) = 10800000 * 10800000 * (X * X) := by grind
  have e2 : (x - 10800000) * (x - 10800000) = x * x - 2 * 10800000 * x + 10800000 * 10800000 := by grind
  have e3 : Y * (bN * bN) = 2 ^ 256 * (10800000 * 10800000 * (Y * 2 ^ 256)) := by unfold bN; grind
  rw [e3]
  have x2 : x < 10800000 → x * x ≤ 10800000 * 10800000 := fun h => Int.mul_le_mul (by omega) (by omega) (by omega) (by omega)
  have XX : 0 ≤ X * X := Int.mul_nonneg X0 X0
  unfold bN at *
  generalize x * x = xx at *
  generalize X * X = XX at *
  omega

/-- the program's series, after its last 12 terms -/
theorem series_near (odd n X Y : Int) (u : Nat → Int) (ho : odd = 0 ∨ odd = 1) (n0 : 0 ≤ n) (n1 : n ≤ 2700000) (hX1 : X * 10800000 ≤ piN * n) (hX2 : piN * n < X * 10800000 + 10800000) (X0 : 0 ≤ X)
    (hY1 : Y * 2 ^ 256 ≤ X * X) (hY2 : X * X < Y * 2 ^ 256 + 2 * 2 ^ 256) (_Y0 : 0 ≤ Y) (ub : ∀ j, j ≤ 12 → 0 ≤ u j ∧ u j ≤ 2 ^ 256) (us : u 0 ≤ 2 ^ 256 / 600)
    (hu : ∀ j, j < 12 → ∃ m, m * 2 ^ 256 ≤ Y / dT odd (12 - j) * u j ∧ Y / dT odd (12 - j) * u j < m * 2 ^ 256 + 2 * 2 ^ 256 ∧ u (j + 1) = Y / dT odd (12 - j) - m) :
    -(2 ^ 168 * qN odd 12) ≤ u 12 * qN odd 12 - 2 ^ 256 * aN odd n 12 ∧ u 12 * qN odd 12 - 2 ^ 256 * aN odd n 12 ≤ 2 ^ 168 * qN odd 12 := by
  have o0 : 0 ≤ odd := by omega
  have sq := square_near n X Y n0 n1 hX1 hX2 X0 hY1 hY2
  have xb : 0 ≤ piN * n ∧ piN * n ≤ bN := by unfold piN bN; omega
  have key : ∀ j, j ≤ 12 → -(epsN odd j * qN odd j) ≤ u j * qN odd j - 2 ^ 256 * aN odd n j ∧ u j * qN odd j - 2 ^ 256 * aN odd n j ≤ epsN odd j * qN odd j := by
    intro j
    induction j with
    | zero =>
      intro _
      have := ub 0 (by omega)
      simp only [qN, aN, epsN]
      omega
    | succ j ih =>
      intro hj
      have h := ih (by omega)
      obtain ⟨m, m1, m2, m3⟩ := hu j (by omega)
      have d2 := dT_pos odd j o0 (by omega)
      have ep := epsN_pos odd j o0 (by omega)
      have dm := Int.mul_ediv_self_le (x := Y) (k := dT odd (12 - j)) (by omega)
      have dl := Int.lt_mul_ediv_self_add (x := Y) (k := dT odd (12 - j)) (by omega)
      have dq := Int.lt_mul_ediv_self_add (x := 4 + epsN odd j) (k := dT odd (12 - j)) (by omega)
      have r := horn (2 ^ 256) ((piN * n) * (piN * n)) (bN * bN) Y (dT odd (12 - j)) (u j) (u (j + 1)) (Y / dT odd (12 - j)) m (qN odd j) (aN odd n j) 4 (epsN odd j) (epsN odd (j + 1))
        (by decide) (by omega) (by decide) (qN_pos odd j o0 (by omega)) (Int.mul_nonneg xb.1 xb.1) (Int.mul_le_mul xb.2 xb.2 xb.1 (by omega)) (ub j (by omega)).1 (ub j (by omega)).2 (by omega) ep
        (by rw [Int.mul_comm]; exact dm) (by rw [Int.mul_comm]; exact dl) m1 m2 m3 sq h (by
          show _ ≤ (3 + (4 + epsN odd j) / dT odd (12 - j)) * dT odd (12 - j)
          rw [Int.add_mul, Int.mul_comm (_ / _)]
          omega)
      exact r
  have k := key 12 (by omega)
  have q := qN_pos odd 12 o0 (by omega)
  have e : epsN odd 12 ≤ 2 ^ 168 := by rcases ho with rfl | rfl <;> decide +kernel
  have := Int.mul_le_mul_of_nonneg_right e (by omega : 0 ≤ qN odd 12)
  omega

end Go.Proofs.Ytoagcbamlnhkhaa.Rot
