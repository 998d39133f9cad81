/- How errors grow under a rotation by one unit at a time. Plain arithmetic. -/
import Derived.Test.YtoagcbamlnhkhaaRot
namespace Go.Proofs.Ytoagcbamlnhkhaa.Rot

theorem abs_mul {a x b : Int} (ha : 0 ≤ a) (h1 : -b ≤ x) (h2 : x ≤ b) : -(a * b) ≤ a * x ∧ a * x ≤ a * b := by
  have h3 := Int.mul_le_mul_of_nonneg_left h1 ha
  have h4 := Int.mul_le_mul_of_nonneg_left h2 ha
  rw [Int.mul_neg] at h3
  exact ⟨h3, h4⟩
/-- the growth of an error: about 3437746 n and a little more -/
def gF (n : Int) : Int := n * (3437746 + 3 * n)
theorem rot_err (x y : Nat → Int) (K : Int) (N : Nat) (hN : N ≤ 5400000) (x0 : x 0 = 0) (y0 : y 0 = 0) (hK : 0 ≤ K)
    (hx : ∀ n, n < N → -K ≤ 2 ^ 128 * x (n + 1) - (340282366920924066805512056100497561939 * x n + 98984128154162191825446416122235 * y n) ∧ 2 ^ 128 * x (n + 1) - (340282366920924066805512056100497561939 * x n + 98984128154162191825446416122235 * y n) ≤ K)
    (hy : ∀ n, n < N → -K ≤ 2 ^ 128 * y (n + 1) - (340282366920924066805512056100497561939 * y n - 98984128154162191825446416122235 * x n) ∧ 2 ^ 128 * y (n + 1) - (340282366920924066805512056100497561939 * y n - 98984128154162191825446416122235 * x n) ≤ K) :
    ∀ n, n ≤ N → (-(K * gF n) ≤ 3437746 * 2 ^ 128 * x n ∧ 3437746 * 2 ^ 128 * x n ≤ K * gF n) ∧ (-(K * gF n) ≤ 3437746 * 2 ^ 128 * y n ∧ 3437746 * 2 ^ 128 * y n ≤ K * gF n) := by
  intro n
  induction n with
  | zero => intro _; rw [x0, y0]; simp [gF]
  | succ n ih =>
    intro hn
    have h := ih (by omega)
    have a := hx n (by omega)
    have b := hy n (by omega)
    have e : K * gF ((n + 1 : Nat) : Int) = K * gF n + 6 * (K * n) + 3437749 * K := by
      unfold gF
      rw [show ((n + 1 : Nat) : Int) = n + 1 by omega]
      have : ((n : Int) + 1) * (3437746 + 3 * (n + 1)) = n * (3437746 + 3 * n) + 6 * n + 3437749 := by
        simp only [Int.add_mul, Int.mul_add, Int.one_mul, Int.mul_one]
        have : (n : Int) * (3 * n) = 3 * (n * n) := by rw [Int.mul_left_comm]
        rw [this]
        omega
      rw [this, Int.mul_add, Int.mul_add, Int.mul_left_comm K 6, Int.mul_comm K 3437749]
    have f : K * gF n ≤ 6 * 3437746 * (K * n) := by
      have : gF n ≤ 6 * 3437746 * (n : Int) := by
        unfold gF
        rw [Int.mul_comm (6 * 3437746)]
        exact Int.mul_le_mul_of_nonneg_left (by omega) (by omega)
      have := Int.mul_le_mul_of_nonneg_left this hK
      rw [Int.mul_left_comm] at this
      exact this
    have g : 0 ≤ K * n := Int.mul_nonneg hK (by omega)
    rw [e]
    generalize K * gF n = KF at *
    generalize K * (n : Int) = Kn at *
    generalize x (n + 1) = x1 at *
    generalize y (n + 1) = y1 at *
    generalize x n = xn at *
    generalize y n = yn at *
    omega

end Go.Proofs.Ytoagcbamlnhkhaa.Rot
