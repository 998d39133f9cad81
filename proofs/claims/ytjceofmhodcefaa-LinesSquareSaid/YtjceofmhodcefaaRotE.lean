/- How errors grow under a rotation by one unit at a time. Plain arithmetic. -/
import Derived.Test.YtjceofmhodcefaaRot
namespace Go.Proofs.Ytjceofmhodcefaa.Rot

theorem abs_mul {a x b : Int} (ha : 0 ≤ a) (h1 : -b ≤ x) (h2 : x ≤ b) : -(a * b) ≤ a * x ∧ a * x ≤ a * b := by
  have h3 := Int.mul_le_mul_of_nonneg_left h1 ha
  have h4 := Int.mul_le_mul_of_nonneg_left h2 ha
  rw [Int.mul_neg] at h3
  exact ⟨h3, h4⟩
end Go.Proofs.Ytjceofmhodcefaa.Rot
