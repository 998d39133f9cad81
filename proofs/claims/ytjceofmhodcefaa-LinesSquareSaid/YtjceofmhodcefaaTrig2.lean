/- What is missing from 1 in the quotient of the sine by the angle, or in the cosine, as a contract. -/
import Derived.Test.YtjceofmhodcefaaMulW
import Derived.Test.YtjceofmhodcefaaTrig
namespace Go.Proofs.Ytjceofmhodcefaa
open Go.RowKit

/-- the product of the two numbers by which a term is divided -/
def dTerm (odd : Int) (k : Nat) : Int := (2 * (k : Int) - 1 + odd) * (2 * (k : Int) + odd)
/-- the series from its last term on: after m terms of 34 -/
def lessR (Y odd : Int) : Nat → Int
  | 0 => 0
  | m + 1 => (Y / dTerm odd (34 - m) - mulV (Y / dTerm odd (34 - m)) (lessR Y odd m)) % W256
def lessV (X odd : Int) : Int := lessR (mulV X X) odd 34

theorem NUM_zero : NUM 0 = .agg #[.int .u64 0, .int .u64 0, .int .u64 0, .int .u64 0] := by
  have h := NUM_nv 0 0 0 0 ⟨by omega, by omega⟩ ⟨by omega, by omega⟩ ⟨by omega, by omega⟩ ⟨by omega, by omega⟩
  exact h

theorem W256_pos : (0 : Int) < W256 := by unfold W256 W64; omega
theorem mod_bd (x : Int) : 0 ≤ x % W256 ∧ x % W256 < W256 := ⟨Int.emod_nonneg _ (by have := W256_pos; omega), Int.emod_lt_of_pos _ W256_pos⟩
theorem lessR_bd (Y odd : Int) (m : Nat) : 0 ≤ lessR Y odd m ∧ lessR Y odd m < W256 := by
  cases m with
  | zero => exact ⟨by simp [lessR], by simp [lessR, W256_pos]⟩
  | succ m => exact mod_bd _

/-- a value of four words that is a number -/
def isNum (A a b c d : Int) : Prop := NUM A = .agg #[.int .u64 a, .int .u64 b, .int .u64 c, .int .u64 d]

/-- the round that adds a term: its three calls, all values known by their words -/
theorem round_calls (Y odd : Int) (m : Nat) (y0 y1 y2 y3 u0 u1 u2 u3 : Int) (hY : 0 ≤ Y ∧ Y < W256) (ho : 0 ≤ odd ∧ odd ≤ 1) (hm : m < 34)
    (nY : isNum Y y0 y1 y2 y3) (nU : isNum (lessR Y odd m) u0 u1 u2 u3) : ∃ q0 q1 q2 q3 p0 p1 p2 p3 v0 v1 v2 v3 : Int,
    Hid (∀ w, Calls Try.prog 88 #[.agg #[.int .u64 y0, .int .u64 y1, .int .u64 y2, .int .u64 y3], .int .u64 0, .int .u64 (dTerm odd (34 - m))] w fun e w' => e = .returned (.agg #[.int .u64 q0, .int .u64 q1, .int .u64 q2, .int .u64 q3]) ∧ Below w.heap.size w w') ∧
    Hid (∀ w, Calls Try.prog 84 #[.agg #[.int .u64 q0, .int .u64 q1, .int .u64 q2, .int .u64 q3], .agg #[.int .u64 u0, .int .u64 u1, .int .u64 u2, .int .u64 u3]] w fun e w' => e = .returned (.agg #[.int .u64 p0, .int .u64 p1, .int .u64 p2, .int .u64 p3]) ∧ Below w.heap.size w w') ∧
    Hid (∀ w, Calls Try.prog 83 #[.agg #[.int .u64 q0, .int .u64 q1, .int .u64 q2, .int .u64 q3], .agg #[.int .u64 p0, .int .u64 p1, .int .u64 p2, .int .u64 p3]] w fun e w' => e = .returned (.agg #[.int .u64 v0, .int .u64 v1, .int .u64 v2, .int .u64 v3]) ∧ Below w.heap.size w w') ∧
    isNum (lessR Y odd (m + 1)) v0 v1 v2 v3 := by
  have d0 : 1 ≤ dTerm odd (34 - m) ∧ dTerm odd (34 - m) ≤ 18446744073709551615 := by
    obtain ⟨k, hk⟩ : ∃ k : Nat, 34 - m = k := ⟨_, rfl⟩
    rw [hk]
    unfold dTerm
    have a1 : 1 ≤ 2 * (k : Int) - 1 + odd := by omega
    have a2 : 2 * (k : Int) - 1 + odd ≤ 68 := by omega
    have b1 : 1 ≤ 2 * (k : Int) + odd := by omega
    have b2 : 2 * (k : Int) + odd ≤ 69 := by omega
    have := Int.mul_le_mul a1 b1 (by omega) (by omega)
    have := Int.mul_le_mul a2 b2 (by omega) (by omega)
    omega
  generalize hd : dTerm odd (34 - m) = d at *
  have D := fun w => ndiv_any Y 0 d w hY.1 hY.2 (by omega) (by omega) d0.2
  have e0 : (0 * W256 + Y) / d = Y / d := by rw [Int.zero_mul, Int.zero_add]
  rw [e0] at D
  have q0 : 0 ≤ Y / d := Int.ediv_nonneg hY.1 (by omega)
  have q1 : Y / d < W256 := by
    have := Int.ediv_le_self d hY.1
    omega
  have ub := lessR_bd Y odd m
  have M := fun w => nmul_any (Y / d) (lessR Y odd m) w q0 q1 ub.1 ub.2
  have S := fun w => nsub_any (Y / d) (mulV (Y / d) (lessR Y odd m)) w q0 q1
  have ev : lessR Y odd (m + 1) = (Y / d - mulV (Y / d) (lessR Y odd m)) % W256 := by rw [← hd]; rfl
  have mb : 0 ≤ mulV (Y / d) (lessR Y odd m) ∧ mulV (Y / d) (lessR Y odd m) < W256 := by
    obtain ⟨a, b, c, e, ha, hb, hc, he, eA, nA⟩ := NUM_words (Y / d) q0 q1
    exact mulV_bd _ _ q0 q1 ub.1 ub.2
  obtain ⟨a0, a1, a2, a3, _, _, _, _, _, nQ⟩ := NUM_words (Y / d) q0 q1
  obtain ⟨b0, b1, b2, b3, _, _, _, _, _, nP⟩ := NUM_words _ mb.1 mb.2
  obtain ⟨c0, c1, c2, c3, _, _, _, _, _, nV⟩ := NUM_words _ (mod_bd (Y / d - mulV (Y / d) (lessR Y odd m))).1 (mod_bd _).2
  unfold isNum at nY nU
  refine ⟨a0, a1, a2, a3, b0, b1, b2, b3, c0, c1, c2, c3, hidden fun w => ?_, hidden fun w => ?_, hidden fun w => ?_, ?_⟩
  · rw [← nY, ← nQ]; exact (D w).mono fun _ _ h => ⟨h.1, h.2.1⟩
  · rw [← nQ, ← nU, ← nP]; exact (M w).mono fun _ _ h => ⟨h.1, h.2.1⟩
  · rw [← nQ, ← nP, ← nV]; exact S w mb.1 mb.2
  · unfold isNum; rw [ev]; exact nV

end Go.Proofs.Ytjceofmhodcefaa
