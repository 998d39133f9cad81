/- LinesForms: Valid and Of return what the reference returns. -/
import Derived.Test.YtjceofmhodcefaaLinA
import Derived.Test.YtjceofmhodcefaaLinD
import Derived.Test.YtjceofmhodcefaaLinB
namespace Go.Proofs.Ytjceofmhodcefaa
open Go.RowKit

theorem arcLo_bd {a b : Int} (h : a ≤ b) : 0 ≤ arcLo a b ∧ arcLo a b ≤ 21600000 ∧ 0 ≤ arcHi a b ∧ arcHi a b ≤ 43200000 := by unfold arcLo arcHi; split <;> omega
theorem from_is (a b : Int) (h : a ≤ b) : fromB a b = withB a b := by
  unfold fromB withB
  rw [Bool.eq_iff_iff]
  simp only [Bool.and_eq_true, decide_eq_true_eq]
  omega

/-- Valid of the reference says what Valid says. -/
theorem v37_any (c d a b p q : Int) (w : World) :
    Calls Try.prog 7 #[.agg #[.int .i64 c, .int .i64 d, .int .i64 a, .int .i64 b, .int .i64 p, .int .i64 q]] w fun e w' => e = .returned (.bool (lineB c d a b p q)) ∧ Below w.heap.size w w' := by
  cases h0 : nearB c d
  · rw [show lineB c d a b p q = false by simp [lineB, h0]]
    exact v37_near c d a b p q 0 0 w (hidden fun w => by have := near37_is c d w; rw [h0] at this; exact this)
  have V0 := hidden fun w => (by have := near37_is c d w; rw [h0] at this; exact this : Calls Try.prog 21 #[.agg #[.int .i64 (c), .int .i64 (d)]] w fun e w' => e = .returned (.bool true) ∧ Below w.heap.size w w')
  cases h1 : arcB a b
  · rw [show lineB c d a b p q = false by simp [lineB, h0, h1]]
    exact v37_arc c d a b p q 0 0 w V0 (hidden fun w => by have := valid5_any a b w; rw [h1] at this; exact this)
  have V1 := hidden fun w => (by have := valid5_any a b w; rw [h1] at this; exact this : Calls Try.prog 8 #[.agg #[.int .i64 (a), .int .i64 (b)]] w fun e w' => e = .returned (.bool true) ∧ Below w.heap.size w w')
  obtain ⟨b0, b1, b2⟩ := arcB_t h1
  have V2 := hidden fun w => turn5_any a b w (by omega) b0 (by omega)
  by_cases h2 : arcLo a b = a
  case neg =>
    rw [show lineB c d a b p q = false by
      rw [Bool.eq_false_iff]; intro h; apply h2
      simp only [lineB, Bool.and_eq_true, decide_eq_true_eq] at h
      unfold arcLo; rw [if_neg (by omega)]; omega]
    exact v37_turn1 c d a b p q (arcLo a b) (arcHi a b) w (by simpa using h2) h2 V0 V1 V2
  rw [h2] at V2
  by_cases h3 : arcHi a b = b
  case neg =>
    rw [show lineB c d a b p q = false by
      rw [Bool.eq_false_iff]; intro h; apply h3
      simp only [lineB, Bool.and_eq_true, decide_eq_true_eq] at h
      unfold arcHi; rw [if_neg (by omega)]; omega]
    exact v37_turn2 c d a b p q a (arcHi a b) w (by simpa using h3) h3 V0 V1 V2
  rw [h3] at V2
  by_cases h4 : b - a < 10800000
  case neg =>
    rw [show lineB c d a b p q = false by simp [lineB, h4]]
    exact v37_half c d a b p q 0 0 w b1 b2 b0 (by simpa using h4) V0 V1 V2
  have e1 : 0 ≤ a := by rw [← h2]; exact (arcLo_bd b0).1
  have e2 : a < 21600000 := by rw [← h2]; unfold arcLo; split <;> omega
  cases h5 : fromB p q
  · rw [show lineB c d a b p q = false by
      rw [Bool.eq_false_iff]; intro h
      simp only [lineB, Bool.and_eq_true, decide_eq_true_eq] at h
      have h6 := arcB_t h.2.2.2.2.2.1
      rw [from_is p q h6.1] at h5
      simp [withB] at h5
      omega]
    exact v37_from c d a b p q 0 0 w b1 b2 b0 (by simpa using h4) V0 V1 V2 (hidden fun w => by have := from_any p q w; rw [h5] at this; exact this)
  · rw [show lineB c d a b p q = true by
      have h6 : p ≤ q ∧ -600000 ≤ p ∧ q ≤ 600000 := by simpa [fromB] using h5
      have h7 : arcB p q = true := arcB_mk (by omega)
      simp only [lineB, Bool.and_eq_true, decide_eq_true_eq]
      exact ⟨h0, h1, e1, e2, h4, h7, h6.2.1, h6.2.2⟩]
    exact v37_ok c d a b p q 0 0 w b1 b2 b0 (by simpa using h4) V0 V1 V2 (hidden fun w => by have := from_any p q w; rw [h5] at this; exact this)

end Go.Proofs.Ytjceofmhodcefaa
