/- Move of package lines by its numbers: what it returns, or that it is too wide; and what the way back leads to. -/
import Derived.Test.YtjceofmhodcefaaLinA
import Derived.Test.YtjceofmhodcefaaLin2
import Derived.Lib.QuietBelow
import Derived.BigQuiet
import Derived.Test.YtjceofmhodcefaaLinB
import Derived.Test.YtjceofmhodcefaaLin3
import Derived.Test.YtjceofmhodcefaaTrig7
namespace Go.Proofs.Ytjceofmhodcefaa
open Go.RowKit

theorem cLo_one (a b n : Int) : cLo a b 1073741824 1073741824 n = min (a * n / 1073741824) (b * n / 1073741824) := by unfold cLo; omega
theorem cHi_one (a b n : Int) : cHi a b 1073741824 1073741824 n = max (-(-(a * n) / 1073741824)) (-(-(b * n) / 1073741824)) := by unfold cHi; omega
theorem tm_zero (g h : Int) : tmLo g h 0 0 = 0 ∧ tmHi g h 0 0 = 0 := by
  unfold tmLo tmHi
  rw [cLo_one, cLo_one, cHi_one, cHi_one]
  simp
theorem lineB_mk {c d a b p q : Int} (h : nearB c d = true ∧ a ≤ b ∧ 0 ≤ a ∧ a < 21600000 ∧ b - a < 10800000 ∧ p ≤ q ∧ -600000 ≤ p ∧ q ≤ 600000) : lineB c d a b p q = true := by
  obtain ⟨h0, h1, h2, h3, h4, h5, h6, h7⟩ := h
  simp only [lineB, Bool.and_eq_true, decide_eq_true_eq]
  exact ⟨h0, arcB_mk (by omega), h2, h3, h4, arcB_mk (by omega), h6, h7⟩
end Go.Proofs.Ytjceofmhodcefaa
