/- What the functions of package angle compute, each as a contract; the world is below as it was. -/
import Derived.Test.YtjceofmhodcefaaBase
namespace Go.Proofs.Ytjceofmhodcefaa
open Go.RowKit

def fitsB (n : Int) : Bool := decide (-1099511627776 ≤ n) && decide (n ≤ 1099511627776)
def arcB (a b : Int) : Bool := decide (a ≤ b) && fitsB a && fitsB b

theorem fitsB_mk {n : Int} (h : -1099511627776 ≤ n ∧ n ≤ 1099511627776) : fitsB n = true := by simpa [fitsB] using h
theorem fitsB_not {n : Int} (h : n < -1099511627776 ∨ 1099511627776 < n) : fitsB n = false := by simp [fitsB]; omega
theorem arcB_t {a b : Int} (h : arcB a b = true) : a ≤ b ∧ -1099511627776 ≤ a ∧ b ≤ 1099511627776 := by simp [arcB, fitsB] at h; omega
theorem arcB_mk {a b : Int} (h : a ≤ b ∧ -1099511627776 ≤ a ∧ b ≤ 1099511627776) : arcB a b = true := by simp [arcB, fitsB]; omega
set_option maxHeartbeats 400000 in
theorem fits_any (n : Int) (w : World) :
    Calls Try.prog 48 #[.int .i64 n] w fun e w' => e = .returned (.bool (fitsB n)) ∧ w = w' := by
  by_cases h1 : -1099511627776 ≤ n
  · by_cases h2 : n ≤ 1099511627776
    · have H := hidden (fitsB_mk ⟨h1, h2⟩)
      go_enter Try.func48, Try.ntmps48
      go_wp2
      go_ret
      exact ⟨by rw [H.out]; rfl, rfl⟩
    · have H := hidden (fitsB_not (n := n) (by omega))
      go_enter Try.func48, Try.ntmps48
      go_wp2
      go_ret
      exact ⟨by rw [H.out]; rfl, rfl⟩
  · have H := hidden (fitsB_not (n := n) (by omega))
    go_enter Try.func48, Try.ntmps48
    go_wp2
    go_ret
    exact ⟨by rw [H.out]; rfl, rfl⟩

set_option maxHeartbeats 400000 in
theorem valid_any (a b : Int) (w : World) :
    Calls Try.prog 24 #[.agg #[.int .i64 a, .int .i64 b]] w fun e w' => e = .returned (.bool (arcB a b)) ∧ Below w.heap.size w w' := by
  by_cases h1 : a ≤ b
  · cases h2 : fitsB a
    · have H := hidden (show arcB a b = false by simp [arcB, h2])
      go_enter Try.func24, Try.ntmps24
      go_wp2_with (go_at_call 48; refine (fits_any _ _).mono ?_; rintro e w' ⟨rfl, rfl⟩)
      go_ret
      exact ⟨by rw [H.out]; rfl, (Below.refl _ _).alloc (Nat.le_refl _) _⟩
    · cases h3 : fitsB b
      · have H := hidden (show arcB a b = false by simp [arcB, h3])
        go_enter Try.func24, Try.ntmps24
        go_wp2_with (go_at_call 48; refine (fits_any _ _).mono ?_; rintro e w' ⟨rfl, rfl⟩)
        go_ret
        exact ⟨by rw [H.out]; rfl, (Below.refl _ _).alloc (Nat.le_refl _) _⟩
      · have H := hidden (show arcB a b = true by simp [arcB, h1, h2, h3])
        go_enter Try.func24, Try.ntmps24
        go_wp2_with (go_at_call 48; refine (fits_any _ _).mono ?_; rintro e w' ⟨rfl, rfl⟩)
        go_ret
        exact ⟨by rw [H.out]; rfl, (Below.refl _ _).alloc (Nat.le_refl _) _⟩
  · have H := hidden (show arcB a b = false by simp [arcB, h1])
    go_enter Try.func24, Try.ntmps24
    go_wp2_with (go_at_call 48; refine (fits_any _ _).mono ?_; rintro e w' ⟨rfl, rfl⟩)
    go_ret
    exact ⟨by rw [H.out]; rfl, (Below.refl _ _).alloc (Nat.le_refl _) _⟩

end Go.Proofs.Ytjceofmhodcefaa
