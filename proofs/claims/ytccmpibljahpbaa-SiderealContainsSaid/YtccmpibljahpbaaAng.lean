/- What the functions of package angle compute, each as a contract; the world is below as it was. -/
import Derived.Test.YtccmpibljahpbaaRows
import Derived.WalkKit
import Derived.WalkSpells
import Derived.WalkLawsBesides
import Derived.Deep.QuietTactic
import Derived.BigQuiet
namespace Go.Proofs.Ytccmpibljahpbaa
open Go.RowKit

theorem hidden {p : Prop} (h : p) : Hid p := h

theorem bcell {W w1 : World} (hb : Below W.heap.size W w1) : (∀ b o, b < W.heap.size → w1.cell? ⟨b, o, none⟩ = W.cell? ⟨b, o, none⟩) ∧ (∀ b o, b < W.heap.size → w1.frozen? ⟨b, o, none⟩ = W.frozen? ⟨b, o, none⟩) :=
  ⟨fun b o h => hb.cell (p := ⟨b, o, none⟩) h, fun b o h => hb.frozen (p := ⟨b, o, none⟩) h⟩

theorem bl_drewN {B : Nat} {a w : World} {n : Nat} (h : Below B a w) : Below B a (w.drewN n) := ⟨h.os, h.tape, h.output, h.size, h.block⟩
theorem below_undrew {w w' : World} (h : Below w.drew.heap.size w.drew w') : Below w.heap.size w w' := ⟨h.os, h.tape, h.output, h.size, h.block⟩
theorem below_undrewN {w w' : World} {n : Nat} (h : Below (w.drewN n).heap.size (w.drewN n) w') : Below w.heap.size w w' := ⟨h.os, h.tape, h.output, h.size, h.block⟩
theorem bl_drew {B : Nat} {a w : World} (h : Below B a w) : Below B a w.drew := h.drew
theorem bl_alloc {w X : World} (h : Below w.heap.size w X) (o : Obj) : Below w.heap.size w (X.alloc o) := h.alloc h.size o
theorem bl_step {w X W : World} (hb : Below X.heap.size X W) (h : Below w.heap.size w X) : Below w.heap.size w W := h.trans (hb.mono h.size)

@[simp, go_sem] theorem ltadd0_1 (n : Nat) : n < n + 1 := by omega
@[simp, go_sem] theorem ltadd0_2 (n : Nat) : n < n + 1 + 1 := by omega
@[simp, go_sem] theorem ltadd0_3 (n : Nat) : n < n + 1 + 1 + 1 := by omega
@[simp, go_sem] theorem ltadd0_4 (n : Nat) : n < n + 1 + 1 + 1 + 1 := by omega
@[simp, go_sem] theorem ltadd0_5 (n : Nat) : n < n + 1 + 1 + 1 + 1 + 1 := by omega
@[simp, go_sem] theorem ltadd0_6 (n : Nat) : n < n + 1 + 1 + 1 + 1 + 1 + 1 := by omega
@[simp, go_sem] theorem ltadd1_2 (n : Nat) : n + 1 < n + 1 + 1 := by omega
@[simp, go_sem] theorem ltadd1_3 (n : Nat) : n + 1 < n + 1 + 1 + 1 := by omega
@[simp, go_sem] theorem ltadd1_4 (n : Nat) : n + 1 < n + 1 + 1 + 1 + 1 := by omega
@[simp, go_sem] theorem ltadd1_5 (n : Nat) : n + 1 < n + 1 + 1 + 1 + 1 + 1 := by omega
@[simp, go_sem] theorem ltadd1_6 (n : Nat) : n + 1 < n + 1 + 1 + 1 + 1 + 1 + 1 := by omega
@[simp, go_sem] theorem ltadd2_3 (n : Nat) : n + 1 + 1 < n + 1 + 1 + 1 := by omega
@[simp, go_sem] theorem ltadd2_4 (n : Nat) : n + 1 + 1 < n + 1 + 1 + 1 + 1 := by omega
@[simp, go_sem] theorem ltadd2_5 (n : Nat) : n + 1 + 1 < n + 1 + 1 + 1 + 1 + 1 := by omega
@[simp, go_sem] theorem ltadd2_6 (n : Nat) : n + 1 + 1 < n + 1 + 1 + 1 + 1 + 1 + 1 := by omega
@[simp, go_sem] theorem ltadd3_4 (n : Nat) : n + 1 + 1 + 1 < n + 1 + 1 + 1 + 1 := by omega
@[simp, go_sem] theorem ltadd3_5 (n : Nat) : n + 1 + 1 + 1 < n + 1 + 1 + 1 + 1 + 1 := by omega
@[simp, go_sem] theorem ltadd3_6 (n : Nat) : n + 1 + 1 + 1 < n + 1 + 1 + 1 + 1 + 1 + 1 := by omega
@[simp, go_sem] theorem ltadd4_5 (n : Nat) : n + 1 + 1 + 1 + 1 < n + 1 + 1 + 1 + 1 + 1 := by omega
@[simp, go_sem] theorem ltadd4_6 (n : Nat) : n + 1 + 1 + 1 + 1 < n + 1 + 1 + 1 + 1 + 1 + 1 := by omega
theorem held_start (w : World) : Below w.heap.size w w.drew ∧ (∀ b o, b < w.heap.size → w.drew.cell? ⟨b, o, none⟩ = w.cell? ⟨b, o, none⟩) ∧ (∀ b o, b < w.heap.size → w.drew.frozen? ⟨b, o, none⟩ = w.frozen? ⟨b, o, none⟩) :=
  have h := (Below.refl w.heap.size w).drew
  ⟨h, bcell h⟩
theorem held_of {w W : World} (h : Below w.heap.size w W) :
    Below w.heap.size w W ∧ (∀ b o, b < w.heap.size → W.cell? ⟨b, o, none⟩ = w.cell? ⟨b, o, none⟩) ∧ (∀ b o, b < w.heap.size → W.frozen? ⟨b, o, none⟩ = w.frozen? ⟨b, o, none⟩) := ⟨h, bcell h⟩

def fitsB (n : Int) : Bool := decide (-1099511627776 ≤ n) && decide (n ≤ 1099511627776)
def arcB (a b : Int) : Bool := decide (a ≤ b) && fitsB a && fitsB b

theorem fitsB_t {n : Int} (h : fitsB n = true) : -1099511627776 ≤ n ∧ n ≤ 1099511627776 := by simpa [fitsB] using h
theorem fitsB_f {n : Int} (h : fitsB n = false) : n < -1099511627776 ∨ 1099511627776 < n := by simp [fitsB] at h; omega
theorem fitsB_mk {n : Int} (h : -1099511627776 ≤ n ∧ n ≤ 1099511627776) : fitsB n = true := by simpa [fitsB] using h
theorem fitsB_not {n : Int} (h : n < -1099511627776 ∨ 1099511627776 < n) : fitsB n = false := by simp [fitsB]; omega
theorem arcB_t {a b : Int} (h : arcB a b = true) : a ≤ b ∧ -1099511627776 ≤ a ∧ b ≤ 1099511627776 := by simp [arcB, fitsB] at h; omega
theorem arcB_mk {a b : Int} (h : a ≤ b ∧ -1099511627776 ≤ a ∧ b ≤ 1099511627776) : arcB a b = true := by simp [arcB, fitsB]; omega
theorem arcB_not {a b : Int} (h : ¬ (a ≤ b ∧ -1099511627776 ≤ a ∧ b ≤ 1099511627776)) : arcB a b = false := by simp [arcB, fitsB]; omega

set_option maxHeartbeats 400000 in
theorem fits_any (n : Int) (w : World) :
    Calls Try.prog 46 #[.int .i64 n] w fun e w' => e = .returned (.bool (fitsB n)) ∧ w = w' := by
  by_cases h1 : -1099511627776 ≤ n
  · by_cases h2 : n ≤ 1099511627776
    · have H := hidden (fitsB_mk ⟨h1, h2⟩)
      go_enter Try.func46, Try.ntmps46
      go_wp2
      go_ret
      exact ⟨by rw [H.out]; rfl, rfl⟩
    · have H := hidden (fitsB_not (n := n) (by omega))
      go_enter Try.func46, Try.ntmps46
      go_wp2
      go_ret
      exact ⟨by rw [H.out]; rfl, rfl⟩
  · have H := hidden (fitsB_not (n := n) (by omega))
    go_enter Try.func46, Try.ntmps46
    go_wp2
    go_ret
    exact ⟨by rw [H.out]; rfl, rfl⟩

set_option maxHeartbeats 400000 in
theorem valid_any (a b : Int) (w : World) :
    Calls Try.prog 39 #[.agg #[.int .i64 a, .int .i64 b]] w fun e w' => e = .returned (.bool (arcB a b)) ∧ Below w.heap.size w w' := by
  by_cases h1 : a ≤ b
  · cases h2 : fitsB a
    · have H := hidden (show arcB a b = false by simp [arcB, h2])
      go_enter Try.func39, Try.ntmps39
      go_wp2_with (go_at_call 46; refine (fits_any _ _).mono ?_; rintro e w' ⟨rfl, rfl⟩)
      go_ret
      exact ⟨by rw [H.out]; rfl, (Below.refl _ _).alloc (Nat.le_refl _) _⟩
    · cases h3 : fitsB b
      · have H := hidden (show arcB a b = false by simp [arcB, h3])
        go_enter Try.func39, Try.ntmps39
        go_wp2_with (go_at_call 46; refine (fits_any _ _).mono ?_; rintro e w' ⟨rfl, rfl⟩)
        go_ret
        exact ⟨by rw [H.out]; rfl, (Below.refl _ _).alloc (Nat.le_refl _) _⟩
      · have H := hidden (show arcB a b = true by simp [arcB, h1, h2, h3])
        go_enter Try.func39, Try.ntmps39
        go_wp2_with (go_at_call 46; refine (fits_any _ _).mono ?_; rintro e w' ⟨rfl, rfl⟩)
        go_ret
        exact ⟨by rw [H.out]; rfl, (Below.refl _ _).alloc (Nat.le_refl _) _⟩
  · have H := hidden (show arcB a b = false by simp [arcB, h1])
    go_enter Try.func39, Try.ntmps39
    go_wp2_with (go_at_call 46; refine (fits_any _ _).mono ?_; rintro e w' ⟨rfl, rfl⟩)
    go_ret
    exact ⟨by rw [H.out]; rfl, (Below.refl _ _).alloc (Nat.le_refl _) _⟩

end Go.Proofs.Ytccmpibljahpbaa
