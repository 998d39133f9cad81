/- The limits of the reference of chapter 21, as contracts. -/
import Derived.Test.YtcpghihgppgpmaaGreatPar4
namespace Go.Proofs.YtcpghihgppgpmaaGreat
open Go.RowKit

theorem small21_any (a b : Int) (w : World) :
    Calls Tryz.prog 8 #[.agg #[.int .i64 (a), .int .i64 (b)]] w fun e w' => e = .returned (.bool (smallB a b)) ∧ Below w.heap.size w w' := by
  obtain ⟨v, hv⟩ : ∃ v, smallB a b = v := ⟨_, rfl⟩
  rw [hv]
  by_cases h1 : 0 ≤ a
  · by_cases h2 : a ≤ b
    · have H : Hid (decide (b ≤ 120000) = v) := by
        rw [← hv]
        unfold Hid
        by_cases h3 : b ≤ 120000
        · rw [smallB_mk ⟨h1, h2, h3⟩]; simp [h3]
        · have : smallB a b = false := by unfold smallB; simp [h3]
          rw [this]; simp [h3]
      clear hv
      go_enter Tryz.func8, Tryz.ntmps8
      go_wp2
      go_ret
      exact ⟨by rw [← H.out]; rfl, by (repeat (first | exact Below.refl _ _ | refine bl_drewN ?_ | refine bl_drew ?_ | refine bl_alloc ?_ _ | refine Below.setCell ?_ (by (first | (simp; done) | (simp; omega) | omega)) _ | refine bl_step (by assumption) ?_))⟩
    · have H : Hid (false = v) := by rw [← hv]; unfold Hid smallB arcB; simp [h2]
      clear hv
      go_enter Tryz.func8, Tryz.ntmps8
      go_wp2
      go_ret
      exact ⟨by rw [← H.out]; rfl, by (repeat (first | exact Below.refl _ _ | refine bl_drewN ?_ | refine bl_drew ?_ | refine bl_alloc ?_ _ | refine Below.setCell ?_ (by (first | (simp; done) | (simp; omega) | omega)) _ | refine bl_step (by assumption) ?_))⟩
  · have H : Hid (false = v) := by rw [← hv]; unfold Hid smallB; simp [h1]
    clear hv
    go_enter Tryz.func8, Tryz.ntmps8
    go_wp2
    go_ret
    exact ⟨by rw [← H.out]; rfl, by (repeat (first | exact Below.refl _ _ | refine bl_drewN ?_ | refine bl_drew ?_ | refine bl_alloc ?_ _ | refine Below.setCell ?_ (by (first | (simp; done) | (simp; omega) | omega)) _ | refine bl_step (by assumption) ?_))⟩
theorem alt21_any (a b : Int) (w : World) :
    Calls Tryz.prog 9 #[.agg #[.int .i64 (a), .int .i64 (b)]] w fun e w' => e = .returned (.bool (altB a b)) ∧ Below w.heap.size w w' := by
  obtain ⟨v, hv⟩ : ∃ v, altB a b = v := ⟨_, rfl⟩
  rw [hv]
  by_cases h2 : a ≤ b
  · by_cases h1 : -5400000 ≤ a
    · have H : Hid (decide (b ≤ 5400000) = v) := by
        rw [← hv]
        unfold Hid
        by_cases h3 : b ≤ 5400000
        · rw [altB_mk ⟨h1, h2, h3⟩]; simp [h3]
        · have : altB a b = false := by unfold altB; simp [h3]
          rw [this]; simp [h3]
      clear hv
      go_enter Tryz.func9, Tryz.ntmps9
      go_wp2
      go_ret
      exact ⟨by rw [← H.out]; rfl, by (repeat (first | exact Below.refl _ _ | refine bl_drewN ?_ | refine bl_drew ?_ | refine bl_alloc ?_ _ | refine Below.setCell ?_ (by (first | (simp; done) | (simp; omega) | omega)) _ | refine bl_step (by assumption) ?_))⟩
    · have H : Hid (false = v) := by rw [← hv]; unfold Hid altB; simp [h1]
      clear hv
      go_enter Tryz.func9, Tryz.ntmps9
      go_wp2
      go_ret
      exact ⟨by rw [← H.out]; rfl, by (repeat (first | exact Below.refl _ _ | refine bl_drewN ?_ | refine bl_drew ?_ | refine bl_alloc ?_ _ | refine Below.setCell ?_ (by (first | (simp; done) | (simp; omega) | omega)) _ | refine bl_step (by assumption) ?_))⟩
  · have H : Hid (false = v) := by rw [← hv]; unfold Hid altB arcB; simp [h2]
    clear hv
    go_enter Tryz.func9, Tryz.ntmps9
    go_wp2
    go_ret
    exact ⟨by rw [← H.out]; rfl, by (repeat (first | exact Below.refl _ _ | refine bl_drewN ?_ | refine bl_drew ?_ | refine bl_alloc ?_ _ | refine Below.setCell ?_ (by (first | (simp; done) | (simp; omega) | omega)) _ | refine bl_step (by assumption) ?_))⟩
end Go.Proofs.YtcpghihgppgpmaaGreat
