/- Arcs far from the limits, as a contract. -/
import Derived.Test.YtoagcbamlnhkhaaLaw6P
namespace Go.Proofs.Ytoagcbamlnhkhaa
open Go.RowKit

def rightB (a b : Int) : Bool := decide (a ≤ b) && (decide (-274877906944 ≤ a) && decide (b ≤ 274877906944))
theorem rightB_t {a b : Int} (h : rightB a b = true) : a ≤ b ∧ -274877906944 ≤ a ∧ b ≤ 274877906944 := by simp [rightB] at h; omega

set_option maxHeartbeats 400000 in
theorem right_any (a b : Int) (w : World) :
    Calls Try.prog 29 #[.agg #[.int .i64 (a), .int .i64 (b)]] w fun e w' => e = .returned (.bool (rightB a b)) ∧ Below w.heap.size w w' := by
  obtain ⟨v, hv⟩ : ∃ v, rightB a b = v := ⟨_, rfl⟩
  rw [hv]
  unfold rightB at hv
  by_cases h1 : a ≤ b
  · by_cases h2 : -274877906944 ≤ a
    · have H : Hid (decide (b ≤ 274877906944) = v) := by rw [← hv]; unfold Hid; simp [h1, h2]
      clear hv
      go_enter Try.func29, Try.ntmps29
      go_wp2
      go_ret
      exact ⟨by rw [← H.out]; rfl, by (repeat (first | exact Below.refl _ _ | refine bl_drewN ?_ | refine bl_drew ?_ | refine bl_alloc ?_ _ | refine Below.setCell ?_ (by (first | (simp; done) | (simp; omega) | omega)) _ | refine bl_step (by assumption) ?_))⟩
    · have H : Hid (false = v) := by rw [← hv]; unfold Hid; simp [h1, h2]
      clear hv
      go_enter Try.func29, Try.ntmps29
      go_wp2
      go_ret
      exact ⟨by rw [← H.out]; rfl, by (repeat (first | exact Below.refl _ _ | refine bl_drewN ?_ | refine bl_drew ?_ | refine bl_alloc ?_ _ | refine Below.setCell ?_ (by (first | (simp; done) | (simp; omega) | omega)) _ | refine bl_step (by assumption) ?_))⟩
  · have H : Hid (false = v) := by rw [← hv]; unfold Hid; simp [h1]
    clear hv
    go_enter Try.func29, Try.ntmps29
    go_wp2
    go_ret
    exact ⟨by rw [← H.out]; rfl, by (repeat (first | exact Below.refl _ _ | refine bl_drewN ?_ | refine bl_drew ?_ | refine bl_alloc ?_ _ | refine Below.setCell ?_ (by (first | (simp; done) | (simp; omega) | omega)) _ | refine bl_step (by assumption) ?_))⟩

end Go.Proofs.Ytoagcbamlnhkhaa
