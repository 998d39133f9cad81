/- What is exact in layer 6's reference, as a contract. -/
import Derived.Test.YtcpghihgppgpmaaGreatRef6b
namespace Go.Proofs.YtcpghihgppgpmaaGreat
open Go.RowKit Rot

set_option maxHeartbeats 4000000 in
theorem exact_out (n t m z : Int) (w : World) (ht : n.tmod 21600000 = t) (t0 : -21600000 < t) (t1 : t < 21600000) (hm : (t < 0 ∧ t + 21600000 = m) ∨ (0 ≤ t ∧ t = m)) (m0 : 0 ≤ m) (m1 : m < 21600000)
    (hz : m % 1800000 = z) (z0 : (z == 0) = false) :
    Calls Tryz.prog 88 #[.int .i64 n] w fun e w' => e = .returned (.tuple #[.int .i64 0, .bool false]) ∧ Below w.heap.size w w' := by
  rcases hm with ⟨tn, hm⟩ | ⟨tp, rfl⟩
  all_goals
    go_enter Tryz.func88, Tryz.ntmps88
    go_wp2
    go_ret2
    exact ⟨rfl, by (repeat (first | exact Below.refl _ _ | refine bl_drewN ?_ | refine bl_drew ?_ | refine bl_alloc ?_ _ | refine Below.setCell ?_ (by (first | (simp; done) | (simp; omega) | omega)) _ | refine bl_step (by assumption) ?_))⟩

set_option maxRecDepth 100000 in
set_option maxHeartbeats 8000000 in
theorem exact_in (n t m k v : Int) (b : Bool) (w : World) (ht : n.tmod 21600000 = t) (t0 : -21600000 < t) (t1 : t < 21600000) (hm : (t < 0 ∧ t + 21600000 = m) ∨ (0 ≤ t ∧ t = m)) (hk : m = k * 1800000)
    (hv : (k = 0 ∧ v = 0 ∧ b = true) ∨ (k = 1 ∧ v = 536870912 ∧ b = true) ∨ (k = 2 ∧ v = 0 ∧ b = false) ∨ (k = 3 ∧ v = 1073741824 ∧ b = true) ∨ (k = 4 ∧ v = 0 ∧ b = false) ∨ (k = 5 ∧ v = 536870912 ∧ b = true) ∨
      (k = 6 ∧ v = 0 ∧ b = true) ∨ (k = 7 ∧ v = -536870912 ∧ b = true) ∨ (k = 8 ∧ v = 0 ∧ b = false) ∨ (k = 9 ∧ v = -1073741824 ∧ b = true) ∨ (k = 10 ∧ v = 0 ∧ b = false) ∨ (k = 11 ∧ v = -536870912 ∧ b = true)) :
    Calls Tryz.prog 88 #[.int .i64 n] w fun e w' => e = .returned (.tuple #[.int .i64 v, .bool b]) ∧ Below w.heap.size w w' := by
  rcases hm with ⟨tn, hm⟩ | ⟨tp, rfl⟩
  all_goals
    rcases hv with ⟨rfl, rfl, rfl⟩ | ⟨rfl, rfl, rfl⟩ | ⟨rfl, rfl, rfl⟩ | ⟨rfl, rfl, rfl⟩ | ⟨rfl, rfl, rfl⟩ | ⟨rfl, rfl, rfl⟩ | ⟨rfl, rfl, rfl⟩ | ⟨rfl, rfl, rfl⟩ | ⟨rfl, rfl, rfl⟩ | ⟨rfl, rfl, rfl⟩ | ⟨rfl, rfl, rfl⟩ | ⟨rfl, rfl, rfl⟩
    all_goals
      simp at hk
      subst hk
      first
        | omega
        | (go_enter Tryz.func88, Tryz.ntmps88
           go_wp2
           go_ret2
           exact ⟨rfl, by (repeat (first | exact Below.refl _ _ | refine bl_drewN ?_ | refine bl_drew ?_ | refine bl_alloc ?_ _ | refine Below.setCell ?_ (by (first | (simp; done) | (simp; omega) | omega)) _ | refine bl_step (by assumption) ?_))⟩)

theorem exact_any (n : Int) (w : World) :
    Calls Tryz.prog 88 #[.int .i64 n] w fun e w' => e = .returned (.tuple #[.int .i64 (if exactB (redA n) then bLo n else 0), .bool (exactB (redA n))]) ∧ Below w.heap.size w w' := by
  obtain ⟨t, ht, hm, t0, t1⟩ := tmod_turn n
  by_cases hz : n % 21600000 % 1800000 = 0
  · obtain ⟨k, hk⟩ : ∃ k, n % 21600000 = k * 1800000 := ⟨n % 21600000 / 1800000, by omega⟩
    have k12 : k = 0 ∨ k = 1 ∨ k = 2 ∨ k = 3 ∨ k = 4 ∨ k = 5 ∨ k = 6 ∨ k = 7 ∨ k = 8 ∨ k = 9 ∨ k = 10 ∨ k = 11 := by omega
    refine exact_in n t _ k _ _ w ht t0 t1 hm hk ?_
    have hr : redA n = if 10800000 < k * 1800000 then (if 5400000 < k * 1800000 - 10800000 then 10800000 - (k * 1800000 - 10800000) else k * 1800000 - 10800000) else (if 5400000 < k * 1800000 then 10800000 - k * 1800000 else k * 1800000) := by unfold redA; rw [hk]
    have hb : bLo n = if 10800000 < k * 1800000 then -(upB (redA n)) else sinLo (redA n) := by unfold bLo; rw [hk]
    rw [hb, hr]
    rcases k12 with rfl | rfl | rfl | rfl | rfl | rfl | rfl | rfl | rfl | rfl | rfl | rfl <;> simp [exactB, upB, sinLo]
  · have e : exactB (redA n) = false := by
      have : ¬ redA n = 0 ∧ ¬ redA n = 1800000 ∧ ¬ redA n = 5400000 := by
        unfold redA
        repeat' split
        all_goals omega
      simp [exactB, this]
    rw [e]
    exact exact_out n t _ _ w ht t0 t1 hm (by omega) (by omega) rfl (by simpa using hz)

end Go.Proofs.YtcpghihgppgpmaaGreat
