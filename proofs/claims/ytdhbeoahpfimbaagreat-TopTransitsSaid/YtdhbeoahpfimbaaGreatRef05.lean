/- What the functions of the reference of layer 5 compute, each as a contract. -/
import Derived.Test.YtdhbeoahpfimbaaGreatAg
namespace Go.Proofs.YtdhbeoahpfimbaaGreat
open Go.RowKit
set_option maxHeartbeats 400000 in
theorem wrap5_any (n : Int) (w : World) (_h0 : -9223372036854775808 ≤ n) (_h1 : n ≤ 9223372036854775807) :
    Calls Tryz.prog 185 #[.int .i64 n] w fun e w' => e = .returned (.int .i64 (n % 21600000)) ∧ w = w' := by
  have e : n.tmod 21600000 = if 0 ≤ n ∨ n % 21600000 = 0 then n % 21600000 else n % 21600000 - 21600000 := by
    have := Int.tmod_eq_emod (a := n) (b := 21600000)
    simp only [Int.natAbs] at this
    rw [this]; split <;> split <;> omega
  by_cases hc : 0 ≤ n ∨ n % 21600000 = 0
  · rw [if_pos hc] at e
    have m0 : 0 ≤ n % 21600000 := by omega
    have m1 : n % 21600000 < 21600000 := by omega
    clear hc
    go_enter Tryz.func185, Tryz.ntmps185
    go_wp2
    go_ret
    exact ⟨rfl, rfl⟩
  · rw [if_neg hc] at e
    have m0 : 0 < n % 21600000 := by omega
    have m1 : n % 21600000 < 21600000 := by omega
    have H : Hid (n % 21600000 - 21600000 + 21600000 = n % 21600000) := by unfold Hid; omega
    have hn : n < 0 := by omega
    clear hc
    go_enter Tryz.func185, Tryz.ntmps185
    go_wp2
    go_ret
    exact ⟨by simp, rfl⟩
set_option maxHeartbeats 400000 in
theorem valid5_any (a b : Int) (w : World) :
    Calls Tryz.prog 13 #[.agg #[.int .i64 a, .int .i64 b]] w fun e w' => e = .returned (.bool (arcB a b)) ∧ Below w.heap.size w w' := by
  by_cases h1 : a ≤ b
  · by_cases h2 : -1099511627776 ≤ a
    · by_cases h3 : b ≤ 1099511627776
      · have H := hidden (arcB_mk (a := a) (b := b) ⟨h1, h2, h3⟩)
        go_enter Tryz.func13, Tryz.ntmps13
        go_wp2
        go_ret
        exact ⟨by rw [H.out]; rfl, by (repeat (first | exact Below.refl _ _ | refine bl_drewN ?_ | refine bl_drew ?_ | refine bl_alloc ?_ _ | refine Below.setCell ?_ (by (first | (simp; done) | (simp; omega) | omega)) _ | refine bl_step (by assumption) ?_))⟩
      · have H := hidden (arcB_not (a := a) (b := b) (by omega))
        go_enter Tryz.func13, Tryz.ntmps13
        go_wp2
        go_ret
        exact ⟨by rw [H.out]; rfl, by (repeat (first | exact Below.refl _ _ | refine bl_drewN ?_ | refine bl_drew ?_ | refine bl_alloc ?_ _ | refine Below.setCell ?_ (by (first | (simp; done) | (simp; omega) | omega)) _ | refine bl_step (by assumption) ?_))⟩
    · have H := hidden (arcB_not (a := a) (b := b) (by omega))
      go_enter Tryz.func13, Tryz.ntmps13
      go_wp2
      go_ret
      exact ⟨by rw [H.out]; rfl, by (repeat (first | exact Below.refl _ _ | refine bl_drewN ?_ | refine bl_drew ?_ | refine bl_alloc ?_ _ | refine Below.setCell ?_ (by (first | (simp; done) | (simp; omega) | omega)) _ | refine bl_step (by assumption) ?_))⟩
  · have H := hidden (arcB_not (a := a) (b := b) (by omega))
    go_enter Tryz.func13, Tryz.ntmps13
    go_wp2
    go_ret
    exact ⟨by rw [H.out]; rfl, by (repeat (first | exact Below.refl _ _ | refine bl_drewN ?_ | refine bl_drew ?_ | refine bl_alloc ?_ _ | refine Below.setCell ?_ (by (first | (simp; done) | (simp; omega) | omega)) _ | refine bl_step (by assumption) ?_))⟩
set_option maxHeartbeats 400000 in
theorem turn5_any (a b : Int) (w : World) (h1 : -1125899906842624 ≤ a) (h2 : a ≤ b) (h3 : b ≤ 1125899906842624) :
    Calls Tryz.prog 106 #[.agg #[.int .i64 a, .int .i64 b]] w fun e w' => e = .returned (.agg #[.int .i64 (arcLo a b), .int .i64 (arcHi a b)]) ∧ Below w.heap.size w w' := by
  by_cases hc : 21600000 ≤ b - a
  · have H : Hid (arcLo a b = 0 ∧ arcHi a b = 21600000) := by simp [arcLo, arcHi, hc, Hid]
    go_enter Tryz.func106, Tryz.ntmps106
    go_wp2
    exact bodyPost_ret (v := .agg #[.int .i64 0, .int .i64 21600000]) (by first | (simp only [results, Tryz.results106]; go_simp; done) | simp [results, Tryz.results106, go_sem, *]) rfl ⟨by rw [H.out.1, H.out.2], by (repeat (first | exact Below.refl _ _ | refine bl_drewN ?_ | refine bl_drew ?_ | refine bl_alloc ?_ _ | refine Below.setCell ?_ (by (first | (simp; done) | (simp; omega) | omega)) _ | refine bl_step (by assumption) ?_))⟩
  · have H : Hid (arcLo a b = a % 21600000 ∧ arcHi a b = a % 21600000 + (b - a)) := by simp [arcLo, arcHi, hc, Hid]
    have m0 : 0 ≤ a % 21600000 := by omega
    have m1 : a % 21600000 < 21600000 := by omega
    go_enter Tryz.func106, Tryz.ntmps106
    go_wp2_with (go_at_call 185; refine (wrap5_any _ _ (by omega) (by omega)).mono ?_; rintro e w' ⟨rfl, rfl⟩)
    exact bodyPost_ret (v := .agg #[.int .i64 (a % 21600000), .int .i64 (a % 21600000 + (b - a))]) (by first | (simp only [results, Tryz.results106]; go_simp; done) | simp [results, Tryz.results106, go_sem, *]) rfl ⟨by rw [H.out.1, H.out.2], by (repeat (first | exact Below.refl _ _ | refine bl_drewN ?_ | refine bl_drew ?_ | refine bl_alloc ?_ _ | refine Below.setCell ?_ (by (first | (simp; done) | (simp; omega) | omega)) _ | refine bl_step (by assumption) ?_))⟩
end Go.Proofs.YtdhbeoahpfimbaaGreat
