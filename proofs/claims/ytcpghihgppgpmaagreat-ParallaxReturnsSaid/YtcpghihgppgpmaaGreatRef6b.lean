/- The quick sine of any angle, and what is exact, of layer 6's reference, as contracts. -/
import Derived.Test.YtcpghihgppgpmaaGreatQuick
namespace Go.Proofs.YtcpghihgppgpmaaGreat
open Go.RowKit Rot

theorem sQ_bd (sq t d : Int) (s0 : 0 ≤ sq) (s1 : sq ≤ 2845000000000000000) (d1 : 1 ≤ d) (t0 : 0 ≤ t) (t1 : t ≤ 4611686018427387904) : -6917529027641081856 ≤ sQ sq t d 12 ∧ sQ sq t d 12 ≤ 6917529027641081856 := by
  have := tQ_bd sq t d 12 s0 s1 d1 t0 t1
  omega
theorem quickV_bd (r : Int) (c : Bool) (r0 : 0 ≤ r) (r1 : r ≤ 2700000) : -6917529027641081856 ≤ quickV r c ∧ quickV r c ≤ 6917529027641081856 := by
  have x := xQ_bd r r0 r1
  have s := sq_bd r r0 r1
  unfold quickV
  cases c
  · exact sQ_bd _ _ _ s.1 s.2 (by simp) x.1 (by simp; omega)
  · exact sQ_bd _ _ _ s.1 s.2 (by simp) (by simp) (by simp)
theorem quickA_bd (n : Int) : -6917529027641081856 ≤ quickA n ∧ quickA n ≤ 6917529027641081856 := by
  unfold quickA
  split
  · exact quickV_bd _ _ (by omega) (by omega)
  · exact quickV_bd _ _ (by omega) (by omega)

/-- the remainder as Go has it, and the angle's place in a turn -/
theorem tmod_turn (n : Int) : ∃ t, n.tmod 21600000 = t ∧ ((t < 0 ∧ t + 21600000 = n % 21600000) ∨ (0 ≤ t ∧ t = n % 21600000)) ∧ -21600000 < t ∧ t < 21600000 := by
  refine ⟨_, rfl, ?_⟩
  have hd := Int.mul_tdiv_add_tmod n 21600000
  have e := Int.natAbs_tmod n 21600000
  have e2 : Int.natAbs 21600000 = 21600000 := rfl
  rw [e2] at e
  generalize n.tdiv 21600000 = q at *
  by_cases hn : 0 ≤ n
  · have h : n.tmod 21600000 = n % 21600000 := Int.tmod_eq_emod_of_nonneg hn
    rw [h] at *
    omega
  · have h : n.tmod 21600000 = -((-n).tmod 21600000) := by rw [Int.neg_tmod, Int.neg_neg]
    rw [Int.tmod_eq_emod_of_nonneg (show 0 ≤ -n by omega)] at h
    generalize n.tmod 21600000 = t at *
    omega

set_option maxHeartbeats 4000000 in
theorem bigquick_walk (n t m q r r2 v : Int) (c : Bool) (w : World) (ht : n.tmod 21600000 = t) (t0 : -21600000 < t) (t1 : t < 21600000) (hm : (t < 0 ∧ t + 21600000 = m) ∨ (0 ≤ t ∧ t = m)) (m0 : 0 ≤ m) (m1 : m < 21600000)
    (hq : m / 5400000 = q) (hr : m % 5400000 = r) (h2 : r2 = if 2700000 < r then 5400000 - r else r) (hc : c = if 2700000 < r then !decide (q % 2 = 1) else decide (q % 2 = 1))
    (Q : Hid (∀ w, Calls Tryz.prog 107 #[.int .i64 r2, .bool c] w fun e w' => e = .returned (.int .i64 v) ∧ w = w')) (v0 : -6917529027641081856 ≤ v) (v1 : v ≤ 6917529027641081856) :
    Calls Tryz.prog 89 #[.int .i64 n] w fun e w' => e = .returned (.int .i64 (if 10800000 ≤ m then -v else v)) ∧ Below w.heap.size w w' := by
  have q4 : (q = 0 ∧ ¬ 10800000 ≤ m) ∨ (q = 1 ∧ ¬ 10800000 ≤ m) ∨ (q = 2 ∧ 10800000 ≤ m) ∨ (q = 3 ∧ 10800000 ≤ m) := by omega
  have r0 : 0 ≤ r := by omega
  have r1 : r < 5400000 := by omega
  rcases hm with ⟨tn, hm⟩ | ⟨tp, rfl⟩
  all_goals
    rcases q4 with ⟨rfl, hn⟩ | ⟨rfl, hn⟩ | ⟨rfl, hn⟩ | ⟨rfl, hn⟩
    all_goals
      (first | rw [if_neg hn] | rw [if_pos hn])
      clear hn
      by_cases h3 : 2700000 < r
      all_goals
        (first | rw [if_pos h3] at h2 hc | rw [if_neg h3] at h2 hc)
        simp at hc
        subst hc h2
        go_enter Tryz.func89, Tryz.ntmps89
        go_wp2_with (go_at_call 107; ((with_reducible refine (Q.out _).mono ?_); rintro e w' ⟨rfl, rfl⟩))
        go_ret
        exact ⟨rfl, by (repeat (first | exact Below.refl _ _ | refine bl_drewN ?_ | refine bl_drew ?_ | refine bl_alloc ?_ _ | refine Below.setCell ?_ (by (first | (simp; done) | (simp; omega) | omega)) _ | refine bl_step (by assumption) ?_))⟩

theorem bigquick_any (n : Int) (w : World) : Calls Tryz.prog 89 #[.int .i64 n] w fun e w' => e = .returned (.int .i64 (if 10800000 ≤ n % 21600000 then -quickA n else quickA n)) ∧ Below w.heap.size w w' := by
  obtain ⟨t, ht, hm, t0, t1⟩ := tmod_turn n
  have b := quickA_bd n
  have e : n % 21600000 % 5400000 = n % 5400000 := by omega
  refine bigquick_walk n t (n % 21600000) _ _ (if 2700000 < n % 21600000 % 5400000 then 5400000 - n % 21600000 % 5400000 else n % 21600000 % 5400000) (quickA n) _ w ht t0 t1 hm (by omega) (by omega) rfl rfl rfl rfl (hidden fun w => ?_) b.1 b.2
  rw [e]
  unfold quickA
  by_cases h : 2700000 < n % 5400000
  · rw [if_pos h, if_pos h, if_pos h]
    exact quick_any _ _ w (by omega) (by omega)
  · rw [if_neg h, if_neg h, if_neg h]
    exact quick_any _ _ w (by omega) (by omega)

end Go.Proofs.YtcpghihgppgpmaaGreat
