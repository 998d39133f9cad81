/- Greenwich, Interval and Local of package sidereal, each as a contract. -/
import Derived.Test.YtdhbeoahpfimbaaGreatSid
import Derived.Test.YtdhbeoahpfimbaaGreatAg
namespace Go.Proofs.YtdhbeoahpfimbaaGreat
open Go.RowKit
set_option maxHeartbeats 400000 in
theorem cinst_any (n : Int) (w : World) :
    Calls Tryz.prog 139 #[.int .i64 n] w fun e w' => e = .returned (.bool (instB n)) ∧ w = w' := by
  by_cases h1 : -70368744177664 ≤ n
  · by_cases h2 : n ≤ 70368744177664
    · have H := hidden (instB_mk ⟨h1, h2⟩)
      go_enter Tryz.func139, Tryz.ntmps139
      go_wp2
      go_ret
      exact ⟨by rw [H.out]; rfl, rfl⟩
    · have H := hidden (instB_not (n := n) (by omega))
      go_enter Tryz.func139, Tryz.ntmps139
      go_wp2
      go_ret
      exact ⟨by rw [H.out]; rfl, rfl⟩
  · have H := hidden (instB_not (n := n) (by omega))
    go_enter Tryz.func139, Tryz.ntmps139
    go_wp2
    go_ret
    exact ⟨by rw [H.out]; rfl, rfl⟩
set_option maxHeartbeats 400000 in
theorem tvalid_any (a b : Int) (w : World) :
    Calls Tryz.prog 53 #[.agg #[.int .i64 a, .int .i64 b]] w fun e w' => e = .returned (.bool (timeB a b)) ∧ Below w.heap.size w w' := by
  by_cases h1 : a ≤ b
  · cases h2 : instB a
    · have H := hidden (show timeB a b = false by simp [timeB, h2])
      go_enter Tryz.func53, Tryz.ntmps53
      go_wp2_with (go_at_call 139; refine (cinst_any _ _).mono ?_; rintro e w' ⟨rfl, rfl⟩)
      go_ret
      exact ⟨by rw [H.out]; rfl, by (repeat (first | exact Below.refl _ _ | refine bl_drewN ?_ | refine bl_drew ?_ | refine bl_alloc ?_ _ | refine Below.setCell ?_ (by (first | (simp; done) | (simp; omega) | omega)) _ | refine bl_step (by assumption) ?_))⟩
    · cases h3 : instB b
      · have H := hidden (show timeB a b = false by simp [timeB, h3])
        go_enter Tryz.func53, Tryz.ntmps53
        go_wp2_with (go_at_call 139; refine (cinst_any _ _).mono ?_; rintro e w' ⟨rfl, rfl⟩)
        go_ret
        exact ⟨by rw [H.out]; rfl, by (repeat (first | exact Below.refl _ _ | refine bl_drewN ?_ | refine bl_drew ?_ | refine bl_alloc ?_ _ | refine Below.setCell ?_ (by (first | (simp; done) | (simp; omega) | omega)) _ | refine bl_step (by assumption) ?_))⟩
      · have H := hidden (show timeB a b = true by simp [timeB, h1, h2, h3])
        go_enter Tryz.func53, Tryz.ntmps53
        go_wp2_with (go_at_call 139; refine (cinst_any _ _).mono ?_; rintro e w' ⟨rfl, rfl⟩)
        go_ret
        exact ⟨by rw [H.out]; rfl, by (repeat (first | exact Below.refl _ _ | refine bl_drewN ?_ | refine bl_drew ?_ | refine bl_alloc ?_ _ | refine Below.setCell ?_ (by (first | (simp; done) | (simp; omega) | omega)) _ | refine bl_step (by assumption) ?_))⟩
  · have H := hidden (show timeB a b = false by simp [timeB, h1])
    go_enter Tryz.func53, Tryz.ntmps53
    go_wp2_with (go_at_call 139; refine (cinst_any _ _).mono ?_; rintro e w' ⟨rfl, rfl⟩)
    go_ret
    exact ⟨by rw [H.out]; rfl, by (repeat (first | exact Below.refl _ _ | refine bl_drewN ?_ | refine bl_drew ?_ | refine bl_alloc ?_ _ | refine Below.setCell ?_ (by (first | (simp; done) | (simp; omega) | omega)) _ | refine bl_step (by assumption) ?_))⟩
set_option maxHeartbeats 400000 in
theorem interval_ok (a b : Int) (w : World) (h : timeB a b = true) :
    Calls Tryz.prog 187 #[.agg #[.int .i64 a, .int .i64 b]] w fun e w' => e = .returned (.tuple #[.agg #[.int .i64 (arcLo (lowA a) (upA b)), .int .i64 (arcHi (lowA a) (upA b))], .int .i64 0]) ∧ Below w.heap.size w w' := by
  have q := timeB_t h
  have q1 := q.1; have q2 := q.2.1; have q3 := q.2.2
  clear q
  go_enter Tryz.func187, Tryz.ntmps187
  go_wp2_with (((first | (go_at_call 53; refine (tvalid_any _ _ _).mono ?_; rintro e w' ⟨rfl, hb⟩) | (go_at_call 104; refine (between_any _ _ _ (by omega) (by omega) (by omega) (by omega)).mono ?_; rintro e w' ⟨rfl, hb⟩)); (try replace hb := below_undrew hb); (try replace hb := below_undrewN hb); obtain ⟨hcell, hfroz⟩ := bcell hb; have hz := hb.size; (try simp at hz); (try (have z6 := Nat.lt_of_lt_of_le z7 hz)); (try (have z7 := Nat.lt_of_lt_of_le z8 hz)); (try (have z8 := Nat.lt_of_lt_of_le z9 hz)); (try (have z9 := Nat.lt_of_lt_of_le (Nat.lt_succ_self _) hz)); (try have z0 : w.heap.size < w'.heap.size := by omega); (try have z1 : w.heap.size + 1 < w'.heap.size := by omega); (try have z2 : w.heap.size + 1 + 1 < w'.heap.size := by omega); (try have z3 : w.heap.size + 1 + 1 + 1 < w'.heap.size := by omega)))
  exact bodyPost_ret (v := .tuple #[.agg #[.int .i64 (arcLo (lowA a) (upA b)), .int .i64 (arcHi (lowA a) (upA b))], .int .i64 0]) (by first | (simp only [results, Tryz.results187]; go_simp; done) | simp [results, Tryz.results187, go_sem, *]) rfl ⟨rfl, by (repeat (first | exact Below.refl _ _ | refine bl_drewN ?_ | refine bl_drew ?_ | refine bl_alloc ?_ _ | refine Below.setCell ?_ (by (first | (simp; done) | (simp; omega) | omega)) _ | refine bl_step (by assumption) ?_))⟩
theorem length_is (w : World) :
    Calls Tryz.prog 35 #[] w fun e w' => e = .returned (.agg #[.int .i64 86164090, .int .i64 86164091]) ∧ Below w.heap.size w w' := by
  go_enter Tryz.func35, Tryz.ntmps35
  go_wp2_with (first | (go_at_call 109; refine (mul64_any _ _ _ (by omega) (by omega) (by omega) (by omega)).mono ?_; rintro e w' ⟨rfl, rfl⟩) | (go_at_call 110; refine (div64_any _ _ _ _ (by omega) (by omega) (by omega) (by omega) (by omega)).mono ?_; rintro e w' ⟨rfl, nd, rfl⟩))
  exact bodyPost_ret (v := .agg #[.int .i64 86164090, .int .i64 86164091]) (by first | (simp only [results, Tryz.results35]; go_simp; done) | simp [results, Tryz.results35, go_sem, *]) rfl ⟨rfl, by (repeat (first | exact Below.refl _ _ | refine bl_drewN ?_ | refine bl_drew ?_ | refine bl_alloc ?_ _ | refine Below.setCell ?_ (by (first | (simp; done) | (simp; omega) | omega)) _ | refine bl_step (by assumption) ?_))⟩
end Go.Proofs.YtdhbeoahpfimbaaGreat
