/- Plane sailing: the ratios of an arc, the leg of a difference of latitude and a departure, and the sums of two legs, as contracts. -/
import Derived.Test.YtdhbeoahpfimbaaGreatMd
import Derived.Test.YtdhbeoahpfimbaaGreatArcW
import Derived.Test.YtdhbeoahpfimbaaGreatRa
namespace Go.Proofs.YtdhbeoahpfimbaaGreat
open Go.RowKit
set_option maxHeartbeats 1000000 in
theorem ratio_walk (a b m x x2 y2 y : Int) (w : World)
    (M1 : Hid (∀ w, Calls Tryz.prog 128 #[.int .i64 a, .int .i64 m] w fun e w' => e = .returned (.tuple #[.agg #[.int .i64 x, .int .i64 x2], .int .i64 0]) ∧ Below w.heap.size w w'))
    (M2 : Hid (∀ w, Calls Tryz.prog 128 #[.int .i64 b, .int .i64 m] w fun e w' => e = .returned (.tuple #[.agg #[.int .i64 y2, .int .i64 y], .int .i64 0]) ∧ Below w.heap.size w w')) :
    Calls Tryz.prog 46 #[.agg #[.int .i64 a, .int .i64 b], .int .i64 m] w fun e w' => e = .returned (.agg #[.int .i64 x, .int .i64 y]) ∧ Below w.heap.size w w' := by
  go_enter Tryz.func46, Tryz.ntmps46
  go_wp2_with (((first | (go_at_call 128; ((with_reducible refine (M1.out _).mono ?_); rintro e w' ⟨rfl, hb⟩); have nm0 := trivial) | (go_at_call 128; ((with_reducible refine (M2.out _).mono ?_); rintro e w' ⟨rfl, hb⟩); have nm1 := trivial)); (try replace hb := below_undrew hb); (try replace hb := below_undrewN hb); obtain ⟨hcell, hfroz⟩ := bcell hb; have hz := hb.size; (try simp at hz); (try (have z6 := Nat.lt_of_lt_of_le z7 hz)); (try (have z7 := Nat.lt_of_lt_of_le z8 hz)); (try (have z8 := Nat.lt_of_lt_of_le z9 hz)); (try (have z9 := Nat.lt_of_lt_of_le (Nat.lt_succ_self _) hz)); (try (have z0 : w.heap.size < w'.heap.size := by omega)); (try (have z1 : w.heap.size + 1 < w'.heap.size := by omega)); (try (have z2 : w.heap.size + 1 + 1 < w'.heap.size := by omega)); (try (have z3 : w.heap.size + 1 + 1 + 1 < w'.heap.size := by omega)); (try (have y1 : w1.heap.size < w'.heap.size := by omega)); (try (have x1 : w1.heap.size + 1 < w'.heap.size := by omega)); (try (have z10 : w1.heap.size < w'.heap.size + 1 := by omega)); (first | (clear nm0; obtain ⟨w1, rfl⟩ : ∃ v, v = w' := ⟨_, rfl⟩) | (clear nm1; obtain ⟨w2, rfl⟩ : ∃ v, v = w' := ⟨_, rfl⟩))))
  exact bodyPost_ret (v := .agg #[.int .i64 x, .int .i64 y]) (by first | (simp only [results, Tryz.results46]; go_simp; done) | simp [results, Tryz.results46, go_sem, *]) rfl ⟨rfl, by (repeat (first | (with_reducible exact Below.refl _ _) | (with_reducible refine Below.setCell ?_ (by (first | (simp; done) | (simp; omega) | omega)) _) | (with_reducible refine bl_alloc ?_ _) | (with_reducible refine bl_drewN ?_) | (with_reducible refine bl_drew ?_) | (with_reducible refine bl_step (by assumption) ?_)))⟩
theorem leg_zero (a b c d : Int) (w : World) (h1 : arcB a b = true) (h2 : arcB c d = true) (hm : max b (max (-a) (max d (-c))) = 0) :
    Calls Tryz.prog 11 #[.agg #[.int .i64 a, .int .i64 b], .agg #[.int .i64 c, .int .i64 d]] w fun e w' => e = .returned (.tuple #[.agg #[.int .i64 0, .int .i64 21600000, .int .i64 0, .int .i64 0], .int .i64 0]) ∧ Below w.heap.size w w' := by
  have V1 := hidden fun w => (by have := valid_any a b w; rw [h1] at this; exact this : Calls Tryz.prog 45 #[.agg #[.int .i64 a, .int .i64 b]] w fun e w' => e = .returned (.bool true) ∧ Below w.heap.size w w')
  have V2 := hidden fun w => (by have := valid_any c d w; rw [h2] at this; exact this : Calls Tryz.prog 45 #[.agg #[.int .i64 c, .int .i64 d]] w fun e w' => e = .returned (.bool true) ∧ Below w.heap.size w w')
  have t1 := arcB_t h1
  have t2 := arcB_t h2
  have e1 : a = 0 := by omega
  have e2 : b = 0 := by omega
  have e3 : c = 0 := by omega
  have e4 : d = 0 := by omega
  subst e1 e2 e3 e4
  clear h1 h2 hm t1 t2
  go_enter Tryz.func11, Tryz.ntmps11
  go_wp2_with (((first | (go_at_call 45; ((with_reducible refine (V1.out _).mono ?_); rintro e w' ⟨rfl, hb⟩); have nm0 := trivial) | (go_at_call 45; ((with_reducible refine (V2.out _).mono ?_); rintro e w' ⟨rfl, hb⟩); have nm1 := trivial)); (try replace hb := below_undrew hb); (try replace hb := below_undrewN hb); obtain ⟨hcell, hfroz⟩ := bcell hb; have hz := hb.size; (try simp at hz); (try (have z6 := Nat.lt_of_lt_of_le z7 hz)); (try (have z7 := Nat.lt_of_lt_of_le z8 hz)); (try (have z8 := Nat.lt_of_lt_of_le z9 hz)); (try (have z9 := Nat.lt_of_lt_of_le (Nat.lt_succ_self _) hz)); (try (have z0 : w.heap.size < w'.heap.size := by omega)); (try (have z1 : w.heap.size + 1 < w'.heap.size := by omega)); (try (have z2 : w.heap.size + 1 + 1 < w'.heap.size := by omega)); (try (have z3 : w.heap.size + 1 + 1 + 1 < w'.heap.size := by omega)); (try (have y1 : w1.heap.size < w'.heap.size := by omega)); (try (have x1 : w1.heap.size + 1 < w'.heap.size := by omega)); (try (have z10 : w1.heap.size < w'.heap.size + 1 := by omega)); (first | (clear nm0; obtain ⟨w1, rfl⟩ : ∃ v, v = w' := ⟨_, rfl⟩) | (clear nm1; obtain ⟨w2, rfl⟩ : ∃ v, v = w' := ⟨_, rfl⟩))))
  exact bodyPost_ret (v := .tuple #[.agg #[.int .i64 0, .int .i64 21600000, .int .i64 0, .int .i64 0], .int .i64 0]) (by first | (simp only [results, Tryz.results11]; go_simp; done) | simp [results, Tryz.results11, go_sem, *]) rfl ⟨rfl, by (repeat (first | (with_reducible exact Below.refl _ _) | (with_reducible refine Below.setCell ?_ (by (first | (simp; done) | (simp; omega) | omega)) _) | (with_reducible refine bl_alloc ?_ _) | (with_reducible refine bl_drewN ?_) | (with_reducible refine bl_drew ?_) | (with_reducible refine bl_step (by assumption) ?_)))⟩
end Go.Proofs.YtdhbeoahpfimbaaGreat
