/- The statement on transits: the inputs that it lets pass. -/
import Derived.Test.YtdhbeoahpfimbaaGreatLon
import Derived.Test.YtdhbeoahpfimbaaGreatAz
namespace Go.Proofs.YtdhbeoahpfimbaaGreat
open Go.RowKit
set_option maxRecDepth 100000 in
set_option maxHeartbeats 2000000 in
theorem tout_none (a : Option Addr) (c : Nat) (k l fr : Int) (w : World) (W : Hid (∀ w, Calls Tryz.prog 6 #[] w fun e w' => e = .returned (.bool true) ∧ Below w.heap.size w w')) :
    Calls Tryz.prog 5 #[.slice a 0 c, .int .u8 k, .int .i64 l, .int .i64 fr] w fun e w' => e = .returned (.bool true) ∧ Below w.heap.size w w' := by
  go_enter Tryz.func5, Tryz.ntmps5
  go_wp2_with (go_at_call 6; ((with_reducible refine (W.out _).mono ?_); rintro e w' ⟨rfl, hb⟩); (try replace hb := below_undrew hb); (try replace hb := below_undrewN hb); obtain ⟨hcell, hfroz⟩ := bcell hb; have hz := hb.size; (try simp at hz); (try (have z6 := Nat.lt_of_lt_of_le z7 hz)); (try (have z7 := Nat.lt_of_lt_of_le z8 hz)); (try (have z8 := Nat.lt_of_lt_of_le z9 hz)); (try (have z9 := Nat.lt_of_lt_of_le (Nat.lt_succ_self _) hz)); (try have z0 : w.heap.size < w'.heap.size := by omega); (try have z1 : w.heap.size + 1 < w'.heap.size := by omega); (try have z2 : w.heap.size + 1 + 1 < w'.heap.size := by omega); (try have z3 : w.heap.size + 1 + 1 + 1 < w'.heap.size := by omega); obtain ⟨w1, rfl⟩ : ∃ v, v = w' := ⟨_, rfl⟩)
  go_ret
  exact ⟨rfl, by (repeat (first | (with_reducible exact Below.refl _ _) | (with_reducible refine Below.setCell ?_ (by (first | (simp; done) | (simp; omega) | omega)) _) | (with_reducible refine bl_alloc ?_ _) | (with_reducible refine bl_drewN ?_) | (with_reducible refine bl_drew ?_) | (with_reducible refine bl_step (by assumption) ?_)))⟩
set_option maxRecDepth 100000 in
set_option maxHeartbeats 2000000 in
theorem tout_many (a : Option Addr) (n c : Nat) (k l fr : Int) (w : World) (W : Hid (∀ w, Calls Tryz.prog 6 #[] w fun e w' => e = .returned (.bool true) ∧ Below w.heap.size w w')) (hn : 10 < n) :
    Calls Tryz.prog 5 #[.slice a n c, .int .u8 k, .int .i64 l, .int .i64 fr] w fun e w' => e = .returned (.bool true) ∧ Below w.heap.size w w' := by
  have q0 : decide ((10 : Int) < n) = true := by simp; omega
  have q1 : ((n : Int) == 0) = false := by simp; omega
  go_enter Tryz.func5, Tryz.ntmps5
  go_wp2_with (go_at_call 6; ((with_reducible refine (W.out _).mono ?_); rintro e w' ⟨rfl, hb⟩); (try replace hb := below_undrew hb); (try replace hb := below_undrewN hb); obtain ⟨hcell, hfroz⟩ := bcell hb; have hz := hb.size; (try simp at hz); (try (have z6 := Nat.lt_of_lt_of_le z7 hz)); (try (have z7 := Nat.lt_of_lt_of_le z8 hz)); (try (have z8 := Nat.lt_of_lt_of_le z9 hz)); (try (have z9 := Nat.lt_of_lt_of_le (Nat.lt_succ_self _) hz)); (try have z0 : w.heap.size < w'.heap.size := by omega); (try have z1 : w.heap.size + 1 < w'.heap.size := by omega); (try have z2 : w.heap.size + 1 + 1 < w'.heap.size := by omega); (try have z3 : w.heap.size + 1 + 1 + 1 < w'.heap.size := by omega); obtain ⟨w1, rfl⟩ : ∃ v, v = w' := ⟨_, rfl⟩)
  go_ret
  exact ⟨rfl, by (repeat (first | (with_reducible exact Below.refl _ _) | (with_reducible refine Below.setCell ?_ (by (first | (simp; done) | (simp; omega) | omega)) _) | (with_reducible refine bl_alloc ?_ _) | (with_reducible refine bl_drewN ?_) | (with_reducible refine bl_drew ?_) | (with_reducible refine bl_step (by assumption) ?_)))⟩
set_option maxRecDepth 100000 in
set_option maxHeartbeats 2000000 in
theorem tout_bad (a : Option Addr) (n c : Nat) (k l fr : Int) (v : Bool) (w : World) (W : Hid (∀ w, Calls Tryz.prog 6 #[] w fun e w' => e = .returned (.bool true) ∧ Below w.heap.size w w')) (h0 : 0 < n) (hn : n ≤ 10)
    (V : Hid (∀ wq, Below w.heap.size w wq → Calls Tryz.prog 27 #[.slice a n c] wq fun e w' => e = .returned (.bool v) ∧ Below wq.heap.size wq w')) (hv : v = false ∨ l < -10800000 ∨ 10800000 ≤ l ∨ fr < -70368744177664 ∨ 70368528177664 < fr) :
    Calls Tryz.prog 5 #[.slice a n c, .int .u8 k, .int .i64 l, .int .i64 fr] w fun e w' => e = .returned (.bool true) ∧ Below w.heap.size w w' := by
  have q0 : decide ((10 : Int) < n) = false := by simp; omega
  have q1 : ((n : Int) == 0) = false := by simp; omega
  obtain ⟨e1, d1⟩ : ∃ e, decide (l < -10800000) = e := ⟨_, rfl⟩
  obtain ⟨e2, d2⟩ : ∃ e, decide (10800000 ≤ l) = e := ⟨_, rfl⟩
  obtain ⟨e3, d3⟩ : ∃ e, decide (fr < -70368744177664) = e := ⟨_, rfl⟩
  obtain ⟨e4, d4⟩ : ∃ e, decide (70368528177664 < fr) = e := ⟨_, rfl⟩
  have hv' : v = false ∨ (v = true ∧ e1 = true) ∨ (v = true ∧ e1 = false ∧ e2 = true) ∨ (v = true ∧ e1 = false ∧ e2 = false ∧ e3 = true) ∨ (v = true ∧ e1 = false ∧ e2 = false ∧ e3 = false ∧ e4 = true) := by
    rw [← d1, ← d2, ← d3, ← d4]
    cases v <;> simp at hv ⊢ <;> omega
  clear hv
  rcases hv' with rfl | ⟨rfl, rfl⟩ | ⟨rfl, rfl, rfl⟩ | ⟨rfl, rfl, rfl, rfl⟩ | ⟨rfl, rfl, rfl, rfl, rfl⟩
  all_goals (
    go_enter Tryz.func5, Tryz.ntmps5
    go_wp2_with (((first | (go_at_call 6; ((with_reducible refine (W.out _).mono ?_); rintro e w' ⟨rfl, hb⟩); have nm0 := trivial) | (go_at_call 27; ((with_reducible refine (V.out _ (by (repeat (first | (with_reducible exact Below.refl _ _) | (with_reducible refine Below.setCell ?_ (by (first | (simp; done) | (simp; omega) | omega)) _) | (with_reducible refine bl_alloc ?_ _) | (with_reducible refine bl_drewN ?_) | (with_reducible refine bl_drew ?_) | (with_reducible refine bl_step (by assumption) ?_))))).mono ?_); rintro e w' ⟨rfl, hb⟩); have nm1 := trivial)); (try replace hb := below_undrew hb); (try replace hb := below_undrewN hb); obtain ⟨hcell, hfroz⟩ := bcell hb; have hz := hb.size; (try simp at hz); (try (have z6 := Nat.lt_of_lt_of_le z7 hz)); (try (have z7 := Nat.lt_of_lt_of_le z8 hz)); (try (have z8 := Nat.lt_of_lt_of_le z9 hz)); (try (have z9 := Nat.lt_of_lt_of_le (Nat.lt_succ_self _) hz)); (try have z0 : w.heap.size < w'.heap.size := by omega); (try have z1 : w.heap.size + 1 < w'.heap.size := by omega); (try have z2 : w.heap.size + 1 + 1 < w'.heap.size := by omega); (try have z3 : w.heap.size + 1 + 1 + 1 < w'.heap.size := by omega); (try have y1 : w1.heap.size < w'.heap.size := by omega); (try have x1 : w1.heap.size + 1 < w'.heap.size := by omega); (try have z10 : w1.heap.size < w'.heap.size + 1 := by omega); (first | (clear nm0; obtain ⟨w1, rfl⟩ : ∃ v, v = w' := ⟨_, rfl⟩) | (clear nm1; obtain ⟨w2, rfl⟩ : ∃ v, v = w' := ⟨_, rfl⟩))))
    go_ret
    exact ⟨rfl, by (repeat (first | (with_reducible exact Below.refl _ _) | (with_reducible refine Below.setCell ?_ (by (first | (simp; done) | (simp; omega) | omega)) _) | (with_reducible refine bl_alloc ?_ _) | (with_reducible refine bl_drewN ?_) | (with_reducible refine bl_drew ?_) | (with_reducible refine bl_step (by assumption) ?_)))⟩)
end Go.Proofs.YtdhbeoahpfimbaaGreat
