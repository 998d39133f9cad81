/- The statement that the best point of two lines at right angles is their crossing, as a walk. -/
import Derived.Test.YtjceofmhodcefaaLsG
import Derived.Test.YtjceofmhodcefaaLs1
import Derived.Test.YtjceofmhodcefaaRef05
namespace Go.Proofs.Ytjceofmhodcefaa
open Go.RowKit

theorem square_o0 (p q n l : Int) (w : World) (g0 : p < -600000) :
    Calls Try.prog 4 #[.int .i64 p, .int .i64 q, .int .u8 n, .int .i64 l] w fun e w' => e = .returned (.bool true) ∧ Below w.heap.size w w' := by
  go_enter Try.func4, Try.ntmps4
  go_wp2_with (go_at_call 6; ((with_reducible refine (awake37_is _).mono ?_); rintro e w' ⟨rfl, hb⟩); (try replace hb := below_undrew hb); (try replace hb := below_undrewN hb); obtain ⟨hcell, hfroz⟩ := bcell hb; have hz := hb.size; (try simp at hz); (try (have z6 := Nat.lt_of_lt_of_le z7 hz)); (try (have z7 := Nat.lt_of_lt_of_le z8 hz)); (try (have z8 := Nat.lt_of_lt_of_le z9 hz)); (try (have z9 := Nat.lt_of_lt_of_le (Nat.lt_succ_self _) hz)); (try (have z0 : w.heap.size < w'.heap.size := by omega)); (try (have z1 : w.heap.size + 1 < w'.heap.size := by omega)); (try (have z2 : w.heap.size + 1 + 1 < w'.heap.size := by omega)); (try (have z3 : w.heap.size + 1 + 1 + 1 < w'.heap.size := by omega)); (try (have y1 : w1.heap.size < w'.heap.size := by omega)); (try (have y2 : w2.heap.size < w'.heap.size := by omega)); (try (have y3 : w3.heap.size < w'.heap.size := by omega)); (try (have y4 : w4.heap.size < w'.heap.size := by omega)); (try (have y5 : w5.heap.size < w'.heap.size := by omega)); (try (have y6 : w6.heap.size < w'.heap.size := by omega)); (try (have x1 : w1.heap.size + 1 < w'.heap.size := by omega)); (try (have x2 : w2.heap.size + 1 < w'.heap.size := by omega)); (try (have x3 : w3.heap.size + 1 < w'.heap.size := by omega)); (try (have x4 : w4.heap.size + 1 < w'.heap.size := by omega)); (try (have x5 : w5.heap.size + 1 < w'.heap.size := by omega)); (try (have x6 : w6.heap.size + 1 < w'.heap.size := by omega)); (try (have y7 : w7.heap.size < w'.heap.size := by omega)); (try (have y8 : w8.heap.size < w'.heap.size := by omega)); (try (have y9 : w9.heap.size < w'.heap.size := by omega)); (try (have z10 : w1.heap.size < w'.heap.size + 1 := by omega)); (try (have z20 : w2.heap.size < w'.heap.size + 1 := by omega)); (try (have z30 : w3.heap.size < w'.heap.size + 1 := by omega)); (try (have z40 : w4.heap.size < w'.heap.size + 1 := by omega)); (try (have z50 : w5.heap.size < w'.heap.size + 1 := by omega)); (try (have z60 : w6.heap.size < w'.heap.size + 1 := by omega)); (try (have z70 : w7.heap.size < w'.heap.size + 1 := by omega)); (try (have z80 : w8.heap.size < w'.heap.size + 1 := by omega)); obtain ⟨w1, rfl⟩ : ∃ v, v = w' := ⟨_, rfl⟩)
  go_ret
  exact ⟨by first | rfl | (refine ret_bool ?_; simp; omega), by (repeat (first | (with_reducible exact Below.refl _ _) | (with_reducible refine Below.setCell ?_ (by (first | (simp; done) | (simp; omega) | omega)) _) | (with_reducible refine bl_alloc ?_ _) | (with_reducible refine bl_drewN ?_) | (with_reducible refine bl_drew ?_) | (with_reducible refine bl_step (by assumption) ?_)))⟩

theorem square_o1 (p q n l : Int) (w : World) (g0 : ¬ p < -600000) (g1 : 600000 < p) :
    Calls Try.prog 4 #[.int .i64 p, .int .i64 q, .int .u8 n, .int .i64 l] w fun e w' => e = .returned (.bool true) ∧ Below w.heap.size w w' := by
  go_enter Try.func4, Try.ntmps4
  go_wp2_with (go_at_call 6; ((with_reducible refine (awake37_is _).mono ?_); rintro e w' ⟨rfl, hb⟩); (try replace hb := below_undrew hb); (try replace hb := below_undrewN hb); obtain ⟨hcell, hfroz⟩ := bcell hb; have hz := hb.size; (try simp at hz); (try (have z6 := Nat.lt_of_lt_of_le z7 hz)); (try (have z7 := Nat.lt_of_lt_of_le z8 hz)); (try (have z8 := Nat.lt_of_lt_of_le z9 hz)); (try (have z9 := Nat.lt_of_lt_of_le (Nat.lt_succ_self _) hz)); (try (have z0 : w.heap.size < w'.heap.size := by omega)); (try (have z1 : w.heap.size + 1 < w'.heap.size := by omega)); (try (have z2 : w.heap.size + 1 + 1 < w'.heap.size := by omega)); (try (have z3 : w.heap.size + 1 + 1 + 1 < w'.heap.size := by omega)); (try (have y1 : w1.heap.size < w'.heap.size := by omega)); (try (have y2 : w2.heap.size < w'.heap.size := by omega)); (try (have y3 : w3.heap.size < w'.heap.size := by omega)); (try (have y4 : w4.heap.size < w'.heap.size := by omega)); (try (have y5 : w5.heap.size < w'.heap.size := by omega)); (try (have y6 : w6.heap.size < w'.heap.size := by omega)); (try (have x1 : w1.heap.size + 1 < w'.heap.size := by omega)); (try (have x2 : w2.heap.size + 1 < w'.heap.size := by omega)); (try (have x3 : w3.heap.size + 1 < w'.heap.size := by omega)); (try (have x4 : w4.heap.size + 1 < w'.heap.size := by omega)); (try (have x5 : w5.heap.size + 1 < w'.heap.size := by omega)); (try (have x6 : w6.heap.size + 1 < w'.heap.size := by omega)); (try (have y7 : w7.heap.size < w'.heap.size := by omega)); (try (have y8 : w8.heap.size < w'.heap.size := by omega)); (try (have y9 : w9.heap.size < w'.heap.size := by omega)); (try (have z10 : w1.heap.size < w'.heap.size + 1 := by omega)); (try (have z20 : w2.heap.size < w'.heap.size + 1 := by omega)); (try (have z30 : w3.heap.size < w'.heap.size + 1 := by omega)); (try (have z40 : w4.heap.size < w'.heap.size + 1 := by omega)); (try (have z50 : w5.heap.size < w'.heap.size + 1 := by omega)); (try (have z60 : w6.heap.size < w'.heap.size + 1 := by omega)); (try (have z70 : w7.heap.size < w'.heap.size + 1 := by omega)); (try (have z80 : w8.heap.size < w'.heap.size + 1 := by omega)); obtain ⟨w1, rfl⟩ : ∃ v, v = w' := ⟨_, rfl⟩)
  go_ret
  exact ⟨by first | rfl | (refine ret_bool ?_; simp; omega), by (repeat (first | (with_reducible exact Below.refl _ _) | (with_reducible refine Below.setCell ?_ (by (first | (simp; done) | (simp; omega) | omega)) _) | (with_reducible refine bl_alloc ?_ _) | (with_reducible refine bl_drewN ?_) | (with_reducible refine bl_drew ?_) | (with_reducible refine bl_step (by assumption) ?_)))⟩

theorem square_o2 (p q n l : Int) (w : World) (g0 : ¬ p < -600000) (g1 : ¬ 600000 < p) (g2 : q < -600000) :
    Calls Try.prog 4 #[.int .i64 p, .int .i64 q, .int .u8 n, .int .i64 l] w fun e w' => e = .returned (.bool true) ∧ Below w.heap.size w w' := by
  go_enter Try.func4, Try.ntmps4
  go_wp2_with (go_at_call 6; ((with_reducible refine (awake37_is _).mono ?_); rintro e w' ⟨rfl, hb⟩); (try replace hb := below_undrew hb); (try replace hb := below_undrewN hb); obtain ⟨hcell, hfroz⟩ := bcell hb; have hz := hb.size; (try simp at hz); (try (have z6 := Nat.lt_of_lt_of_le z7 hz)); (try (have z7 := Nat.lt_of_lt_of_le z8 hz)); (try (have z8 := Nat.lt_of_lt_of_le z9 hz)); (try (have z9 := Nat.lt_of_lt_of_le (Nat.lt_succ_self _) hz)); (try (have z0 : w.heap.size < w'.heap.size := by omega)); (try (have z1 : w.heap.size + 1 < w'.heap.size := by omega)); (try (have z2 : w.heap.size + 1 + 1 < w'.heap.size := by omega)); (try (have z3 : w.heap.size + 1 + 1 + 1 < w'.heap.size := by omega)); (try (have y1 : w1.heap.size < w'.heap.size := by omega)); (try (have y2 : w2.heap.size < w'.heap.size := by omega)); (try (have y3 : w3.heap.size < w'.heap.size := by omega)); (try (have y4 : w4.heap.size < w'.heap.size := by omega)); (try (have y5 : w5.heap.size < w'.heap.size := by omega)); (try (have y6 : w6.heap.size < w'.heap.size := by omega)); (try (have x1 : w1.heap.size + 1 < w'.heap.size := by omega)); (try (have x2 : w2.heap.size + 1 < w'.heap.size := by omega)); (try (have x3 : w3.heap.size + 1 < w'.heap.size := by omega)); (try (have x4 : w4.heap.size + 1 < w'.heap.size := by omega)); (try (have x5 : w5.heap.size + 1 < w'.heap.size := by omega)); (try (have x6 : w6.heap.size + 1 < w'.heap.size := by omega)); (try (have y7 : w7.heap.size < w'.heap.size := by omega)); (try (have y8 : w8.heap.size < w'.heap.size := by omega)); (try (have y9 : w9.heap.size < w'.heap.size := by omega)); (try (have z10 : w1.heap.size < w'.heap.size + 1 := by omega)); (try (have z20 : w2.heap.size < w'.heap.size + 1 := by omega)); (try (have z30 : w3.heap.size < w'.heap.size + 1 := by omega)); (try (have z40 : w4.heap.size < w'.heap.size + 1 := by omega)); (try (have z50 : w5.heap.size < w'.heap.size + 1 := by omega)); (try (have z60 : w6.heap.size < w'.heap.size + 1 := by omega)); (try (have z70 : w7.heap.size < w'.heap.size + 1 := by omega)); (try (have z80 : w8.heap.size < w'.heap.size + 1 := by omega)); obtain ⟨w1, rfl⟩ : ∃ v, v = w' := ⟨_, rfl⟩)
  go_ret
  exact ⟨by first | rfl | (refine ret_bool ?_; simp; omega), by (repeat (first | (with_reducible exact Below.refl _ _) | (with_reducible refine Below.setCell ?_ (by (first | (simp; done) | (simp; omega) | omega)) _) | (with_reducible refine bl_alloc ?_ _) | (with_reducible refine bl_drewN ?_) | (with_reducible refine bl_drew ?_) | (with_reducible refine bl_step (by assumption) ?_)))⟩

theorem square_o3 (p q n l : Int) (w : World) (g0 : ¬ p < -600000) (g1 : ¬ 600000 < p) (g2 : ¬ q < -600000) (g3 : 600000 < q) :
    Calls Try.prog 4 #[.int .i64 p, .int .i64 q, .int .u8 n, .int .i64 l] w fun e w' => e = .returned (.bool true) ∧ Below w.heap.size w w' := by
  go_enter Try.func4, Try.ntmps4
  go_wp2_with (go_at_call 6; ((with_reducible refine (awake37_is _).mono ?_); rintro e w' ⟨rfl, hb⟩); (try replace hb := below_undrew hb); (try replace hb := below_undrewN hb); obtain ⟨hcell, hfroz⟩ := bcell hb; have hz := hb.size; (try simp at hz); (try (have z6 := Nat.lt_of_lt_of_le z7 hz)); (try (have z7 := Nat.lt_of_lt_of_le z8 hz)); (try (have z8 := Nat.lt_of_lt_of_le z9 hz)); (try (have z9 := Nat.lt_of_lt_of_le (Nat.lt_succ_self _) hz)); (try (have z0 : w.heap.size < w'.heap.size := by omega)); (try (have z1 : w.heap.size + 1 < w'.heap.size := by omega)); (try (have z2 : w.heap.size + 1 + 1 < w'.heap.size := by omega)); (try (have z3 : w.heap.size + 1 + 1 + 1 < w'.heap.size := by omega)); (try (have y1 : w1.heap.size < w'.heap.size := by omega)); (try (have y2 : w2.heap.size < w'.heap.size := by omega)); (try (have y3 : w3.heap.size < w'.heap.size := by omega)); (try (have y4 : w4.heap.size < w'.heap.size := by omega)); (try (have y5 : w5.heap.size < w'.heap.size := by omega)); (try (have y6 : w6.heap.size < w'.heap.size := by omega)); (try (have x1 : w1.heap.size + 1 < w'.heap.size := by omega)); (try (have x2 : w2.heap.size + 1 < w'.heap.size := by omega)); (try (have x3 : w3.heap.size + 1 < w'.heap.size := by omega)); (try (have x4 : w4.heap.size + 1 < w'.heap.size := by omega)); (try (have x5 : w5.heap.size + 1 < w'.heap.size := by omega)); (try (have x6 : w6.heap.size + 1 < w'.heap.size := by omega)); (try (have y7 : w7.heap.size < w'.heap.size := by omega)); (try (have y8 : w8.heap.size < w'.heap.size := by omega)); (try (have y9 : w9.heap.size < w'.heap.size := by omega)); (try (have z10 : w1.heap.size < w'.heap.size + 1 := by omega)); (try (have z20 : w2.heap.size < w'.heap.size + 1 := by omega)); (try (have z30 : w3.heap.size < w'.heap.size + 1 := by omega)); (try (have z40 : w4.heap.size < w'.heap.size + 1 := by omega)); (try (have z50 : w5.heap.size < w'.heap.size + 1 := by omega)); (try (have z60 : w6.heap.size < w'.heap.size + 1 := by omega)); (try (have z70 : w7.heap.size < w'.heap.size + 1 := by omega)); (try (have z80 : w8.heap.size < w'.heap.size + 1 := by omega)); obtain ⟨w1, rfl⟩ : ∃ v, v = w' := ⟨_, rfl⟩)
  go_ret
  exact ⟨by first | rfl | (refine ret_bool ?_; simp; omega), by (repeat (first | (with_reducible exact Below.refl _ _) | (with_reducible refine Below.setCell ?_ (by (first | (simp; done) | (simp; omega) | omega)) _) | (with_reducible refine bl_alloc ?_ _) | (with_reducible refine bl_drewN ?_) | (with_reducible refine bl_drew ?_) | (with_reducible refine bl_step (by assumption) ?_)))⟩

theorem square_o4 (p q n l : Int) (w : World) (g0 : ¬ p < -600000) (g1 : ¬ 600000 < p) (g2 : ¬ q < -600000) (g3 : ¬ 600000 < q) (g4 : l < -10800000) :
    Calls Try.prog 4 #[.int .i64 p, .int .i64 q, .int .u8 n, .int .i64 l] w fun e w' => e = .returned (.bool true) ∧ Below w.heap.size w w' := by
  go_enter Try.func4, Try.ntmps4
  go_wp2_with (go_at_call 6; ((with_reducible refine (awake37_is _).mono ?_); rintro e w' ⟨rfl, hb⟩); (try replace hb := below_undrew hb); (try replace hb := below_undrewN hb); obtain ⟨hcell, hfroz⟩ := bcell hb; have hz := hb.size; (try simp at hz); (try (have z6 := Nat.lt_of_lt_of_le z7 hz)); (try (have z7 := Nat.lt_of_lt_of_le z8 hz)); (try (have z8 := Nat.lt_of_lt_of_le z9 hz)); (try (have z9 := Nat.lt_of_lt_of_le (Nat.lt_succ_self _) hz)); (try (have z0 : w.heap.size < w'.heap.size := by omega)); (try (have z1 : w.heap.size + 1 < w'.heap.size := by omega)); (try (have z2 : w.heap.size + 1 + 1 < w'.heap.size := by omega)); (try (have z3 : w.heap.size + 1 + 1 + 1 < w'.heap.size := by omega)); (try (have y1 : w1.heap.size < w'.heap.size := by omega)); (try (have y2 : w2.heap.size < w'.heap.size := by omega)); (try (have y3 : w3.heap.size < w'.heap.size := by omega)); (try (have y4 : w4.heap.size < w'.heap.size := by omega)); (try (have y5 : w5.heap.size < w'.heap.size := by omega)); (try (have y6 : w6.heap.size < w'.heap.size := by omega)); (try (have x1 : w1.heap.size + 1 < w'.heap.size := by omega)); (try (have x2 : w2.heap.size + 1 < w'.heap.size := by omega)); (try (have x3 : w3.heap.size + 1 < w'.heap.size := by omega)); (try (have x4 : w4.heap.size + 1 < w'.heap.size := by omega)); (try (have x5 : w5.heap.size + 1 < w'.heap.size := by omega)); (try (have x6 : w6.heap.size + 1 < w'.heap.size := by omega)); (try (have y7 : w7.heap.size < w'.heap.size := by omega)); (try (have y8 : w8.heap.size < w'.heap.size := by omega)); (try (have y9 : w9.heap.size < w'.heap.size := by omega)); (try (have z10 : w1.heap.size < w'.heap.size + 1 := by omega)); (try (have z20 : w2.heap.size < w'.heap.size + 1 := by omega)); (try (have z30 : w3.heap.size < w'.heap.size + 1 := by omega)); (try (have z40 : w4.heap.size < w'.heap.size + 1 := by omega)); (try (have z50 : w5.heap.size < w'.heap.size + 1 := by omega)); (try (have z60 : w6.heap.size < w'.heap.size + 1 := by omega)); (try (have z70 : w7.heap.size < w'.heap.size + 1 := by omega)); (try (have z80 : w8.heap.size < w'.heap.size + 1 := by omega)); obtain ⟨w1, rfl⟩ : ∃ v, v = w' := ⟨_, rfl⟩)
  go_ret
  exact ⟨by first | rfl | (refine ret_bool ?_; simp; omega), by (repeat (first | (with_reducible exact Below.refl _ _) | (with_reducible refine Below.setCell ?_ (by (first | (simp; done) | (simp; omega) | omega)) _) | (with_reducible refine bl_alloc ?_ _) | (with_reducible refine bl_drewN ?_) | (with_reducible refine bl_drew ?_) | (with_reducible refine bl_step (by assumption) ?_)))⟩

theorem square_o5 (p q n l : Int) (w : World) (g0 : ¬ p < -600000) (g1 : ¬ 600000 < p) (g2 : ¬ q < -600000) (g3 : ¬ 600000 < q) (g4 : ¬ l < -10800000) (g5 : 10800000 ≤ l) :
    Calls Try.prog 4 #[.int .i64 p, .int .i64 q, .int .u8 n, .int .i64 l] w fun e w' => e = .returned (.bool true) ∧ Below w.heap.size w w' := by
  go_enter Try.func4, Try.ntmps4
  go_wp2_with (go_at_call 6; ((with_reducible refine (awake37_is _).mono ?_); rintro e w' ⟨rfl, hb⟩); (try replace hb := below_undrew hb); (try replace hb := below_undrewN hb); obtain ⟨hcell, hfroz⟩ := bcell hb; have hz := hb.size; (try simp at hz); (try (have z6 := Nat.lt_of_lt_of_le z7 hz)); (try (have z7 := Nat.lt_of_lt_of_le z8 hz)); (try (have z8 := Nat.lt_of_lt_of_le z9 hz)); (try (have z9 := Nat.lt_of_lt_of_le (Nat.lt_succ_self _) hz)); (try (have z0 : w.heap.size < w'.heap.size := by omega)); (try (have z1 : w.heap.size + 1 < w'.heap.size := by omega)); (try (have z2 : w.heap.size + 1 + 1 < w'.heap.size := by omega)); (try (have z3 : w.heap.size + 1 + 1 + 1 < w'.heap.size := by omega)); (try (have y1 : w1.heap.size < w'.heap.size := by omega)); (try (have y2 : w2.heap.size < w'.heap.size := by omega)); (try (have y3 : w3.heap.size < w'.heap.size := by omega)); (try (have y4 : w4.heap.size < w'.heap.size := by omega)); (try (have y5 : w5.heap.size < w'.heap.size := by omega)); (try (have y6 : w6.heap.size < w'.heap.size := by omega)); (try (have x1 : w1.heap.size + 1 < w'.heap.size := by omega)); (try (have x2 : w2.heap.size + 1 < w'.heap.size := by omega)); (try (have x3 : w3.heap.size + 1 < w'.heap.size := by omega)); (try (have x4 : w4.heap.size + 1 < w'.heap.size := by omega)); (try (have x5 : w5.heap.size + 1 < w'.heap.size := by omega)); (try (have x6 : w6.heap.size + 1 < w'.heap.size := by omega)); (try (have y7 : w7.heap.size < w'.heap.size := by omega)); (try (have y8 : w8.heap.size < w'.heap.size := by omega)); (try (have y9 : w9.heap.size < w'.heap.size := by omega)); (try (have z10 : w1.heap.size < w'.heap.size + 1 := by omega)); (try (have z20 : w2.heap.size < w'.heap.size + 1 := by omega)); (try (have z30 : w3.heap.size < w'.heap.size + 1 := by omega)); (try (have z40 : w4.heap.size < w'.heap.size + 1 := by omega)); (try (have z50 : w5.heap.size < w'.heap.size + 1 := by omega)); (try (have z60 : w6.heap.size < w'.heap.size + 1 := by omega)); (try (have z70 : w7.heap.size < w'.heap.size + 1 := by omega)); (try (have z80 : w8.heap.size < w'.heap.size + 1 := by omega)); obtain ⟨w1, rfl⟩ : ∃ v, v = w' := ⟨_, rfl⟩)
  go_ret
  exact ⟨by first | rfl | (refine ret_bool ?_; simp; omega), by (repeat (first | (with_reducible exact Below.refl _ _) | (with_reducible refine Below.setCell ?_ (by (first | (simp; done) | (simp; omega) | omega)) _) | (with_reducible refine bl_alloc ?_ _) | (with_reducible refine bl_drewN ?_) | (with_reducible refine bl_drew ?_) | (with_reducible refine bl_step (by assumption) ?_)))⟩

/-- the cells of copies of both lines -/
def sqL (p q l : Int) : Nat → List Value
  | 0 => []
  | k + 1 => sqL p q l k ++ [.int .i64 0, .int .i64 l, .int .i64 0, .int .i64 0, .int .i64 p, .int .i64 p, .int .i64 0, .int .i64 l, .int .i64 5400000, .int .i64 5400000, .int .i64 q, .int .i64 q]
theorem sqL_len (p q l : Int) (k : Nat) : (sqL p q l k).length = 12 * k := by
  induction k with
  | zero => rfl
  | succ k ih => simp [sqL, ih]; omega
theorem sqL_get (p q l : Int) {k i j : Nat} (hi : i < 2 * k) (hj : j < 6) : (sqL p q l k)[i * 6 + j]? = some (.int .i64 (sqF p q l i j)) := by
  induction k with
  | zero => omega
  | succ k ih =>
    have hl := sqL_len p q l k
    by_cases h : i < 2 * k
    · unfold sqL
      rw [List.getElem?_append_left (by omega)]
      exact ih h
    · unfold sqL
      rw [List.getElem?_append_right (by omega), hl]
      have hj2 : j = 0 ∨ j = 1 ∨ j = 2 ∨ j = 3 ∨ j = 4 ∨ j = 5 := by omega
      have hi2 : i = 2 * k ∨ i = 2 * k + 1 := by omega
      rcases hi2 with rfl | rfl
      · have e : ∀ a b, pick (2 * k) a b = a := fun a b => if_pos (by omega)
        rcases hj2 with rfl | rfl | rfl | rfl | rfl | rfl <;> (simp only [sqF, e, sqA])
        · rw [show 2 * k * 6 + 0 - 12 * k = 0 by omega]; rfl
        · rw [show 2 * k * 6 + 1 - 12 * k = 1 by omega]; rfl
        · rw [show 2 * k * 6 + 2 - 12 * k = 2 by omega]; rfl
        · rw [show 2 * k * 6 + 3 - 12 * k = 3 by omega]; rfl
        · rw [show 2 * k * 6 + 4 - 12 * k = 4 by omega]; rfl
        · rw [show 2 * k * 6 + 5 - 12 * k = 5 by omega]; rfl
      · have e : ∀ a b, pick (2 * k + 1) a b = b := fun a b => if_neg (by omega)
        rcases hj2 with rfl | rfl | rfl | rfl | rfl | rfl <;> (simp only [sqF, e, sqB])
        · rw [show (2 * k + 1) * 6 + 0 - 12 * k = 6 by omega]; rfl
        · rw [show (2 * k + 1) * 6 + 1 - 12 * k = 7 by omega]; rfl
        · rw [show (2 * k + 1) * 6 + 2 - 12 * k = 8 by omega]; rfl
        · rw [show (2 * k + 1) * 6 + 3 - 12 * k = 9 by omega]; rfl
        · rw [show (2 * k + 1) * 6 + 4 - 12 * k = 10 by omega]; rfl
        · rw [show (2 * k + 1) * 6 + 5 - 12 * k = 11 by omega]; rfl
theorem news12 (w : World) (x0 x1 x2 x3 x4 x5 x6 x7 x8 x9 x10 x11 : Value) (t : Nat) : ∀ (j : Nat) u, ([x0, x1, x2, x3, x4, x5, x6, x7, x8, x9, x10, x11] : List Value)[j]? = some u → (w.alloc (Obj.cells #[x0, x1, x2, x3, x4, x5, x6, x7, x8, x9, x10, x11] t)).cell? ((⟨w.heap.size, 0, none⟩ : Addr).add j) = some u := by
  intro j u h
  match j, h with
  | 0, h => simp at h; subst h; simp [Addr.add, go_sem]
  | 1, h => simp at h; subst h; simp [Addr.add, go_sem]
  | 2, h => simp at h; subst h; simp [Addr.add, go_sem]
  | 3, h => simp at h; subst h; simp [Addr.add, go_sem]
  | 4, h => simp at h; subst h; simp [Addr.add, go_sem]
  | 5, h => simp at h; subst h; simp [Addr.add, go_sem]
  | 6, h => simp at h; subst h; simp [Addr.add, go_sem]
  | 7, h => simp at h; subst h; simp [Addr.add, go_sem]
  | 8, h => simp at h; subst h; simp [Addr.add, go_sem]
  | 9, h => simp at h; subst h; simp [Addr.add, go_sem]
  | 10, h => simp at h; subst h; simp [Addr.add, go_sem]
  | 11, h => simp at h; subst h; simp [Addr.add, go_sem]
  | n + 12, h => simp at h
theorem one12 (p q l : Int) : ∀ u ∈ ([.int .i64 0, .int .i64 l, .int .i64 0, .int .i64 0, .int .i64 p, .int .i64 p, .int .i64 0, .int .i64 l, .int .i64 5400000, .int .i64 5400000, .int .i64 q, .int .i64 q] : List Value), u.oneCell' = true := by
  intro u hu
  simp at hu
  rcases hu with rfl | rfl | rfl | rfl | rfl | rfl | rfl | rfl | rfl | rfl | rfl | rfl <;> rfl

set_option maxRecDepth 100000 in
set_option maxHeartbeats 16000000 in
theorem square_in (p q n l r R X : Int) (m : Nat) (w : World) (g0 : ¬ p < -600000) (g1 : ¬ 600000 < p) (g2 : ¬ q < -600000) (g3 : ¬ 600000 < q) (g4 : ¬ l < -10800000) (g5 : ¬ 10800000 ≤ l) (n0 : 0 ≤ n) (n1 : n ≤ 255) (hr : n.tmod 8 = r) (hr2 : n % 8 = r) (r0 : 0 ≤ r) (r1 : r ≤ 7) (hm : (m : Int) = 1 + r)
    (i0 : TypeInfo) (hi : Try.prog.info? 27 = some i0) (hz0 : i0.zero = some (.agg #[.int .i64 0, .int .i64 0, .int .i64 0, .int .i64 0, .int .i64 0, .int .i64 0])) (hz1 : i0.size = 6) (hz2 : i0.bytes = 48)
    (OP : Hid (∀ w, Calls Try.prog 11 #[.int .i64 (p)] w fun e w' => e = .returned (.agg #[.int .i64 (p), .int .i64 (p)]) ∧ Below w.heap.size w w'))
    (OQ : Hid (∀ w, Calls Try.prog 11 #[.int .i64 (q)] w fun e w' => e = .returned (.agg #[.int .i64 (q), .int .i64 (q)]) ∧ Below w.heap.size w w'))
    (OZ : Hid (∀ w, Calls Try.prog 11 #[.int .i64 5400000] w fun e w' => e = .returned (.agg #[.int .i64 (5400000), .int .i64 (5400000)]) ∧ Below w.heap.size w w'))
    (CR : Hid (∀ w, Calls Try.prog 12 #[.agg #[.int .i64 (0), .int .i64 (l), .int .i64 (0), .int .i64 (0), .int .i64 (p), .int .i64 (p)], .agg #[.int .i64 (0), .int .i64 (l), .int .i64 (5400000), .int .i64 (5400000), .int .i64 (q), .int .i64 (q)]] w fun e w' => e = .returned (.tuple #[.agg #[.int .i64 (p), .int .i64 (p), .int .i64 (R), .int .i64 (R)], .int .i64 0]) ∧ Below w.heap.size w w'))
    (LS : Hid (∀ B c w, LnS w B (2 * m) (sqF p q l) → Calls Try.prog 13 #[.slice (some ⟨B, 0, none⟩) (2 * m) c] w fun e w' => (∃ gg cap : Nat, e = .returned (.tuple #[.agg #[.int .i64 (p), .int .i64 (R)], .slice (some ⟨gg, 0, none⟩) (2 * m) cap, .int .i64 0]) ∧ ∀ i, i < 2 * m → w'.cell? ⟨gg, i, none⟩ = some (.int .i64 0)) ∧ Below w.heap.size w w'))
    (WQ : Hid (∀ w, Calls Try.prog 16 #[.int .i64 (l + q)] w fun e w' => e = .returned (.int .i64 (X)) ∧ w = w'))
    (WR : Hid (∀ w, Calls Try.prog 16 #[.int .i64 (R)] w fun e w' => e = .returned (.int .i64 (X)) ∧ w = w')) :
    Calls Try.prog 4 #[.int .i64 p, .int .i64 q, .int .u8 n, .int .i64 l] w fun e w' => e = .returned (.bool true) ∧ Below w.heap.size w w' := by
  go_enter Try.func4, Try.ntmps4
  go_wp2_with (go_at_call 6; ((with_reducible refine (awake37_is _).mono ?_); rintro e w' ⟨rfl, hb⟩); (try replace hb := below_undrew hb); (try replace hb := below_undrewN hb); obtain ⟨hcell, hfroz⟩ := bcell hb; have hz := hb.size; (try simp at hz); (try (have z6 := Nat.lt_of_lt_of_le z7 hz)); (try (have z7 := Nat.lt_of_lt_of_le z8 hz)); (try (have z8 := Nat.lt_of_lt_of_le z9 hz)); (try (have z9 := Nat.lt_of_lt_of_le (Nat.lt_succ_self _) hz)); (try (have z0 : w.heap.size < w'.heap.size := by omega)); (try (have z1 : w.heap.size + 1 < w'.heap.size := by omega)); (try (have z2 : w.heap.size + 1 + 1 < w'.heap.size := by omega)); (try (have z3 : w.heap.size + 1 + 1 + 1 < w'.heap.size := by omega)); (try (have y1 : w1.heap.size < w'.heap.size := by omega)); (try (have y2 : w2.heap.size < w'.heap.size := by omega)); (try (have y3 : w3.heap.size < w'.heap.size := by omega)); (try (have y4 : w4.heap.size < w'.heap.size := by omega)); (try (have y5 : w5.heap.size < w'.heap.size := by omega)); (try (have y6 : w6.heap.size < w'.heap.size := by omega)); (try (have x1 : w1.heap.size + 1 < w'.heap.size := by omega)); (try (have x2 : w2.heap.size + 1 < w'.heap.size := by omega)); (try (have x3 : w3.heap.size + 1 < w'.heap.size := by omega)); (try (have x4 : w4.heap.size + 1 < w'.heap.size := by omega)); (try (have x5 : w5.heap.size + 1 < w'.heap.size := by omega)); (try (have x6 : w6.heap.size + 1 < w'.heap.size := by omega)); (try (have y7 : w7.heap.size < w'.heap.size := by omega)); (try (have y8 : w8.heap.size < w'.heap.size := by omega)); (try (have y9 : w9.heap.size < w'.heap.size := by omega)); (try (have z10 : w1.heap.size < w'.heap.size + 1 := by omega)); (try (have z20 : w2.heap.size < w'.heap.size + 1 := by omega)); (try (have z30 : w3.heap.size < w'.heap.size + 1 := by omega)); (try (have z40 : w4.heap.size < w'.heap.size + 1 := by omega)); (try (have z50 : w5.heap.size < w'.heap.size + 1 := by omega)); (try (have z60 : w6.heap.size < w'.heap.size + 1 := by omega)); (try (have z70 : w7.heap.size < w'.heap.size + 1 := by omega)); (try (have z80 : w8.heap.size < w'.heap.size + 1 := by omega)); obtain ⟨w1, rfl⟩ : ∃ v, v = w' := ⟨_, rfl⟩)
  refine name_below ?_
  intro w' hb
  (try replace hb := below_undrew hb); (try replace hb := below_undrewN hb); obtain ⟨hcell, hfroz⟩ := bcell hb; have hz := hb.size; (try simp at hz); (try (have z6 := Nat.lt_of_lt_of_le z7 hz)); (try (have z7 := Nat.lt_of_lt_of_le z8 hz)); (try (have z8 := Nat.lt_of_lt_of_le z9 hz)); (try (have z9 := Nat.lt_of_lt_of_le (Nat.lt_succ_self _) hz)); (try (have z0 : w.heap.size < w'.heap.size := by omega)); (try (have z1 : w.heap.size + 1 < w'.heap.size := by omega)); (try (have z2 : w.heap.size + 1 + 1 < w'.heap.size := by omega)); (try (have z3 : w.heap.size + 1 + 1 + 1 < w'.heap.size := by omega)); (try (have y1 : w1.heap.size < w'.heap.size := by omega)); (try (have y2 : w2.heap.size < w'.heap.size := by omega)); (try (have y3 : w3.heap.size < w'.heap.size := by omega)); (try (have y4 : w4.heap.size < w'.heap.size := by omega)); (try (have y5 : w5.heap.size < w'.heap.size := by omega)); (try (have y6 : w6.heap.size < w'.heap.size := by omega)); (try (have x1 : w1.heap.size + 1 < w'.heap.size := by omega)); (try (have x2 : w2.heap.size + 1 < w'.heap.size := by omega)); (try (have x3 : w3.heap.size + 1 < w'.heap.size := by omega)); (try (have x4 : w4.heap.size + 1 < w'.heap.size := by omega)); (try (have x5 : w5.heap.size + 1 < w'.heap.size := by omega)); (try (have x6 : w6.heap.size + 1 < w'.heap.size := by omega)); (try (have y7 : w7.heap.size < w'.heap.size := by omega)); (try (have y8 : w8.heap.size < w'.heap.size := by omega)); (try (have y9 : w9.heap.size < w'.heap.size := by omega)); (try (have z10 : w1.heap.size < w'.heap.size + 1 := by omega)); (try (have z20 : w2.heap.size < w'.heap.size + 1 := by omega)); (try (have z30 : w3.heap.size < w'.heap.size + 1 := by omega)); (try (have z40 : w4.heap.size < w'.heap.size + 1 := by omega)); (try (have z50 : w5.heap.size < w'.heap.size + 1 := by omega)); (try (have z60 : w6.heap.size < w'.heap.size + 1 := by omega)); (try (have z70 : w7.heap.size < w'.heap.size + 1 := by omega)); (try (have z80 : w8.heap.size < w'.heap.size + 1 := by omega))
  have hw : Below w.heap.size w w' := by (repeat (first | (with_reducible exact Below.refl _ _) | (with_reducible refine Below.setCell ?_ (by (first | (simp; done) | (simp; omega) | omega)) _) | (with_reducible refine bl_alloc ?_ _) | (with_reducible refine bl_drewN ?_) | (with_reducible refine bl_drew ?_) | (with_reducible refine bl_step (by assumption) ?_)))
  have a0 : w'.cell? ⟨w1.heap.size, 0, none⟩ = some (.int .i64 0) := by simp [go_sem, *]
  have a1 : w'.cell? ⟨w1.heap.size, 1, none⟩ = some (.int .i64 l) := by simp [go_sem, *]
  clear hcell hfroz hz
  obtain ⟨U1, rfl⟩ : ∃ v, v = w' := ⟨_, rfl⟩
  refine wp_region_inv (fun a0 LL aa V1 => ∃ (l0 l1 l2 l3 l4 l5 : Bool) (EA : Nat), LL = #[l0, l1, l2, l3, l4, l5] ∧ aa = { a0 with tmps := (((((a0.tmps.setIfInBounds 44 (cond l0 (.agg #[.int .i64 (0), .int .i64 (l)]) (undef))).setIfInBounds 45 (cond l1 (.int .i64 (p)) (undef))).setIfInBounds 46 (cond l2 (.agg #[.int .i64 (p), .int .i64 (p)]) (undef))).setIfInBounds 47 (cond l3 (.agg #[.int .i64 (0), .int .i64 (l), .int .i64 (0), .int .i64 (0), .int .i64 (p), .int .i64 (p)]) (undef))).setIfInBounds 10 (cond l4 (.pointer (some ⟨EA, 0, none⟩)) (undef))) } ∧ Below U1.heap.size U1 V1 ∧ (l5 = true → l4 = true) ∧ (l4 = true → Room6 U1 V1 EA l5 (0) (l) (0) (0) (p) (p))) (by kernel_rfl) (by kernel_rfl) ?h0 ?hsize ?hdone ?hstep
  case h0 =>
    refine ⟨false, false, false, false, false, false, 0, rfl, ?_, by (repeat (first | exact Below.refl _ _ | refine bl_drewN ?_ | refine bl_drew ?_ | refine bl_alloc ?_ _ | refine Below.setCell ?_ (by (first | (simp; done) | (simp; omega) | omega)) _ | refine bl_step (by assumption) ?_)), (fun h => by cases h), (fun h => by cases h)⟩
    simp only [cond_false, List.setIfInBounds_toArray, List.set_cons_zero, List.set_cons_succ]
  case hsize =>
    intro LL aa V1 h
    obtain ⟨l0, l1, l2, l3, l4, l5, EA, hL, _⟩ := h
    rw [hL]
    rfl
  case hstep =>
    intro LL aa V1 h
    obtain ⟨l0, l1, l2, l3, l4, l5, EA, hL, ha, hb0, hq, hr⟩ := h
    simp only [List.setIfInBounds_toArray, List.set_cons_zero, List.set_cons_succ] at ha
    subst hL
    subst ha
    refine ⟨?s0, ?s1, ?s2, ?s3, ?s4, ?s5, trivial⟩
    case s0 =>
      intro ff gg KK hK
      have f0 : l0 = false := ff
      clear ff gg
      subst f0
      simp only [cond_false]
      have j0 := cell_later hb0 a0
      have j1 := cell_later hb0 a1
      go_simp
      exact hK _ _ ⟨true, l1, l2, l3, l4, l5, EA, rfl, (by simp only [cond_true, List.setIfInBounds_toArray, List.set_cons_zero, List.set_cons_succ]), hb0, hq, hr⟩
    case s1 =>
      intro ff gg KK hK
      have f0 : l1 = false := ff
      clear ff gg
      subst f0
      simp only [cond_false]
      go_simp
      exact hK _ _ ⟨l0, true, l2, l3, l4, l5, EA, rfl, (by simp only [cond_true, List.setIfInBounds_toArray, List.set_cons_zero, List.set_cons_succ]), hb0, hq, hr⟩
    case s2 =>
      intro ff gg KK hK
      have t1 : l1 = true := gg ⟨1, .data⟩ (by simp) (by rfl)
      have f0 : l2 = false := ff
      clear ff gg
      subst t1
      subst f0
      simp only [cond_true, cond_false]
      go_simp
      go_at_call 11
      (first | (with_reducible refine (OP.out _).mono ?_))
      rintro e w' ⟨rfl, hb⟩
      exact hK _ _ ⟨l0, true, true, l3, l4, l5, EA, rfl, (by simp only [cond_true, List.setIfInBounds_toArray, List.set_cons_zero, List.set_cons_succ]), bl_step hb hb0, hq, (fun t => (hr t).later hb)⟩
    case s3 =>
      intro ff gg KK hK
      have t0 : l0 = true := gg ⟨0, .data⟩ (by simp) (by rfl)
      have t2 : l2 = true := gg ⟨2, .data⟩ (by simp) (by rfl)
      have f0 : l3 = false := ff
      clear ff gg
      subst t0 t2
      subst f0
      simp only [cond_true, cond_false]
      go_simp
      exact hK _ _ ⟨true, l1, true, true, l4, l5, EA, rfl, (by simp only [cond_true, List.setIfInBounds_toArray, List.set_cons_zero, List.set_cons_succ]), hb0, hq, hr⟩
    case s4 =>
      intro ff gg KK hK
      have f0 : l4 = false := ff
      clear ff gg
      subst f0
      simp only [cond_false]
      go_simp
      exact hK _ _ ⟨l0, l1, l2, l3, true, l5, V1.heap.size, rfl, (by simp only [cond_true, List.setIfInBounds_toArray, List.set_cons_zero, List.set_cons_succ]), by (repeat (first | exact Below.refl _ _ | refine bl_drewN ?_ | refine bl_drew ?_ | refine bl_alloc ?_ _ | refine Below.setCell ?_ (by (first | (simp; done) | (simp; omega) | omega)) _ | refine bl_step (by assumption) ?_)), (fun _ => rfl), (fun _ => Room6.alloc hb0 _ _ _ _ _ _ _ _ _ _ _ _ _ _ hq)⟩
    case s5 =>
      intro ff gg KK hK
      have t4 : l4 = true := gg ⟨4, .data⟩ (by simp) (by rfl)
      have t3 : l3 = true := gg ⟨3, .data⟩ (by simp) (by rfl)
      have f0 : l5 = false := ff
      clear ff gg
      subst t4 t3
      subst f0
      simp only [cond_true]
      have rr := hr rfl
      obtain ⟨m1, m2, fz0, fz1, fz2, fz3, fz4, fz5, y0, y1, y2, y3, y4, y5, cz0, cz1, cz2, cz3, cz4, cz5, m7⟩ := rr
      go_simp
      exact hK _ _ ⟨l0, l1, l2, true, true, true, EA, rfl, (by simp only [cond_true, List.setIfInBounds_toArray, List.set_cons_zero, List.set_cons_succ]), ((((((hb0.setCell m1 _).setCell m1 _).setCell m1 _).setCell m1 _).setCell m1 _).setCell m1 _), (fun _ => rfl), (fun _ => (hr rfl).store _ _ _ _ _ _ _)⟩
  case hdone =>
    intro LL aa V1 h hd
    obtain ⟨l0, l1, l2, l3, l4, l5, EA, hL, ha, hb0, hq, hr⟩ := h
    rw [hL] at hd
    have t0 : l0 = true := hd 0 (by decide)
    have t1 : l1 = true := hd 1 (by decide)
    have t2 : l2 = true := hd 2 (by decide)
    have t3 : l3 = true := hd 3 (by decide)
    have t4 : l4 = true := hd 4 (by decide)
    have t5 : l5 = true := hd 5 (by decide)
    clear hd hL hq
    subst t0 t1 t2 t3 t4 t5
    simp only [cond_true, List.setIfInBounds_toArray, List.set_cons_zero, List.set_cons_succ] at ha
    subst ha
    obtain ⟨EAg, EAl, _, _, _, _, _, _, y0, y1, y2, y3, y4, y5, EAc0, EAc1, EAc2, EAc3, EAc4, EAc5, hy⟩ := hr rfl
    obtain ⟨rfl, rfl, rfl, rfl, rfl, rfl⟩ := hy rfl
    clear hr
    have hw2 : Below w.heap.size w V1 := bl_step hb0 hw
    replace a0 := cell_later hb0 a0
    replace a1 := cell_later hb0 a1
    clear hb0 hw
    go_wp2
    refine wp_region_inv (fun a0 LL aa V2 => ∃ (l0 l1 l2 l3 l4 l5 l6 : Bool) (EB : Nat), LL = #[l0, l1, l2, l3, l4, l5, l6] ∧ aa = { a0 with tmps := ((((((a0.tmps.setIfInBounds 48 (cond l0 (.agg #[.int .i64 (0), .int .i64 (l)]) (undef))).setIfInBounds 49 (cond l1 (.agg #[.int .i64 (5400000), .int .i64 (5400000)]) (undef))).setIfInBounds 50 (cond l2 (.int .i64 (q)) (undef))).setIfInBounds 51 (cond l3 (.agg #[.int .i64 (q), .int .i64 (q)]) (undef))).setIfInBounds 52 (cond l4 (.agg #[.int .i64 (0), .int .i64 (l), .int .i64 (5400000), .int .i64 (5400000), .int .i64 (q), .int .i64 (q)]) (undef))).setIfInBounds 11 (cond l5 (.pointer (some ⟨EB, 0, none⟩)) (undef))) } ∧ Below V1.heap.size V1 V2 ∧ (l6 = true → l5 = true) ∧ (l5 = true → Room6 V1 V2 EB l6 (0) (l) (5400000) (5400000) (q) (q))) (by kernel_rfl) (by kernel_rfl) ?h0 ?hsize ?hdone ?hstep
    case h0 =>
      refine ⟨false, false, false, false, false, false, false, 0, rfl, ?_, by (repeat (first | exact Below.refl _ _ | refine bl_drewN ?_ | refine bl_drew ?_ | refine bl_alloc ?_ _ | refine Below.setCell ?_ (by (first | (simp; done) | (simp; omega) | omega)) _ | refine bl_step (by assumption) ?_)), (fun h => by cases h), (fun h => by cases h)⟩
      simp only [cond_false, List.setIfInBounds_toArray, List.set_cons_zero, List.set_cons_succ]
    case hsize =>
      intro LL aa V2 h
      obtain ⟨l0, l1, l2, l3, l4, l5, l6, EB, hL, _⟩ := h
      rw [hL]
      rfl
    case hstep =>
      intro LL aa V2 h
      obtain ⟨l0, l1, l2, l3, l4, l5, l6, EB, hL, ha, hb0, hq, hr⟩ := h
      simp only [List.setIfInBounds_toArray, List.set_cons_zero, List.set_cons_succ] at ha
      subst hL
      subst ha
      refine ⟨?s0, ?s1, ?s2, ?s3, ?s4, ?s5, ?s6, trivial⟩
      case s0 =>
        intro ff gg KK hK
        have f0 : l0 = false := ff
        clear ff gg
        subst f0
        simp only [cond_false]
        have j0 := cell_later hb0 a0
        have j1 := cell_later hb0 a1
        go_simp
        exact hK _ _ ⟨true, l1, l2, l3, l4, l5, l6, EB, rfl, (by simp only [cond_true, List.setIfInBounds_toArray, List.set_cons_zero, List.set_cons_succ]), hb0, hq, hr⟩
      case s1 =>
        intro ff gg KK hK
        have f0 : l1 = false := ff
        clear ff gg
        subst f0
        simp only [cond_false]
        go_simp
        go_at_call 11
        (first | (with_reducible refine (OZ.out _).mono ?_))
        rintro e w' ⟨rfl, hb⟩
        exact hK _ _ ⟨l0, true, l2, l3, l4, l5, l6, EB, rfl, (by simp only [cond_true, List.setIfInBounds_toArray, List.set_cons_zero, List.set_cons_succ]), bl_step hb hb0, hq, (fun t => (hr t).later hb)⟩
      case s2 =>
        intro ff gg KK hK
        have f0 : l2 = false := ff
        clear ff gg
        subst f0
        simp only [cond_false]
        go_simp
        exact hK _ _ ⟨l0, l1, true, l3, l4, l5, l6, EB, rfl, (by simp only [cond_true, List.setIfInBounds_toArray, List.set_cons_zero, List.set_cons_succ]), hb0, hq, hr⟩
      case s3 =>
        intro ff gg KK hK
        have t2 : l2 = true := gg ⟨2, .data⟩ (by simp) (by rfl)
        have t1 : l1 = true := gg ⟨1, .chain⟩ (by simp) (by rfl)
        have f0 : l3 = false := ff
        clear ff gg
        subst t2 t1
        subst f0
        simp only [cond_true, cond_false]
        go_simp
        go_at_call 11
        (first | (with_reducible refine (OQ.out _).mono ?_))
        rintro e w' ⟨rfl, hb⟩
        exact hK _ _ ⟨l0, true, true, true, l4, l5, l6, EB, rfl, (by simp only [cond_true, List.setIfInBounds_toArray, List.set_cons_zero, List.set_cons_succ]), bl_step hb hb0, hq, (fun t => (hr t).later hb)⟩
      case s4 =>
        intro ff gg KK hK
        have t0 : l0 = true := gg ⟨0, .data⟩ (by simp) (by rfl)
        have t1 : l1 = true := gg ⟨1, .data⟩ (by simp) (by rfl)
        have t3 : l3 = true := gg ⟨3, .data⟩ (by simp) (by rfl)
        have f0 : l4 = false := ff
        clear ff gg
        subst t0 t1 t3
        subst f0
        simp only [cond_true, cond_false]
        go_simp
        exact hK _ _ ⟨true, true, l2, true, true, l5, l6, EB, rfl, (by simp only [cond_true, List.setIfInBounds_toArray, List.set_cons_zero, List.set_cons_succ]), hb0, hq, hr⟩
      case s5 =>
        intro ff gg KK hK
        have f0 : l5 = false := ff
        clear ff gg
        subst f0
        simp only [cond_false]
        go_simp
        exact hK _ _ ⟨l0, l1, l2, l3, l4, true, l6, V2.heap.size, rfl, (by simp only [cond_true, List.setIfInBounds_toArray, List.set_cons_zero, List.set_cons_succ]), by (repeat (first | exact Below.refl _ _ | refine bl_drewN ?_ | refine bl_drew ?_ | refine bl_alloc ?_ _ | refine Below.setCell ?_ (by (first | (simp; done) | (simp; omega) | omega)) _ | refine bl_step (by assumption) ?_)), (fun _ => rfl), (fun _ => Room6.alloc hb0 _ _ _ _ _ _ _ _ _ _ _ _ _ _ hq)⟩
      case s6 =>
        intro ff gg KK hK
        have t5 : l5 = true := gg ⟨5, .data⟩ (by simp) (by rfl)
        have t4 : l4 = true := gg ⟨4, .data⟩ (by simp) (by rfl)
        have f0 : l6 = false := ff
        clear ff gg
        subst t5 t4
        subst f0
        simp only [cond_true]
        have rr := hr rfl
        obtain ⟨m1, m2, fz0, fz1, fz2, fz3, fz4, fz5, y0, y1, y2, y3, y4, y5, cz0, cz1, cz2, cz3, cz4, cz5, m7⟩ := rr
        go_simp
        exact hK _ _ ⟨l0, l1, l2, l3, true, true, true, EB, rfl, (by simp only [cond_true, List.setIfInBounds_toArray, List.set_cons_zero, List.set_cons_succ]), ((((((hb0.setCell m1 _).setCell m1 _).setCell m1 _).setCell m1 _).setCell m1 _).setCell m1 _), (fun _ => rfl), (fun _ => (hr rfl).store _ _ _ _ _ _ _)⟩
    case hdone =>
      intro LL aa V2 h hd
      obtain ⟨l0, l1, l2, l3, l4, l5, l6, EB, hL, ha, hb0, hq, hr⟩ := h
      rw [hL] at hd
      have t0 : l0 = true := hd 0 (by decide)
      have t1 : l1 = true := hd 1 (by decide)
      have t2 : l2 = true := hd 2 (by decide)
      have t3 : l3 = true := hd 3 (by decide)
      have t4 : l4 = true := hd 4 (by decide)
      have t5 : l5 = true := hd 5 (by decide)
      have t6 : l6 = true := hd 6 (by decide)
      clear hd hL hq
      subst t0 t1 t2 t3 t4 t5 t6
      simp only [cond_true, List.setIfInBounds_toArray, List.set_cons_zero, List.set_cons_succ] at ha
      subst ha
      obtain ⟨EBg, EBl, _, _, _, _, _, _, y0, y1, y2, y3, y4, y5, EBc0, EBc1, EBc2, EBc3, EBc4, EBc5, hy⟩ := hr rfl
      obtain ⟨rfl, rfl, rfl, rfl, rfl, rfl⟩ := hy rfl
      clear hr
      have hw3 : Below w.heap.size w V2 := bl_step hb0 hw2
      replace EAc0 := cell_later hb0 EAc0
      replace EAc1 := cell_later hb0 EAc1
      replace EAc2 := cell_later hb0 EAc2
      replace EAc3 := cell_later hb0 EAc3
      replace EAc4 := cell_later hb0 EAc4
      replace EAc5 := cell_later hb0 EAc5
      have lA : EA < V2.heap.size := World.block_lt_of_cell? _ _ EAc0
      have lB : EB < V2.heap.size := World.block_lt_of_cell? _ _ EBc0
      clear hb0 hw2 a0 a1
      go_wp2
      go_loopw [12, 57] (fun lv iv wr => ∃ k : Nat, iv = .int .i64 k ∧ k ≤ m ∧ wr.ownsRow V2.heap.size 27 6 lv (2 * k) (sqL p q l k) ∧ Below V2.heap.size V2 wr) (fun _ iv _ => 40 - (intOf iv).toNat)
      case atStart => exact ⟨0, rfl, Nat.zero_le _, World.ownsRow_nil _ _ _ _, Below.refl _ _⟩
      case round =>
        obtain ⟨k, rfl, hk, hown, hX⟩ := hrel
        have hzX := hX.size
        by_cases hkn : k < m
        · have q5 : decide ((k : Int) < 1 + r) = true := by simp; omega
          have c0 := cell_later hX EAc0
          have c1 := cell_later hX EAc1
          have c2 := cell_later hX EAc2
          have c3 := cell_later hX EAc3
          have c4 := cell_later hX EAc4
          have c5 := cell_later hX EAc5
          have d0 := cell_later hX EBc0
          have d1 := cell_later hX EBc1
          have d2 := cell_later hX EBc2
          have d3 := cell_later hX EBc3
          have d4 := cell_later hX EBc4
          have d5 := cell_later hX EBc5
          have lA2 : EA < wr.heap.size := by omega
          have lB2 : EB < wr.heap.size := by omega
          go_wp2_with (at_builtin; refine wpList_append_own_at _ rfl _ _ 39 rfl V2.heap.size 27 i0 (.agg #[.int .i64 0, .int .i64 0, .int .i64 0, .int .i64 0, .int .i64 0, .int .i64 0]) 6 48 Try.underlying39 hi hz0 hz1 hz2 rfl (by decide) _ (2 * k) (sqL p q l k) rfl (hown.alloc _) ⟨wr.heap.size, 0, none⟩ 2 2 [.int .i64 0, .int .i64 l, .int .i64 0, .int .i64 0, .int .i64 p, .int .i64 p, .int .i64 0, .int .i64 l, .int .i64 5400000, .int .i64 5400000, .int .i64 q, .int .i64 q] rfl rfl (news12 _ _ _ _ _ _ _ _ _ _ _ _ _ _) (one12 _ _ _) (by unfold maxLen; omega) (by omega) (by simp; omega) ?_; intro lv1 w' hown1 hg hnil hob)
          have hVA : Below V2.heap.size V2 w' := Below.grown (bl_alloc hX _) hg (bl_alloc hX _).size (fun j hj => (hown.lt j hj).1)
          clear hg hnil hob
          go_wp2
          exact ⟨⟨k + 1, by go_num, by omega, hown1, hVA⟩, by simp [intOf]; omega⟩
        · have q5 : decide ((k : Int) < 1 + r) = false := by simp; omega
          have e : m = k := by omega
          subst e
          rcases hown.2 with ⟨_, hn0⟩ | ⟨g, cap, cur, rfl, hg2, _⟩
          · omega
          have HL := hidden (show LnS wr g (2 * m) (sqF p q l) from fun i j hi hj => (hown.cellAt (i * 6 + j) (by omega)).trans (sqL_get p q l hi hj))
          have c0 := cell_later hX EAc0
          have c1 := cell_later hX EAc1
          have c2 := cell_later hX EAc2
          have c3 := cell_later hX EAc3
          have c4 := cell_later hX EAc4
          have c5 := cell_later hX EAc5
          have d0 := cell_later hX EBc0
          have d1 := cell_later hX EBc1
          have d2 := cell_later hX EBc2
          have d3 := cell_later hX EBc3
          have d4 := cell_later hX EBc4
          have d5 := cell_later hX EBc5
          have lA2 : EA < wr.heap.size := by omega
          have lB2 : EB < wr.heap.size := by omega
          have hw4 : Below w.heap.size w wr := bl_step hX hw3
          clear hown EAc0 EAc1 EAc2 EAc3 EAc4 EAc5 EBc0 EBc1 EBc2 EBc3 EBc4 EBc5
          have qn : ((2 * m : Nat) == (2 * m : Nat)) = true := by simp
          go_wp2_with (first | (go_at_call 12; ((with_reducible refine (CR.out _).mono ?_); rintro e w' ⟨rfl, hb⟩); (try replace hb := below_undrew hb); (try replace hb := below_undrewN hb); obtain ⟨hcell, hfroz⟩ := bcell hb; have hz := hb.size; (try simp at hz); (try (have z6 := Nat.lt_of_lt_of_le z7 hz)); (try (have z7 := Nat.lt_of_lt_of_le z8 hz)); (try (have z8 := Nat.lt_of_lt_of_le z9 hz)); (try (have z9 := Nat.lt_of_lt_of_le (Nat.lt_succ_self _) hz)); (try (have z0 : w.heap.size < w'.heap.size := by omega)); (try (have z1 : w.heap.size + 1 < w'.heap.size := by omega)); (try (have z2 : w.heap.size + 1 + 1 < w'.heap.size := by omega)); (try (have z3 : w.heap.size + 1 + 1 + 1 < w'.heap.size := by omega)); (try (have y1 : w1.heap.size < w'.heap.size := by omega)); (try (have y2 : w2.heap.size < w'.heap.size := by omega)); (try (have y3 : w3.heap.size < w'.heap.size := by omega)); (try (have y4 : w4.heap.size < w'.heap.size := by omega)); (try (have y5 : w5.heap.size < w'.heap.size := by omega)); (try (have y6 : w6.heap.size < w'.heap.size := by omega)); (try (have x1 : w1.heap.size + 1 < w'.heap.size := by omega)); (try (have x2 : w2.heap.size + 1 < w'.heap.size := by omega)); (try (have x3 : w3.heap.size + 1 < w'.heap.size := by omega)); (try (have x4 : w4.heap.size + 1 < w'.heap.size := by omega)); (try (have x5 : w5.heap.size + 1 < w'.heap.size := by omega)); (try (have x6 : w6.heap.size + 1 < w'.heap.size := by omega)); (try (have y7 : w7.heap.size < w'.heap.size := by omega)); (try (have y8 : w8.heap.size < w'.heap.size := by omega)); (try (have y9 : w9.heap.size < w'.heap.size := by omega)); (try (have z10 : w1.heap.size < w'.heap.size + 1 := by omega)); (try (have z20 : w2.heap.size < w'.heap.size + 1 := by omega)); (try (have z30 : w3.heap.size < w'.heap.size + 1 := by omega)); (try (have z40 : w4.heap.size < w'.heap.size + 1 := by omega)); (try (have z50 : w5.heap.size < w'.heap.size + 1 := by omega)); (try (have z60 : w6.heap.size < w'.heap.size + 1 := by omega)); (try (have z70 : w7.heap.size < w'.heap.size + 1 := by omega)); (try (have z80 : w8.heap.size < w'.heap.size + 1 := by omega)); obtain ⟨w4, rfl⟩ : ∃ v, v = w' := ⟨_, rfl⟩) | (go_at_call 13; ((with_reducible refine (LS.out _ _ _ ?ql).mono ?_); (case ql => exact HL.out.later (by (repeat (first | (with_reducible exact Below.refl _ _) | (with_reducible refine Below.setCell ?_ (by (first | (simp; done) | (simp; omega) | omega)) _) | (with_reducible refine bl_alloc ?_ _) | (with_reducible refine bl_drewN ?_) | (with_reducible refine bl_drew ?_) | (with_reducible refine bl_step (by assumption) ?_))))); rintro e w' ⟨⟨gg, cp, rfl, hc0⟩, hb⟩); have HC := hidden hc0; clear hc0; (try replace hb := below_undrew hb); (try replace hb := below_undrewN hb); obtain ⟨hcell, hfroz⟩ := bcell hb; have hz := hb.size; (try simp at hz); (try (have z6 := Nat.lt_of_lt_of_le z7 hz)); (try (have z7 := Nat.lt_of_lt_of_le z8 hz)); (try (have z8 := Nat.lt_of_lt_of_le z9 hz)); (try (have z9 := Nat.lt_of_lt_of_le (Nat.lt_succ_self _) hz)); (try (have z0 : w.heap.size < w'.heap.size := by omega)); (try (have z1 : w.heap.size + 1 < w'.heap.size := by omega)); (try (have z2 : w.heap.size + 1 + 1 < w'.heap.size := by omega)); (try (have z3 : w.heap.size + 1 + 1 + 1 < w'.heap.size := by omega)); (try (have y1 : w1.heap.size < w'.heap.size := by omega)); (try (have y2 : w2.heap.size < w'.heap.size := by omega)); (try (have y3 : w3.heap.size < w'.heap.size := by omega)); (try (have y4 : w4.heap.size < w'.heap.size := by omega)); (try (have y5 : w5.heap.size < w'.heap.size := by omega)); (try (have y6 : w6.heap.size < w'.heap.size := by omega)); (try (have x1 : w1.heap.size + 1 < w'.heap.size := by omega)); (try (have x2 : w2.heap.size + 1 < w'.heap.size := by omega)); (try (have x3 : w3.heap.size + 1 < w'.heap.size := by omega)); (try (have x4 : w4.heap.size + 1 < w'.heap.size := by omega)); (try (have x5 : w5.heap.size + 1 < w'.heap.size := by omega)); (try (have x6 : w6.heap.size + 1 < w'.heap.size := by omega)); (try (have y7 : w7.heap.size < w'.heap.size := by omega)); (try (have y8 : w8.heap.size < w'.heap.size := by omega)); (try (have y9 : w9.heap.size < w'.heap.size := by omega)); (try (have z10 : w1.heap.size < w'.heap.size + 1 := by omega)); (try (have z20 : w2.heap.size < w'.heap.size + 1 := by omega)); (try (have z30 : w3.heap.size < w'.heap.size + 1 := by omega)); (try (have z40 : w4.heap.size < w'.heap.size + 1 := by omega)); (try (have z50 : w5.heap.size < w'.heap.size + 1 := by omega)); (try (have z60 : w6.heap.size < w'.heap.size + 1 := by omega)); (try (have z70 : w7.heap.size < w'.heap.size + 1 := by omega)); (try (have z80 : w8.heap.size < w'.heap.size + 1 := by omega)); obtain ⟨w5, rfl⟩ : ∃ v, v = w' := ⟨_, rfl⟩) | (go_at_call 14; ((with_reducible refine (contains_none gg (2 * m) cp _ (by omega) ?hh).mono ?_); (case hh => exact hidden fun i hi => cell_later (by (repeat (first | (with_reducible exact Below.refl _ _) | (with_reducible refine Below.setCell ?_ (by (first | (simp; done) | (simp; omega) | omega)) _) | (with_reducible refine bl_alloc ?_ _) | (with_reducible refine bl_drewN ?_) | (with_reducible refine bl_drew ?_) | (with_reducible refine bl_step (by assumption) ?_))) : Below w5.heap.size w5 _) (HC.out i hi)); rintro e w' ⟨rfl, hb⟩); (try replace hb := below_undrew hb); (try replace hb := below_undrewN hb); obtain ⟨hcell, hfroz⟩ := bcell hb; have hz := hb.size; (try simp at hz); (try (have z6 := Nat.lt_of_lt_of_le z7 hz)); (try (have z7 := Nat.lt_of_lt_of_le z8 hz)); (try (have z8 := Nat.lt_of_lt_of_le z9 hz)); (try (have z9 := Nat.lt_of_lt_of_le (Nat.lt_succ_self _) hz)); (try (have z0 : w.heap.size < w'.heap.size := by omega)); (try (have z1 : w.heap.size + 1 < w'.heap.size := by omega)); (try (have z2 : w.heap.size + 1 + 1 < w'.heap.size := by omega)); (try (have z3 : w.heap.size + 1 + 1 + 1 < w'.heap.size := by omega)); (try (have y1 : w1.heap.size < w'.heap.size := by omega)); (try (have y2 : w2.heap.size < w'.heap.size := by omega)); (try (have y3 : w3.heap.size < w'.heap.size := by omega)); (try (have y4 : w4.heap.size < w'.heap.size := by omega)); (try (have y5 : w5.heap.size < w'.heap.size := by omega)); (try (have y6 : w6.heap.size < w'.heap.size := by omega)); (try (have x1 : w1.heap.size + 1 < w'.heap.size := by omega)); (try (have x2 : w2.heap.size + 1 < w'.heap.size := by omega)); (try (have x3 : w3.heap.size + 1 < w'.heap.size := by omega)); (try (have x4 : w4.heap.size + 1 < w'.heap.size := by omega)); (try (have x5 : w5.heap.size + 1 < w'.heap.size := by omega)); (try (have x6 : w6.heap.size + 1 < w'.heap.size := by omega)); (try (have y7 : w7.heap.size < w'.heap.size := by omega)); (try (have y8 : w8.heap.size < w'.heap.size := by omega)); (try (have y9 : w9.heap.size < w'.heap.size := by omega)); (try (have z10 : w1.heap.size < w'.heap.size + 1 := by omega)); (try (have z20 : w2.heap.size < w'.heap.size + 1 := by omega)); (try (have z30 : w3.heap.size < w'.heap.size + 1 := by omega)); (try (have z40 : w4.heap.size < w'.heap.size + 1 := by omega)); (try (have z50 : w5.heap.size < w'.heap.size + 1 := by omega)); (try (have z60 : w6.heap.size < w'.heap.size + 1 := by omega)); (try (have z70 : w7.heap.size < w'.heap.size + 1 := by omega)); (try (have z80 : w8.heap.size < w'.heap.size + 1 := by omega)); obtain ⟨w6, rfl⟩ : ∃ v, v = w' := ⟨_, rfl⟩))
          refine name_code ?_
          intro w' hb
          (try replace hb := below_undrew hb); (try replace hb := below_undrewN hb); obtain ⟨hcell, hfroz⟩ := bcell hb; have hz := hb.size; (try simp at hz); (try (have z6 := Nat.lt_of_lt_of_le z7 hz)); (try (have z7 := Nat.lt_of_lt_of_le z8 hz)); (try (have z8 := Nat.lt_of_lt_of_le z9 hz)); (try (have z9 := Nat.lt_of_lt_of_le (Nat.lt_succ_self _) hz)); (try (have z0 : w.heap.size < w'.heap.size := by omega)); (try (have z1 : w.heap.size + 1 < w'.heap.size := by omega)); (try (have z2 : w.heap.size + 1 + 1 < w'.heap.size := by omega)); (try (have z3 : w.heap.size + 1 + 1 + 1 < w'.heap.size := by omega)); (try (have y1 : w1.heap.size < w'.heap.size := by omega)); (try (have y2 : w2.heap.size < w'.heap.size := by omega)); (try (have y3 : w3.heap.size < w'.heap.size := by omega)); (try (have y4 : w4.heap.size < w'.heap.size := by omega)); (try (have y5 : w5.heap.size < w'.heap.size := by omega)); (try (have y6 : w6.heap.size < w'.heap.size := by omega)); (try (have x1 : w1.heap.size + 1 < w'.heap.size := by omega)); (try (have x2 : w2.heap.size + 1 < w'.heap.size := by omega)); (try (have x3 : w3.heap.size + 1 < w'.heap.size := by omega)); (try (have x4 : w4.heap.size + 1 < w'.heap.size := by omega)); (try (have x5 : w5.heap.size + 1 < w'.heap.size := by omega)); (try (have x6 : w6.heap.size + 1 < w'.heap.size := by omega)); (try (have y7 : w7.heap.size < w'.heap.size := by omega)); (try (have y8 : w8.heap.size < w'.heap.size := by omega)); (try (have y9 : w9.heap.size < w'.heap.size := by omega)); (try (have z10 : w1.heap.size < w'.heap.size + 1 := by omega)); (try (have z20 : w2.heap.size < w'.heap.size + 1 := by omega)); (try (have z30 : w3.heap.size < w'.heap.size + 1 := by omega)); (try (have z40 : w4.heap.size < w'.heap.size + 1 := by omega)); (try (have z50 : w5.heap.size < w'.heap.size + 1 := by omega)); (try (have z60 : w6.heap.size < w'.heap.size + 1 := by omega)); (try (have z70 : w7.heap.size < w'.heap.size + 1 := by omega)); (try (have z80 : w8.heap.size < w'.heap.size + 1 := by omega))
          have hw5 : Below w.heap.size w w' := by (repeat (first | (with_reducible exact Below.refl _ _) | (with_reducible refine Below.setCell ?_ (by (first | (simp; done) | (simp; omega) | omega)) _) | (with_reducible refine bl_alloc ?_ _) | (with_reducible refine bl_drewN ?_) | (with_reducible refine bl_drew ?_) | (with_reducible refine bl_step (by assumption) ?_)))
          have x0_ : w'.cell? ⟨w4.heap.size, 0, none⟩ = some (.int .i64 (p)) := by simp [go_sem, *]
          have x1_ : w'.cell? ⟨w4.heap.size, 1, none⟩ = some (.int .i64 (p)) := by simp [go_sem, *]
          have x2_ : w'.cell? ⟨w4.heap.size, 2, none⟩ = some (.int .i64 (R)) := by simp [go_sem, *]
          have x3_ : w'.cell? ⟨w4.heap.size, 3, none⟩ = some (.int .i64 (R)) := by simp [go_sem, *]
          have y0_ : w'.cell? ⟨w5.heap.size, 0, none⟩ = some (.int .i64 (p)) := by simp [go_sem, *]
          have y1_ : w'.cell? ⟨w5.heap.size, 1, none⟩ = some (.int .i64 (R)) := by simp [go_sem, *]
          clear hcell hfroz hz HC
          have wl : IntKind.i64.wrap (l + q) = l + q := by rw [IntKind.wrap_i64]; omega
          obtain ⟨U2, rfl⟩ : ∃ v, v = w' := ⟨_, rfl⟩
          refine wp_region_inv (fun a0 LL aa vv => ∃ (l0 l1 l2 l3 l4 l5 l6 l7 l8 l9 l10 l11 l12 l13 l14 l15 l16 l17 l18 l19 l20 l21 l22 l23 l24 l25 l26 l27 l28 l29 l30 l31 l32 l33 l34 l35 l36 l37 l38 : Bool) (uu : World), LL = #[l0, l1, l2, l3, l4, l5, l6, l7, l8, l9, l10, l11, l12, l13, l14, l15, l16, l17, l18, l19, l20, l21, l22, l23, l24, l25, l26, l27, l28, l29, l30, l31, l32, l33, l34, l35, l36, l37, l38] ∧ aa = { a0 with tmps := ((a0.tmps.toList.set 8 (cond l38 (.bool true) (.bool false))).take 94 ++ ([cond l0 (.pointer (some ⟨w4.heap.size, 0, none⟩)) (undef), cond l1 (.agg #[.int .i64 (p), .int .i64 (p)]) (undef), cond l2 (.int .i64 (p)) (undef), cond l3 (.agg #[.int .i64 (p), .int .i64 (p)]) (undef), cond l4 (.bool true) (undef), cond l5 (.bool true) (undef), cond l6 (.pointer (some ⟨w5.heap.size, 0, none⟩)) (undef), cond l7 (.int .i64 (p)) (undef), cond l8 (.int .i64 (p)) (undef), cond l9 (.bool true) (undef), cond l10 (.bool true) (undef), cond l11 (.bool true) (undef), cond l12 (.pointer (some ⟨w4.heap.size, 2, none⟩)) (undef), cond l13 (.pointer (some ⟨w4.heap.size, 2, none⟩)) (undef), cond l14 (.int .i64 (R)) (undef), cond l15 (.pointer (some ⟨w4.heap.size, 2, none⟩)) (undef), cond l16 (.pointer (some ⟨w4.heap.size, 3, none⟩)) (undef), cond l17 (.int .i64 (R)) (undef), cond l18 (.bool true) (undef), cond l19 (.bool true) (undef), cond l20 (.bool true) (undef), cond l21 (.pointer (some ⟨w5.heap.size, 1, none⟩)) (undef), cond l22 (.int .i64 (R)) (undef), cond l23 (.pointer (some ⟨w4.heap.size, 2, none⟩)) (undef), cond l24 (.pointer (some ⟨w4.heap.size, 2, none⟩)) (undef), cond l25 (.int .i64 (R)) (undef), cond l26 (.bool true) (undef), cond l27 (.bool true) (undef), cond l28 (.bool true) (undef), cond l29 (.int .i64 (l)) (undef), cond l30 (.int .i64 (q)) (undef), cond l31 (.int .i64 (l + q)) (undef), cond l32 (.int .i64 (X)) (undef), cond l33 (.pointer (some ⟨w5.heap.size, 1, none⟩)) (undef), cond l34 (.int .i64 (R)) (undef), cond l35 (.int .i64 (X)) (undef), cond l36 (.bool true) (undef), cond l37 (.bool true) (undef)] ++ a0.tmps.toList.drop 132)).toArray } ∧ Below U2.heap.size U2 uu ∧ vv = uu) (by kernel_rfl) (by kernel_rfl) ?h0 ?hsize ?hdone ?hstep
          case h0 =>
            refine ⟨false, false, false, false, false, false, false, false, false, false, false, false, false, false, false, false, false, false, false, false, false, false, false, false, false, false, false, false, false, false, false, false, false, false, false, false, false, false, false, _, rfl, ?_, by (repeat (first | exact Below.refl _ _ | refine bl_drewN ?_ | refine bl_drew ?_ | refine bl_alloc ?_ _ | refine Below.setCell ?_ (by (first | (simp; done) | (simp; omega) | omega)) _ | refine bl_step (by assumption) ?_)), rfl⟩
            kernel_rfl
          case hsize =>
            intro LL aa vv h
            obtain ⟨l0, h⟩ := h
            obtain ⟨l1, h⟩ := h
            obtain ⟨l2, h⟩ := h
            obtain ⟨l3, h⟩ := h
            obtain ⟨l4, h⟩ := h
            obtain ⟨l5, h⟩ := h
            obtain ⟨l6, h⟩ := h
            obtain ⟨l7, h⟩ := h
            obtain ⟨l8, h⟩ := h
            obtain ⟨l9, h⟩ := h
            obtain ⟨l10, h⟩ := h
            obtain ⟨l11, h⟩ := h
            obtain ⟨l12, h⟩ := h
            obtain ⟨l13, h⟩ := h
            obtain ⟨l14, h⟩ := h
            obtain ⟨l15, h⟩ := h
            obtain ⟨l16, h⟩ := h
            obtain ⟨l17, h⟩ := h
            obtain ⟨l18, h⟩ := h
            obtain ⟨l19, h⟩ := h
            obtain ⟨l20, h⟩ := h
            obtain ⟨l21, h⟩ := h
            obtain ⟨l22, h⟩ := h
            obtain ⟨l23, h⟩ := h
            obtain ⟨l24, h⟩ := h
            obtain ⟨l25, h⟩ := h
            obtain ⟨l26, h⟩ := h
            obtain ⟨l27, h⟩ := h
            obtain ⟨l28, h⟩ := h
            obtain ⟨l29, h⟩ := h
            obtain ⟨l30, h⟩ := h
            obtain ⟨l31, h⟩ := h
            obtain ⟨l32, h⟩ := h
            obtain ⟨l33, h⟩ := h
            obtain ⟨l34, h⟩ := h
            obtain ⟨l35, h⟩ := h
            obtain ⟨l36, h⟩ := h
            obtain ⟨l37, h⟩ := h
            obtain ⟨l38, h⟩ := h
            obtain ⟨uu, h⟩ := h
            obtain ⟨hL, _⟩ := h
            rw [hL]
            rfl
          case hstep =>
            intro LL aa vv h
            obtain ⟨l0, h⟩ := h
            obtain ⟨l1, h⟩ := h
            obtain ⟨l2, h⟩ := h
            obtain ⟨l3, h⟩ := h
            obtain ⟨l4, h⟩ := h
            obtain ⟨l5, h⟩ := h
            obtain ⟨l6, h⟩ := h
            obtain ⟨l7, h⟩ := h
            obtain ⟨l8, h⟩ := h
            obtain ⟨l9, h⟩ := h
            obtain ⟨l10, h⟩ := h
            obtain ⟨l11, h⟩ := h
            obtain ⟨l12, h⟩ := h
            obtain ⟨l13, h⟩ := h
            obtain ⟨l14, h⟩ := h
            obtain ⟨l15, h⟩ := h
            obtain ⟨l16, h⟩ := h
            obtain ⟨l17, h⟩ := h
            obtain ⟨l18, h⟩ := h
            obtain ⟨l19, h⟩ := h
            obtain ⟨l20, h⟩ := h
            obtain ⟨l21, h⟩ := h
            obtain ⟨l22, h⟩ := h
            obtain ⟨l23, h⟩ := h
            obtain ⟨l24, h⟩ := h
            obtain ⟨l25, h⟩ := h
            obtain ⟨l26, h⟩ := h
            obtain ⟨l27, h⟩ := h
            obtain ⟨l28, h⟩ := h
            obtain ⟨l29, h⟩ := h
            obtain ⟨l30, h⟩ := h
            obtain ⟨l31, h⟩ := h
            obtain ⟨l32, h⟩ := h
            obtain ⟨l33, h⟩ := h
            obtain ⟨l34, h⟩ := h
            obtain ⟨l35, h⟩ := h
            obtain ⟨l36, h⟩ := h
            obtain ⟨l37, h⟩ := h
            obtain ⟨l38, h⟩ := h
            obtain ⟨uu, h⟩ := h
            obtain ⟨hL, h⟩ := h
            obtain ⟨ha, h⟩ := h
            obtain ⟨hu, hv⟩ := h
            simp only [List.take_succ_cons, List.take_zero, List.cons_append, List.nil_append, List.drop_succ_cons, List.drop_zero, List.set_cons_zero, List.set_cons_succ] at ha
            subst hL
            subst ha
            refine ⟨?s0, ?s1, ?s2, ?s3, ?s4, ?s5, ?s6, ?s7, ?s8, ?s9, ?s10, ?s11, ?s12, ?s13, ?s14, ?s15, ?s16, ?s17, ?s18, ?s19, ?s20, ?s21, ?s22, ?s23, ?s24, ?s25, ?s26, ?s27, ?s28, ?s29, ?s30, ?s31, ?s32, ?s33, ?s34, ?s35, ?s36, ?s37, ?s38, trivial⟩
            case s0 =>
              intro ff gg KK hK
              have f0 : l0 = false := ff
              subst hv
              clear ff gg
              subst f0
              simp only [cond_false]
              go_simp
              exact hK _ _ ⟨true, l1, l2, l3, l4, l5, l6, l7, l8, l9, l10, l11, l12, l13, l14, l15, l16, l17, l18, l19, l20, l21, l22, l23, l24, l25, l26, l27, l28, l29, l30, l31, l32, l33, l34, l35, l36, l37, l38, _, rfl, (by kernel_rfl), hu, rfl⟩
            case s1 =>
              intro ff gg KK hK
              have f0 : l1 = false := ff
              subst hv
              have t0 : l0 = true := gg ⟨0, .data⟩ (by simp) (by rfl)
              clear ff gg
              subst t0
              subst f0
              simp only [cond_true, cond_false]
              have j0 := cell_later hu x0_
              have j1 := cell_later hu x1_
              go_simp
              exact hK _ _ ⟨true, true, l2, l3, l4, l5, l6, l7, l8, l9, l10, l11, l12, l13, l14, l15, l16, l17, l18, l19, l20, l21, l22, l23, l24, l25, l26, l27, l28, l29, l30, l31, l32, l33, l34, l35, l36, l37, l38, _, rfl, (by kernel_rfl), hu, rfl⟩
            case s2 =>
              intro ff gg KK hK
              have f0 : l2 = false := ff
              subst hv
              clear ff gg
              subst f0
              simp only [cond_false]
              go_simp
              exact hK _ _ ⟨l0, l1, true, l3, l4, l5, l6, l7, l8, l9, l10, l11, l12, l13, l14, l15, l16, l17, l18, l19, l20, l21, l22, l23, l24, l25, l26, l27, l28, l29, l30, l31, l32, l33, l34, l35, l36, l37, l38, _, rfl, (by kernel_rfl), hu, rfl⟩
            case s3 =>
              intro ff gg KK hK
              have f0 : l3 = false := ff
              subst hv
              have t2 : l2 = true := gg ⟨2, .data⟩ (by simp) (by rfl)
              clear ff gg
              subst t2
              subst f0
              simp only [cond_true, cond_false]
              go_simp
              go_at_call 11
              (first | (with_reducible refine (OP.out _).mono ?_))
              rintro e w' ⟨rfl, hb⟩
              exact hK _ _ ⟨l0, l1, true, true, l4, l5, l6, l7, l8, l9, l10, l11, l12, l13, l14, l15, l16, l17, l18, l19, l20, l21, l22, l23, l24, l25, l26, l27, l28, l29, l30, l31, l32, l33, l34, l35, l36, l37, l38, _, rfl, (by kernel_rfl), bl_step hb hu, rfl⟩
            case s4 =>
              intro ff gg KK hK
              have f0 : l4 = false := ff
              subst hv
              have t1 : l1 = true := gg ⟨1, .data⟩ (by simp) (by rfl)
              have t3 : l3 = true := gg ⟨3, .data⟩ (by simp) (by rfl)
              clear ff gg
              subst t1 t3
              subst f0
              simp only [cond_true, cond_false]
              go_simp
              exact hK _ _ ⟨l0, true, l2, true, true, l5, l6, l7, l8, l9, l10, l11, l12, l13, l14, l15, l16, l17, l18, l19, l20, l21, l22, l23, l24, l25, l26, l27, l28, l29, l30, l31, l32, l33, l34, l35, l36, l37, l38, _, rfl, (by kernel_rfl), hu, rfl⟩
            case s5 =>
              intro ff gg KK hK
              have f0 : l5 = false := ff
              subst hv
              have t4 : l4 = true := gg ⟨4, .data⟩ (by simp) (by rfl)
              clear ff gg
              subst t4
              subst f0
              simp only [cond_true, cond_false]
              go_simp
              exact hK _ _ ⟨l0, l1, l2, l3, true, true, l6, l7, l8, l9, l10, l11, l12, l13, l14, l15, l16, l17, l18, l19, l20, l21, l22, l23, l24, l25, l26, l27, l28, l29, l30, l31, l32, l33, l34, l35, l36, l37, l38, _, rfl, (by kernel_rfl), hu, rfl⟩
            case s6 =>
              intro ff gg KK hK
              have f0 : l6 = false := ff
              subst hv
              have t5 : l5 = true := gg ⟨5, .guard⟩ (by simp) (by rfl)
              clear ff gg
              subst t5
              subst f0
              simp only [cond_true, cond_false]
              go_simp
              exact hK _ _ ⟨l0, l1, l2, l3, l4, true, true, l7, l8, l9, l10, l11, l12, l13, l14, l15, l16, l17, l18, l19, l20, l21, l22, l23, l24, l25, l26, l27, l28, l29, l30, l31, l32, l33, l34, l35, l36, l37, l38, _, rfl, (by kernel_rfl), hu, rfl⟩
            case s7 =>
              intro ff gg KK hK
              have f0 : l7 = false := ff
              subst hv
              have t6 : l6 = true := gg ⟨6, .data⟩ (by simp) (by rfl)
              have t5 : l5 = true := gg ⟨5, .guard⟩ (by simp) (by rfl)
              clear ff gg
              subst t6 t5
              subst f0
              simp only [cond_true, cond_false]
              have j0 := cell_later hu y0_
              go_simp
              exact hK _ _ ⟨l0, l1, l2, l3, l4, true, true, true, l8, l9, l10, l11, l12, l13, l14, l15, l16, l17, l18, l19, l20, l21, l22, l23, l24, l25, l26, l27, l28, l29, l30, l31, l32, l33, l34, l35, l36, l37, l38, _, rfl, (by kernel_rfl), hu, rfl⟩
            case s8 =>
              intro ff gg KK hK
              have f0 : l8 = false := ff
              subst hv
              have t5 : l5 = true := gg ⟨5, .guard⟩ (by simp) (by rfl)
              clear ff gg
              subst t5
              subst f0
              simp only [cond_true, cond_false]
              go_simp
              exact hK _ _ ⟨l0, l1, l2, l3, l4, true, l6, l7, true, l9, l10, l11, l12, l13, l14, l15, l16, l17, l18, l19, l20, l21, l22, l23, l24, l25, l26, l27, l28, l29, l30, l31, l32, l33, l34, l35, l36, l37, l38, _, rfl, (by kernel_rfl), hu, rfl⟩
            case s9 =>
              intro ff gg KK hK
              have f0 : l9 = false := ff
              subst hv
              have t7 : l7 = true := gg ⟨7, .data⟩ (by simp) (by rfl)
              have t8 : l8 = true := gg ⟨8, .data⟩ (by simp) (by rfl)
              have t5 : l5 = true := gg ⟨5, .guard⟩ (by simp) (by rfl)
              clear ff gg
              subst t7 t8 t5
              subst f0
              simp only [cond_true, cond_false]
              go_simp
              exact hK _ _ ⟨l0, l1, l2, l3, l4, true, l6, true, true, true, l10, l11, l12, l13, l14, l15, l16, l17, l18, l19, l20, l21, l22, l23, l24, l25, l26, l27, l28, l29, l30, l31, l32, l33, l34, l35, l36, l37, l38, _, rfl, (by kernel_rfl), hu, rfl⟩
            case s10 =>
              intro ff gg KK hK
              have f0 : l10 = false := ff
              subst hv
              have t5 : l5 = true := gg ⟨5, .data⟩ (by simp) (by rfl)
              have t9 : l9 = true := gg ⟨9, .data⟩ (by simp) (by rfl)
              clear ff gg
              subst t5 t9
              subst f0
              simp only [cond_true, cond_false]
              go_simp
              exact hK _ _ ⟨l0, l1, l2, l3, l4, true, l6, l7, l8, true, true, l11, l12, l13, l14, l15, l16, l17, l18, l19, l20, l21, l22, l23, l24, l25, l26, l27, l28, l29, l30, l31, l32, l33, l34, l35, l36, l37, l38, _, rfl, (by kernel_rfl), hu, rfl⟩
            case s11 =>
              intro ff gg KK hK
              have f0 : l11 = false := ff
              subst hv
              have t10 : l10 = true := gg ⟨10, .data⟩ (by simp) (by rfl)
              clear ff gg
              subst t10
              subst f0
              simp only [cond_true, cond_false]
              go_simp
              exact hK _ _ ⟨l0, l1, l2, l3, l4, l5, l6, l7, l8, l9, true, true, l12, l13, l14, l15, l16, l17, l18, l19, l20, l21, l22, l23, l24, l25, l26, l27, l28, l29, l30, l31, l32, l33, l34, l35, l36, l37, l38, _, rfl, (by kernel_rfl), hu, rfl⟩
            case s12 =>
              intro ff gg KK hK
              have f0 : l12 = false := ff
              subst hv
              have t11 : l11 = true := gg ⟨11, .guard⟩ (by simp) (by rfl)
              clear ff gg
              subst t11
              subst f0
              simp only [cond_true, cond_false]
              go_simp
              exact hK _ _ ⟨l0, l1, l2, l3, l4, l5, l6, l7, l8, l9, l10, true, true, l13, l14, l15, l16, l17, l18, l19, l20, l21, l22, l23, l24, l25, l26, l27, l28, l29, l30, l31, l32, l33, l34, l35, l36, l37, l38, _, rfl, (by kernel_rfl), hu, rfl⟩
            case s13 =>
              intro ff gg KK hK
              have f0 : l13 = false := ff
              subst hv
              have t12 : l12 = true := gg ⟨12, .data⟩ (by simp) (by rfl)
              have t11 : l11 = true := gg ⟨11, .guard⟩ (by simp) (by rfl)
              clear ff gg
              subst t12 t11
              subst f0
              simp only [cond_true, cond_false]
              go_simp
              exact hK _ _ ⟨l0, l1, l2, l3, l4, l5, l6, l7, l8, l9, l10, true, true, true, l14, l15, l16, l17, l18, l19, l20, l21, l22, l23, l24, l25, l26, l27, l28, l29, l30, l31, l32, l33, l34, l35, l36, l37, l38, _, rfl, (by kernel_rfl), hu, rfl⟩
            case s14 =>
              intro ff gg KK hK
              have f0 : l14 = false := ff
              subst hv
              have t13 : l13 = true := gg ⟨13, .data⟩ (by simp) (by rfl)
              have t11 : l11 = true := gg ⟨11, .guard⟩ (by simp) (by rfl)
              clear ff gg
              subst t13 t11
              subst f0
              simp only [cond_true, cond_false]
              have j0 := cell_later hu x2_
              go_simp
              exact hK _ _ ⟨l0, l1, l2, l3, l4, l5, l6, l7, l8, l9, l10, true, l12, true, true, l15, l16, l17, l18, l19, l20, l21, l22, l23, l24, l25, l26, l27, l28, l29, l30, l31, l32, l33, l34, l35, l36, l37, l38, _, rfl, (by kernel_rfl), hu, rfl⟩
            case s15 =>
              intro ff gg KK hK
              have f0 : l15 = false := ff
              subst hv
              have t11 : l11 = true := gg ⟨11, .guard⟩ (by simp) (by rfl)
              clear ff gg
              subst t11
              subst f0
              simp only [cond_true, cond_false]
              go_simp
              exact hK _ _ ⟨l0, l1, l2, l3, l4, l5, l6, l7, l8, l9, l10, true, l12, l13, l14, true, l16, l17, l18, l19, l20, l21, l22, l23, l24, l25, l26, l27, l28, l29, l30, l31, l32, l33, l34, l35, l36, l37, l38, _, rfl, (by kernel_rfl), hu, rfl⟩
            case s16 =>
              intro ff gg KK hK
              have f0 : l16 = false := ff
              subst hv
              have t15 : l15 = true := gg ⟨15, .data⟩ (by simp) (by rfl)
              have t11 : l11 = true := gg ⟨11, .guard⟩ (by simp) (by rfl)
              clear ff gg
              subst t15 t11
              subst f0
              simp only [cond_true, cond_false]
              go_simp
              exact hK _ _ ⟨l0, l1, l2, l3, l4, l5, l6, l7, l8, l9, l10, true, l12, l13, l14, true, true, l17, l18, l19, l20, l21, l22, l23, l24, l25, l26, l27, l28, l29, l30, l31, l32, l33, l34, l35, l36, l37, l38, _, rfl, (by kernel_rfl), hu, rfl⟩
            case s17 =>
              intro ff gg KK hK
              have f0 : l17 = false := ff
              subst hv
              have t16 : l16 = true := gg ⟨16, .data⟩ (by simp) (by rfl)
              have t11 : l11 = true := gg ⟨11, .guard⟩ (by simp) (by rfl)
              clear ff gg
              subst t16 t11
              subst f0
              simp only [cond_true, cond_false]
              have j0 := cell_later hu x3_
              go_simp
              exact hK _ _ ⟨l0, l1, l2, l3, l4, l5, l6, l7, l8, l9, l10, true, l12, l13, l14, l15, true, true, l18, l19, l20, l21, l22, l23, l24, l25, l26, l27, l28, l29, l30, l31, l32, l33, l34, l35, l36, l37, l38, _, rfl, (by kernel_rfl), hu, rfl⟩
            case s18 =>
              intro ff gg KK hK
              have f0 : l18 = false := ff
              subst hv
              have t14 : l14 = true := gg ⟨14, .data⟩ (by simp) (by rfl)
              have t17 : l17 = true := gg ⟨17, .data⟩ (by simp) (by rfl)
              have t11 : l11 = true := gg ⟨11, .guard⟩ (by simp) (by rfl)
              clear ff gg
              subst t14 t17 t11
              subst f0
              simp only [cond_true, cond_false]
              go_simp
              exact hK _ _ ⟨l0, l1, l2, l3, l4, l5, l6, l7, l8, l9, l10, true, l12, l13, true, l15, l16, true, true, l19, l20, l21, l22, l23, l24, l25, l26, l27, l28, l29, l30, l31, l32, l33, l34, l35, l36, l37, l38, _, rfl, (by kernel_rfl), hu, rfl⟩
            case s19 =>
              intro ff gg KK hK
              have f0 : l19 = false := ff
              subst hv
              have t11 : l11 = true := gg ⟨11, .data⟩ (by simp) (by rfl)
              have t18 : l18 = true := gg ⟨18, .data⟩ (by simp) (by rfl)
              clear ff gg
              subst t11 t18
              subst f0
              simp only [cond_true, cond_false]
              go_simp
              exact hK _ _ ⟨l0, l1, l2, l3, l4, l5, l6, l7, l8, l9, l10, true, l12, l13, l14, l15, l16, l17, true, true, l20, l21, l22, l23, l24, l25, l26, l27, l28, l29, l30, l31, l32, l33, l34, l35, l36, l37, l38, _, rfl, (by kernel_rfl), hu, rfl⟩
            case s20 =>
              intro ff gg KK hK
              have f0 : l20 = false := ff
              subst hv
              have t19 : l19 = true := gg ⟨19, .data⟩ (by simp) (by rfl)
              clear ff gg
              subst t19
              subst f0
              simp only [cond_true, cond_false]
              go_simp
              exact hK _ _ ⟨l0, l1, l2, l3, l4, l5, l6, l7, l8, l9, l10, l11, l12, l13, l14, l15, l16, l17, l18, true, true, l21, l22, l23, l24, l25, l26, l27, l28, l29, l30, l31, l32, l33, l34, l35, l36, l37, l38, _, rfl, (by kernel_rfl), hu, rfl⟩
            case s21 =>
              intro ff gg KK hK
              have f0 : l21 = false := ff
              subst hv
              have t20 : l20 = true := gg ⟨20, .guard⟩ (by simp) (by rfl)
              clear ff gg
              subst t20
              subst f0
              simp only [cond_true, cond_false]
              go_simp
              exact hK _ _ ⟨l0, l1, l2, l3, l4, l5, l6, l7, l8, l9, l10, l11, l12, l13, l14, l15, l16, l17, l18, l19, true, true, l22, l23, l24, l25, l26, l27, l28, l29, l30, l31, l32, l33, l34, l35, l36, l37, l38, _, rfl, (by kernel_rfl), hu, rfl⟩
            case s22 =>
              intro ff gg KK hK
              have f0 : l22 = false := ff
              subst hv
              have t21 : l21 = true := gg ⟨21, .data⟩ (by simp) (by rfl)
              have t20 : l20 = true := gg ⟨20, .guard⟩ (by simp) (by rfl)
              clear ff gg
              subst t21 t20
              subst f0
              simp only [cond_true, cond_false]
              have j0 := cell_later hu y1_
              go_simp
              exact hK _ _ ⟨l0, l1, l2, l3, l4, l5, l6, l7, l8, l9, l10, l11, l12, l13, l14, l15, l16, l17, l18, l19, true, true, true, l23, l24, l25, l26, l27, l28, l29, l30, l31, l32, l33, l34, l35, l36, l37, l38, _, rfl, (by kernel_rfl), hu, rfl⟩
            case s23 =>
              intro ff gg KK hK
              have f0 : l23 = false := ff
              subst hv
              have t20 : l20 = true := gg ⟨20, .guard⟩ (by simp) (by rfl)
              clear ff gg
              subst t20
              subst f0
              simp only [cond_true, cond_false]
              go_simp
              exact hK _ _ ⟨l0, l1, l2, l3, l4, l5, l6, l7, l8, l9, l10, l11, l12, l13, l14, l15, l16, l17, l18, l19, true, l21, l22, true, l24, l25, l26, l27, l28, l29, l30, l31, l32, l33, l34, l35, l36, l37, l38, _, rfl, (by kernel_rfl), hu, rfl⟩
            case s24 =>
              intro ff gg KK hK
              have f0 : l24 = false := ff
              subst hv
              have t23 : l23 = true := gg ⟨23, .data⟩ (by simp) (by rfl)
              have t20 : l20 = true := gg ⟨20, .guard⟩ (by simp) (by rfl)
              clear ff gg
              subst t23 t20
              subst f0
              simp only [cond_true, cond_false]
              go_simp
              exact hK _ _ ⟨l0, l1, l2, l3, l4, l5, l6, l7, l8, l9, l10, l11, l12, l13, l14, l15, l16, l17, l18, l19, true, l21, l22, true, true, l25, l26, l27, l28, l29, l30, l31, l32, l33, l34, l35, l36, l37, l38, _, rfl, (by kernel_rfl), hu, rfl⟩
            case s25 =>
              intro ff gg KK hK
              have f0 : l25 = false := ff
              subst hv
              have t24 : l24 = true := gg ⟨24, .data⟩ (by simp) (by rfl)
              have t20 : l20 = true := gg ⟨20, .guard⟩ (by simp) (by rfl)
              clear ff gg
              subst t24 t20
              subst f0
              simp only [cond_true, cond_false]
              have j0 := cell_later hu x2_
              go_simp
              exact hK _ _ ⟨l0, l1, l2, l3, l4, l5, l6, l7, l8, l9, l10, l11, l12, l13, l14, l15, l16, l17, l18, l19, true, l21, l22, l23, true, true, l26, l27, l28, l29, l30, l31, l32, l33, l34, l35, l36, l37, l38, _, rfl, (by kernel_rfl), hu, rfl⟩
            case s26 =>
              intro ff gg KK hK
              have f0 : l26 = false := ff
              subst hv
              have t22 : l22 = true := gg ⟨22, .data⟩ (by simp) (by rfl)
              have t25 : l25 = true := gg ⟨25, .data⟩ (by simp) (by rfl)
              have t20 : l20 = true := gg ⟨20, .guard⟩ (by simp) (by rfl)
              clear ff gg
              subst t22 t25 t20
              subst f0
              simp only [cond_true, cond_false]
              go_simp
              exact hK _ _ ⟨l0, l1, l2, l3, l4, l5, l6, l7, l8, l9, l10, l11, l12, l13, l14, l15, l16, l17, l18, l19, true, l21, true, l23, l24, true, true, l27, l28, l29, l30, l31, l32, l33, l34, l35, l36, l37, l38, _, rfl, (by kernel_rfl), hu, rfl⟩
            case s27 =>
              intro ff gg KK hK
              have f0 : l27 = false := ff
              subst hv
              have t20 : l20 = true := gg ⟨20, .data⟩ (by simp) (by rfl)
              have t26 : l26 = true := gg ⟨26, .data⟩ (by simp) (by rfl)
              clear ff gg
              subst t20 t26
              subst f0
              simp only [cond_true, cond_false]
              go_simp
              exact hK _ _ ⟨l0, l1, l2, l3, l4, l5, l6, l7, l8, l9, l10, l11, l12, l13, l14, l15, l16, l17, l18, l19, true, l21, l22, l23, l24, l25, true, true, l28, l29, l30, l31, l32, l33, l34, l35, l36, l37, l38, _, rfl, (by kernel_rfl), hu, rfl⟩
            case s28 =>
              intro ff gg KK hK
              have f0 : l28 = false := ff
              subst hv
              have t27 : l27 = true := gg ⟨27, .data⟩ (by simp) (by rfl)
              clear ff gg
              subst t27
              subst f0
              simp only [cond_true, cond_false]
              go_simp
              exact hK _ _ ⟨l0, l1, l2, l3, l4, l5, l6, l7, l8, l9, l10, l11, l12, l13, l14, l15, l16, l17, l18, l19, l20, l21, l22, l23, l24, l25, l26, true, true, l29, l30, l31, l32, l33, l34, l35, l36, l37, l38, _, rfl, (by kernel_rfl), hu, rfl⟩
            case s29 =>
              intro ff gg KK hK
              have f0 : l29 = false := ff
              subst hv
              have t28 : l28 = true := gg ⟨28, .guard⟩ (by simp) (by rfl)
              clear ff gg
              subst t28
              subst f0
              simp only [cond_true, cond_false]
              go_simp
              exact hK _ _ ⟨l0, l1, l2, l3, l4, l5, l6, l7, l8, l9, l10, l11, l12, l13, l14, l15, l16, l17, l18, l19, l20, l21, l22, l23, l24, l25, l26, l27, true, true, l30, l31, l32, l33, l34, l35, l36, l37, l38, _, rfl, (by kernel_rfl), hu, rfl⟩
            case s30 =>
              intro ff gg KK hK
              have f0 : l30 = false := ff
              subst hv
              have t28 : l28 = true := gg ⟨28, .guard⟩ (by simp) (by rfl)
              clear ff gg
              subst t28
              subst f0
              simp only [cond_true, cond_false]
              go_simp
              exact hK _ _ ⟨l0, l1, l2, l3, l4, l5, l6, l7, l8, l9, l10, l11, l12, l13, l14, l15, l16, l17, l18, l19, l20, l21, l22, l23, l24, l25, l26, l27, true, l29, true, l31, l32, l33, l34, l35, l36, l37, l38, _, rfl, (by kernel_rfl), hu, rfl⟩
            case s31 =>
              intro ff gg KK hK
              have f0 : l31 = false := ff
              subst hv
              have t29 : l29 = true := gg ⟨29, .data⟩ (by simp) (by rfl)
              have t30 : l30 = true := gg ⟨30, .data⟩ (by simp) (by rfl)
              have t28 : l28 = true := gg ⟨28, .guard⟩ (by simp) (by rfl)
              clear ff gg
              subst t29 t30 t28
              subst f0
              simp only [cond_true, cond_false]
              go_simp
              exact hK _ _ ⟨l0, l1, l2, l3, l4, l5, l6, l7, l8, l9, l10, l11, l12, l13, l14, l15, l16, l17, l18, l19, l20, l21, l22, l23, l24, l25, l26, l27, true, true, true, true, l32, l33, l34, l35, l36, l37, l38, _, rfl, (by first | (rw [wl]; kernel_rfl) | kernel_rfl), hu, rfl⟩
            case s32 =>
              intro ff gg KK hK
              have f0 : l32 = false := ff
              subst hv
              have t31 : l31 = true := gg ⟨31, .data⟩ (by simp) (by rfl)
              have t28 : l28 = true := gg ⟨28, .guard⟩ (by simp) (by rfl)
              clear ff gg
              subst t31 t28
              subst f0
              simp only [cond_true, cond_false]
              go_simp
              go_at_call 16
              with_reducible refine (WQ.out _).mono ?_
              rintro e w' ⟨rfl, rfl⟩
              have hb := Below.refl vv.heap.size vv
              exact hK _ _ ⟨l0, l1, l2, l3, l4, l5, l6, l7, l8, l9, l10, l11, l12, l13, l14, l15, l16, l17, l18, l19, l20, l21, l22, l23, l24, l25, l26, l27, true, l29, l30, true, true, l33, l34, l35, l36, l37, l38, _, rfl, (by kernel_rfl), bl_step hb hu, rfl⟩
            case s33 =>
              intro ff gg KK hK
              have f0 : l33 = false := ff
              subst hv
              have t28 : l28 = true := gg ⟨28, .guard⟩ (by simp) (by rfl)
              clear ff gg
              subst t28
              subst f0
              simp only [cond_true, cond_false]
              go_simp
              exact hK _ _ ⟨l0, l1, l2, l3, l4, l5, l6, l7, l8, l9, l10, l11, l12, l13, l14, l15, l16, l17, l18, l19, l20, l21, l22, l23, l24, l25, l26, l27, true, l29, l30, l31, l32, true, l34, l35, l36, l37, l38, _, rfl, (by kernel_rfl), hu, rfl⟩
            case s34 =>
              intro ff gg KK hK
              have f0 : l34 = false := ff
              subst hv
              have t33 : l33 = true := gg ⟨33, .data⟩ (by simp) (by rfl)
              have t28 : l28 = true := gg ⟨28, .guard⟩ (by simp) (by rfl)
              clear ff gg
              subst t33 t28
              subst f0
              simp only [cond_true, cond_false]
              have j0 := cell_later hu y1_
              go_simp
              exact hK _ _ ⟨l0, l1, l2, l3, l4, l5, l6, l7, l8, l9, l10, l11, l12, l13, l14, l15, l16, l17, l18, l19, l20, l21, l22, l23, l24, l25, l26, l27, true, l29, l30, l31, l32, true, true, l35, l36, l37, l38, _, rfl, (by kernel_rfl), hu, rfl⟩
            case s35 =>
              intro ff gg KK hK
              have f0 : l35 = false := ff
              subst hv
              have t34 : l34 = true := gg ⟨34, .data⟩ (by simp) (by rfl)
              have t32 : l32 = true := gg ⟨32, .chain⟩ (by simp) (by rfl)
              have t28 : l28 = true := gg ⟨28, .guard⟩ (by simp) (by rfl)
              clear ff gg
              subst t34 t32 t28
              subst f0
              simp only [cond_true, cond_false]
              go_simp
              go_at_call 16
              with_reducible refine (WR.out _).mono ?_
              rintro e w' ⟨rfl, rfl⟩
              have hb := Below.refl vv.heap.size vv
              exact hK _ _ ⟨l0, l1, l2, l3, l4, l5, l6, l7, l8, l9, l10, l11, l12, l13, l14, l15, l16, l17, l18, l19, l20, l21, l22, l23, l24, l25, l26, l27, true, l29, l30, l31, true, l33, true, true, l36, l37, l38, _, rfl, (by kernel_rfl), bl_step hb hu, rfl⟩
            case s36 =>
              intro ff gg KK hK
              have f0 : l36 = false := ff
              subst hv
              have t32 : l32 = true := gg ⟨32, .data⟩ (by simp) (by rfl)
              have t35 : l35 = true := gg ⟨35, .data⟩ (by simp) (by rfl)
              have t28 : l28 = true := gg ⟨28, .guard⟩ (by simp) (by rfl)
              clear ff gg
              subst t32 t35 t28
              subst f0
              simp only [cond_true, cond_false]
              go_simp
              exact hK _ _ ⟨l0, l1, l2, l3, l4, l5, l6, l7, l8, l9, l10, l11, l12, l13, l14, l15, l16, l17, l18, l19, l20, l21, l22, l23, l24, l25, l26, l27, true, l29, l30, l31, true, l33, l34, true, true, l37, l38, _, rfl, (by kernel_rfl), hu, rfl⟩
            case s37 =>
              intro ff gg KK hK
              have f0 : l37 = false := ff
              subst hv
              have t28 : l28 = true := gg ⟨28, .data⟩ (by simp) (by rfl)
              have t36 : l36 = true := gg ⟨36, .data⟩ (by simp) (by rfl)
              clear ff gg
              subst t28 t36
              subst f0
              simp only [cond_true, cond_false]
              go_simp
              exact hK _ _ ⟨l0, l1, l2, l3, l4, l5, l6, l7, l8, l9, l10, l11, l12, l13, l14, l15, l16, l17, l18, l19, l20, l21, l22, l23, l24, l25, l26, l27, true, l29, l30, l31, l32, l33, l34, l35, true, true, l38, _, rfl, (by kernel_rfl), hu, rfl⟩
            case s38 =>
              intro ff gg KK hK
              have f0 : l38 = false := ff
              subst hv
              have t37 : l37 = true := gg ⟨37, .data⟩ (by simp) (by rfl)
              clear ff gg
              subst t37
              subst f0
              simp only [cond_true, cond_false]
              go_simp
              exact hK _ _ ⟨l0, l1, l2, l3, l4, l5, l6, l7, l8, l9, l10, l11, l12, l13, l14, l15, l16, l17, l18, l19, l20, l21, l22, l23, l24, l25, l26, l27, l28, l29, l30, l31, l32, l33, l34, l35, l36, true, true, _, rfl, (by kernel_rfl), hu, rfl⟩
          case hdone =>
            intro LL aa vv h hd
            obtain ⟨l0, h⟩ := h
            obtain ⟨l1, h⟩ := h
            obtain ⟨l2, h⟩ := h
            obtain ⟨l3, h⟩ := h
            obtain ⟨l4, h⟩ := h
            obtain ⟨l5, h⟩ := h
            obtain ⟨l6, h⟩ := h
            obtain ⟨l7, h⟩ := h
            obtain ⟨l8, h⟩ := h
            obtain ⟨l9, h⟩ := h
            obtain ⟨l10, h⟩ := h
            obtain ⟨l11, h⟩ := h
            obtain ⟨l12, h⟩ := h
            obtain ⟨l13, h⟩ := h
            obtain ⟨l14, h⟩ := h
            obtain ⟨l15, h⟩ := h
            obtain ⟨l16, h⟩ := h
            obtain ⟨l17, h⟩ := h
            obtain ⟨l18, h⟩ := h
            obtain ⟨l19, h⟩ := h
            obtain ⟨l20, h⟩ := h
            obtain ⟨l21, h⟩ := h
            obtain ⟨l22, h⟩ := h
            obtain ⟨l23, h⟩ := h
            obtain ⟨l24, h⟩ := h
            obtain ⟨l25, h⟩ := h
            obtain ⟨l26, h⟩ := h
            obtain ⟨l27, h⟩ := h
            obtain ⟨l28, h⟩ := h
            obtain ⟨l29, h⟩ := h
            obtain ⟨l30, h⟩ := h
            obtain ⟨l31, h⟩ := h
            obtain ⟨l32, h⟩ := h
            obtain ⟨l33, h⟩ := h
            obtain ⟨l34, h⟩ := h
            obtain ⟨l35, h⟩ := h
            obtain ⟨l36, h⟩ := h
            obtain ⟨l37, h⟩ := h
            obtain ⟨l38, h⟩ := h
            obtain ⟨uu, h⟩ := h
            obtain ⟨hL, h⟩ := h
            obtain ⟨ha, h⟩ := h
            obtain ⟨hu, hv⟩ := h
            rw [hL] at hd
            have t0 : l0 = true := hd 0 (by decide)
            have t1 : l1 = true := hd 1 (by decide)
            have t2 : l2 = true := hd 2 (by decide)
            have t3 : l3 = true := hd 3 (by decide)
            have t4 : l4 = true := hd 4 (by decide)
            have t5 : l5 = true := hd 5 (by decide)
            have t6 : l6 = true := hd 6 (by decide)
            have t7 : l7 = true := hd 7 (by decide)
            have t8 : l8 = true := hd 8 (by decide)
            have t9 : l9 = true := hd 9 (by decide)
            have t10 : l10 = true := hd 10 (by decide)
            have t11 : l11 = true := hd 11 (by decide)
            have t12 : l12 = true := hd 12 (by decide)
            have t13 : l13 = true := hd 13 (by decide)
            have t14 : l14 = true := hd 14 (by decide)
            have t15 : l15 = true := hd 15 (by decide)
            have t16 : l16 = true := hd 16 (by decide)
            have t17 : l17 = true := hd 17 (by decide)
            have t18 : l18 = true := hd 18 (by decide)
            have t19 : l19 = true := hd 19 (by decide)
            have t20 : l20 = true := hd 20 (by decide)
            have t21 : l21 = true := hd 21 (by decide)
            have t22 : l22 = true := hd 22 (by decide)
            have t23 : l23 = true := hd 23 (by decide)
            have t24 : l24 = true := hd 24 (by decide)
            have t25 : l25 = true := hd 25 (by decide)
            have t26 : l26 = true := hd 26 (by decide)
            have t27 : l27 = true := hd 27 (by decide)
            have t28 : l28 = true := hd 28 (by decide)
            have t29 : l29 = true := hd 29 (by decide)
            have t30 : l30 = true := hd 30 (by decide)
            have t31 : l31 = true := hd 31 (by decide)
            have t32 : l32 = true := hd 32 (by decide)
            have t33 : l33 = true := hd 33 (by decide)
            have t34 : l34 = true := hd 34 (by decide)
            have t35 : l35 = true := hd 35 (by decide)
            have t36 : l36 = true := hd 36 (by decide)
            have t37 : l37 = true := hd 37 (by decide)
            have t38 : l38 = true := hd 38 (by decide)
            clear hd hL
            subst t0 t1 t2 t3 t4 t5 t6 t7 t8 t9 t10 t11 t12 t13 t14 t15 t16 t17 t18 t19 t20 t21 t22 t23 t24 t25 t26 t27 t28 t29 t30 t31 t32 t33 t34 t35 t36 t37 t38
            simp only [cond_true, List.take_succ_cons, List.take_zero, List.cons_append, List.nil_append, List.drop_succ_cons, List.drop_zero, List.set_cons_zero, List.set_cons_succ] at ha
            subst ha
            subst hv
            have hw6 : Below w.heap.size w vv := bl_step hu hw5
            go_wp2
            go_ret
            exact ⟨rfl, by (repeat (first | (with_reducible exact Below.refl _ _) | (with_reducible refine Below.setCell ?_ (by (first | (simp; done) | (simp; omega) | omega)) _) | (with_reducible refine bl_alloc ?_ _) | (with_reducible refine bl_drewN ?_) | (with_reducible refine bl_drew ?_) | (with_reducible refine bl_step (by assumption) ?_)))⟩

theorem lsq_walk (p q n l : Int) (w : World) (_b0 : -9223372036854775808 ≤ p ∧ p ≤ 9223372036854775807) (_b1 : -9223372036854775808 ≤ q ∧ q ≤ 9223372036854775807) (bn : 0 ≤ n ∧ n ≤ 255) (_b3 : -9223372036854775808 ≤ l ∧ l ≤ 9223372036854775807) :
    Calls Try.prog 4 #[.int .i64 p, .int .i64 q, .int .u8 n, .int .i64 l] w fun e w' => e = .returned (.bool true) ∧ Below w.heap.size w w' := by
  by_cases g0 : p < -600000
  · exact square_o0 p q n l w g0
  by_cases g1 : 600000 < p
  · exact square_o1 p q n l w g0 g1
  by_cases g2 : q < -600000
  · exact square_o2 p q n l w g0 g1 g2
  by_cases g3 : 600000 < q
  · exact square_o3 p q n l w g0 g1 g2 g3
  by_cases g4 : l < -10800000
  · exact square_o4 p q n l w g0 g1 g2 g3 g4
  by_cases g5 : 10800000 ≤ l
  · exact square_o5 p q n l w g0 g1 g2 g3 g4 g5
  obtain ⟨i0, hi, hz0, hz1, hz2⟩ : ∃ i0, Try.prog.info? 27 = some i0 ∧ i0.zero = some (.agg #[.int .i64 0, .int .i64 0, .int .i64 0, .int .i64 0, .int .i64 0, .int .i64 0]) ∧ i0.size = 6 ∧ i0.bytes = 48 := ⟨(Try.prog.info? 27).get (by kernel_rfl), (Option.some_get _).symm, by kernel_rfl, by kernel_rfl, by kernel_rfl⟩
  have s := sgn_part (l + q)
  have e : sgn (l + q) % 21600000 = (l + q) % 21600000 := by unfold sgn; split <;> omega
  have WR := hidden fun w => wrap5_any (sgn (l + q)) w (by omega) (by omega)
  rw [e] at WR
  exact square_in p q n l (n % 8) (sgn (l + q)) ((l + q) % 21600000) (1 + n % 8).toNat w g0 g1 g2 g3 g4 g5 bn.1 bn.2 (Int.tmod_eq_emod_of_nonneg bn.1) rfl (by omega) (by omega) (by omega) i0 hi hz0 hz1 hz2
    (hidden fun w => one37_any p w) (hidden fun w => one37_any q w) (hidden fun w => one37_any 5400000 w) (hidden fun w => sq_cross p q l w (by omega) (by omega) (by omega) (by omega) (by omega) (by omega))
    (hidden fun B c w h => sq_least B _ c p q l w h (by omega) (by omega) (by omega) (by omega) (by omega) (by omega) (by omega) (by omega)) (hidden fun w => wrap5_any (l + q) w (by omega) (by omega)) WR

end Go.Proofs.Ytjceofmhodcefaa
