/- The statement that a part of the arcs has its result inside. -/
import Derived.Test.YtcpghihgppgpmaaParD
import Derived.Test.YtcpghihgppgpmaaInv
import Derived.Deep.DeepCutAuto
import Derived.Deep.Cut
namespace Go.Proofs.Ytcpghihgppgpmaa
open Go.RowKit

set_option maxRecDepth 100000 in
set_option maxHeartbeats 4000000 in
theorem pparts_out1 (a b c d q r i j k : Int) (w : World) (h1 : smallB a b = false) :
    Calls Try.prog 7 #[.agg #[.int .i64 (a), .int .i64 (b)], .agg #[.int .i64 (c), .int .i64 (d)], .agg #[.int .i64 (q), .int .i64 (r)], .int .u32 i, .int .u32 j, .int .u32 k] w fun e w' => e = .returned (.bool true) ∧ Below w.heap.size w w' := by
  go_enter Try.func7, Try.ntmps7
  go_wp2_with (first | (go_at_call 8; ((with_reducible refine (awake21_is _).mono ?_); rintro e w' ⟨rfl, hb⟩); (try replace hb := below_undrew hb); (try replace hb := below_undrewN hb); obtain ⟨hcell, hfroz⟩ := bcell hb; have hz := hb.size; (try simp at hz); (try (have z6 := Nat.lt_of_lt_of_le z7 hz)); (try (have z7 := Nat.lt_of_lt_of_le z8 hz)); (try (have z8 := Nat.lt_of_lt_of_le z9 hz)); (try (have z9 := Nat.lt_of_lt_of_le (Nat.lt_succ_self _) hz)); (try (have z0 : w.heap.size < w'.heap.size := by omega)); (try (have z1 : w.heap.size + 1 < w'.heap.size := by omega)); (try (have z2 : w.heap.size + 1 + 1 < w'.heap.size := by omega)); (try (have z3 : w.heap.size + 1 + 1 + 1 < w'.heap.size := by omega)); (try (have y1 : w1.heap.size < w'.heap.size := by omega)); (try (have y2 : w2.heap.size < w'.heap.size := by omega)); (try (have y3 : w3.heap.size < w'.heap.size := by omega)); (try (have y4 : w4.heap.size < w'.heap.size := by omega)); (try (have y5 : w5.heap.size < w'.heap.size := by omega)); (try (have y6 : w6.heap.size < w'.heap.size := by omega)); (try (have x1 : w1.heap.size + 1 < w'.heap.size := by omega)); (try (have x2 : w2.heap.size + 1 < w'.heap.size := by omega)); (try (have x3 : w3.heap.size + 1 < w'.heap.size := by omega)); (try (have x4 : w4.heap.size + 1 < w'.heap.size := by omega)); (try (have x5 : w5.heap.size + 1 < w'.heap.size := by omega)); (try (have x6 : w6.heap.size + 1 < w'.heap.size := by omega))) | (go_at_call 14; ((with_reducible refine (small21_any _ _ _).mono ?_); rintro e w' ⟨rfl, hb⟩); (try replace hb := below_undrew hb); (try replace hb := below_undrewN hb); obtain ⟨hcell, hfroz⟩ := bcell hb; have hz := hb.size; (try simp at hz); (try (have z6 := Nat.lt_of_lt_of_le z7 hz)); (try (have z7 := Nat.lt_of_lt_of_le z8 hz)); (try (have z8 := Nat.lt_of_lt_of_le z9 hz)); (try (have z9 := Nat.lt_of_lt_of_le (Nat.lt_succ_self _) hz)); (try (have z0 : w.heap.size < w'.heap.size := by omega)); (try (have z1 : w.heap.size + 1 < w'.heap.size := by omega)); (try (have z2 : w.heap.size + 1 + 1 < w'.heap.size := by omega)); (try (have z3 : w.heap.size + 1 + 1 + 1 < w'.heap.size := by omega)); (try (have y1 : w1.heap.size < w'.heap.size := by omega)); (try (have y2 : w2.heap.size < w'.heap.size := by omega)); (try (have y3 : w3.heap.size < w'.heap.size := by omega)); (try (have y4 : w4.heap.size < w'.heap.size := by omega)); (try (have y5 : w5.heap.size < w'.heap.size := by omega)); (try (have y6 : w6.heap.size < w'.heap.size := by omega)); (try (have x1 : w1.heap.size + 1 < w'.heap.size := by omega)); (try (have x2 : w2.heap.size + 1 < w'.heap.size := by omega)); (try (have x3 : w3.heap.size + 1 < w'.heap.size := by omega)); (try (have x4 : w4.heap.size + 1 < w'.heap.size := by omega)); (try (have x5 : w5.heap.size + 1 < w'.heap.size := by omega)); (try (have x6 : w6.heap.size + 1 < w'.heap.size := by omega))) | (go_at_call 15; ((with_reducible refine (alt21_any _ _ _).mono ?_); rintro e w' ⟨rfl, hb⟩); (try replace hb := below_undrew hb); (try replace hb := below_undrewN hb); obtain ⟨hcell, hfroz⟩ := bcell hb; have hz := hb.size; (try simp at hz); (try (have z6 := Nat.lt_of_lt_of_le z7 hz)); (try (have z7 := Nat.lt_of_lt_of_le z8 hz)); (try (have z8 := Nat.lt_of_lt_of_le z9 hz)); (try (have z9 := Nat.lt_of_lt_of_le (Nat.lt_succ_self _) hz)); (try (have z0 : w.heap.size < w'.heap.size := by omega)); (try (have z1 : w.heap.size + 1 < w'.heap.size := by omega)); (try (have z2 : w.heap.size + 1 + 1 < w'.heap.size := by omega)); (try (have z3 : w.heap.size + 1 + 1 + 1 < w'.heap.size := by omega)); (try (have y1 : w1.heap.size < w'.heap.size := by omega)); (try (have y2 : w2.heap.size < w'.heap.size := by omega)); (try (have y3 : w3.heap.size < w'.heap.size := by omega)); (try (have y4 : w4.heap.size < w'.heap.size := by omega)); (try (have y5 : w5.heap.size < w'.heap.size := by omega)); (try (have y6 : w6.heap.size < w'.heap.size := by omega)); (try (have x1 : w1.heap.size + 1 < w'.heap.size := by omega)); (try (have x2 : w2.heap.size + 1 < w'.heap.size := by omega)); (try (have x3 : w3.heap.size + 1 < w'.heap.size := by omega)); (try (have x4 : w4.heap.size + 1 < w'.heap.size := by omega)); (try (have x5 : w5.heap.size + 1 < w'.heap.size := by omega)); (try (have x6 : w6.heap.size + 1 < w'.heap.size := by omega))))
  go_ret
  exact ⟨rfl, by (repeat (first | exact Below.refl _ _ | refine bl_drewN ?_ | refine bl_drew ?_ | refine bl_alloc ?_ _ | refine Below.setCell ?_ (by (first | (simp; done) | (simp; omega) | omega)) _ | refine bl_step (by assumption) ?_))⟩

set_option maxRecDepth 100000 in
set_option maxHeartbeats 4000000 in
theorem pparts_out2 (a b c d q r i j k : Int) (w : World) (h1 : smallB a b = true) (h2 : smallB c d = false) :
    Calls Try.prog 7 #[.agg #[.int .i64 (a), .int .i64 (b)], .agg #[.int .i64 (c), .int .i64 (d)], .agg #[.int .i64 (q), .int .i64 (r)], .int .u32 i, .int .u32 j, .int .u32 k] w fun e w' => e = .returned (.bool true) ∧ Below w.heap.size w w' := by
  go_enter Try.func7, Try.ntmps7
  go_wp2_with (first | (go_at_call 8; ((with_reducible refine (awake21_is _).mono ?_); rintro e w' ⟨rfl, hb⟩); (try replace hb := below_undrew hb); (try replace hb := below_undrewN hb); obtain ⟨hcell, hfroz⟩ := bcell hb; have hz := hb.size; (try simp at hz); (try (have z6 := Nat.lt_of_lt_of_le z7 hz)); (try (have z7 := Nat.lt_of_lt_of_le z8 hz)); (try (have z8 := Nat.lt_of_lt_of_le z9 hz)); (try (have z9 := Nat.lt_of_lt_of_le (Nat.lt_succ_self _) hz)); (try (have z0 : w.heap.size < w'.heap.size := by omega)); (try (have z1 : w.heap.size + 1 < w'.heap.size := by omega)); (try (have z2 : w.heap.size + 1 + 1 < w'.heap.size := by omega)); (try (have z3 : w.heap.size + 1 + 1 + 1 < w'.heap.size := by omega)); (try (have y1 : w1.heap.size < w'.heap.size := by omega)); (try (have y2 : w2.heap.size < w'.heap.size := by omega)); (try (have y3 : w3.heap.size < w'.heap.size := by omega)); (try (have y4 : w4.heap.size < w'.heap.size := by omega)); (try (have y5 : w5.heap.size < w'.heap.size := by omega)); (try (have y6 : w6.heap.size < w'.heap.size := by omega)); (try (have x1 : w1.heap.size + 1 < w'.heap.size := by omega)); (try (have x2 : w2.heap.size + 1 < w'.heap.size := by omega)); (try (have x3 : w3.heap.size + 1 < w'.heap.size := by omega)); (try (have x4 : w4.heap.size + 1 < w'.heap.size := by omega)); (try (have x5 : w5.heap.size + 1 < w'.heap.size := by omega)); (try (have x6 : w6.heap.size + 1 < w'.heap.size := by omega))) | (go_at_call 14; ((with_reducible refine (small21_any _ _ _).mono ?_); rintro e w' ⟨rfl, hb⟩); (try replace hb := below_undrew hb); (try replace hb := below_undrewN hb); obtain ⟨hcell, hfroz⟩ := bcell hb; have hz := hb.size; (try simp at hz); (try (have z6 := Nat.lt_of_lt_of_le z7 hz)); (try (have z7 := Nat.lt_of_lt_of_le z8 hz)); (try (have z8 := Nat.lt_of_lt_of_le z9 hz)); (try (have z9 := Nat.lt_of_lt_of_le (Nat.lt_succ_self _) hz)); (try (have z0 : w.heap.size < w'.heap.size := by omega)); (try (have z1 : w.heap.size + 1 < w'.heap.size := by omega)); (try (have z2 : w.heap.size + 1 + 1 < w'.heap.size := by omega)); (try (have z3 : w.heap.size + 1 + 1 + 1 < w'.heap.size := by omega)); (try (have y1 : w1.heap.size < w'.heap.size := by omega)); (try (have y2 : w2.heap.size < w'.heap.size := by omega)); (try (have y3 : w3.heap.size < w'.heap.size := by omega)); (try (have y4 : w4.heap.size < w'.heap.size := by omega)); (try (have y5 : w5.heap.size < w'.heap.size := by omega)); (try (have y6 : w6.heap.size < w'.heap.size := by omega)); (try (have x1 : w1.heap.size + 1 < w'.heap.size := by omega)); (try (have x2 : w2.heap.size + 1 < w'.heap.size := by omega)); (try (have x3 : w3.heap.size + 1 < w'.heap.size := by omega)); (try (have x4 : w4.heap.size + 1 < w'.heap.size := by omega)); (try (have x5 : w5.heap.size + 1 < w'.heap.size := by omega)); (try (have x6 : w6.heap.size + 1 < w'.heap.size := by omega))) | (go_at_call 15; ((with_reducible refine (alt21_any _ _ _).mono ?_); rintro e w' ⟨rfl, hb⟩); (try replace hb := below_undrew hb); (try replace hb := below_undrewN hb); obtain ⟨hcell, hfroz⟩ := bcell hb; have hz := hb.size; (try simp at hz); (try (have z6 := Nat.lt_of_lt_of_le z7 hz)); (try (have z7 := Nat.lt_of_lt_of_le z8 hz)); (try (have z8 := Nat.lt_of_lt_of_le z9 hz)); (try (have z9 := Nat.lt_of_lt_of_le (Nat.lt_succ_self _) hz)); (try (have z0 : w.heap.size < w'.heap.size := by omega)); (try (have z1 : w.heap.size + 1 < w'.heap.size := by omega)); (try (have z2 : w.heap.size + 1 + 1 < w'.heap.size := by omega)); (try (have z3 : w.heap.size + 1 + 1 + 1 < w'.heap.size := by omega)); (try (have y1 : w1.heap.size < w'.heap.size := by omega)); (try (have y2 : w2.heap.size < w'.heap.size := by omega)); (try (have y3 : w3.heap.size < w'.heap.size := by omega)); (try (have y4 : w4.heap.size < w'.heap.size := by omega)); (try (have y5 : w5.heap.size < w'.heap.size := by omega)); (try (have y6 : w6.heap.size < w'.heap.size := by omega)); (try (have x1 : w1.heap.size + 1 < w'.heap.size := by omega)); (try (have x2 : w2.heap.size + 1 < w'.heap.size := by omega)); (try (have x3 : w3.heap.size + 1 < w'.heap.size := by omega)); (try (have x4 : w4.heap.size + 1 < w'.heap.size := by omega)); (try (have x5 : w5.heap.size + 1 < w'.heap.size := by omega)); (try (have x6 : w6.heap.size + 1 < w'.heap.size := by omega))))
  go_ret
  exact ⟨rfl, by (repeat (first | exact Below.refl _ _ | refine bl_drewN ?_ | refine bl_drew ?_ | refine bl_alloc ?_ _ | refine Below.setCell ?_ (by (first | (simp; done) | (simp; omega) | omega)) _ | refine bl_step (by assumption) ?_))⟩

set_option maxRecDepth 100000 in
set_option maxHeartbeats 4000000 in
theorem pparts_out3 (a b c d q r i j k : Int) (w : World) (h1 : smallB a b = true) (h2 : smallB c d = true) (h3 : altB q r = false) :
    Calls Try.prog 7 #[.agg #[.int .i64 (a), .int .i64 (b)], .agg #[.int .i64 (c), .int .i64 (d)], .agg #[.int .i64 (q), .int .i64 (r)], .int .u32 i, .int .u32 j, .int .u32 k] w fun e w' => e = .returned (.bool true) ∧ Below w.heap.size w w' := by
  go_enter Try.func7, Try.ntmps7
  go_wp2_with (first | (go_at_call 8; ((with_reducible refine (awake21_is _).mono ?_); rintro e w' ⟨rfl, hb⟩); (try replace hb := below_undrew hb); (try replace hb := below_undrewN hb); obtain ⟨hcell, hfroz⟩ := bcell hb; have hz := hb.size; (try simp at hz); (try (have z6 := Nat.lt_of_lt_of_le z7 hz)); (try (have z7 := Nat.lt_of_lt_of_le z8 hz)); (try (have z8 := Nat.lt_of_lt_of_le z9 hz)); (try (have z9 := Nat.lt_of_lt_of_le (Nat.lt_succ_self _) hz)); (try (have z0 : w.heap.size < w'.heap.size := by omega)); (try (have z1 : w.heap.size + 1 < w'.heap.size := by omega)); (try (have z2 : w.heap.size + 1 + 1 < w'.heap.size := by omega)); (try (have z3 : w.heap.size + 1 + 1 + 1 < w'.heap.size := by omega)); (try (have y1 : w1.heap.size < w'.heap.size := by omega)); (try (have y2 : w2.heap.size < w'.heap.size := by omega)); (try (have y3 : w3.heap.size < w'.heap.size := by omega)); (try (have y4 : w4.heap.size < w'.heap.size := by omega)); (try (have y5 : w5.heap.size < w'.heap.size := by omega)); (try (have y6 : w6.heap.size < w'.heap.size := by omega)); (try (have x1 : w1.heap.size + 1 < w'.heap.size := by omega)); (try (have x2 : w2.heap.size + 1 < w'.heap.size := by omega)); (try (have x3 : w3.heap.size + 1 < w'.heap.size := by omega)); (try (have x4 : w4.heap.size + 1 < w'.heap.size := by omega)); (try (have x5 : w5.heap.size + 1 < w'.heap.size := by omega)); (try (have x6 : w6.heap.size + 1 < w'.heap.size := by omega))) | (go_at_call 14; ((with_reducible refine (small21_any _ _ _).mono ?_); rintro e w' ⟨rfl, hb⟩); (try replace hb := below_undrew hb); (try replace hb := below_undrewN hb); obtain ⟨hcell, hfroz⟩ := bcell hb; have hz := hb.size; (try simp at hz); (try (have z6 := Nat.lt_of_lt_of_le z7 hz)); (try (have z7 := Nat.lt_of_lt_of_le z8 hz)); (try (have z8 := Nat.lt_of_lt_of_le z9 hz)); (try (have z9 := Nat.lt_of_lt_of_le (Nat.lt_succ_self _) hz)); (try (have z0 : w.heap.size < w'.heap.size := by omega)); (try (have z1 : w.heap.size + 1 < w'.heap.size := by omega)); (try (have z2 : w.heap.size + 1 + 1 < w'.heap.size := by omega)); (try (have z3 : w.heap.size + 1 + 1 + 1 < w'.heap.size := by omega)); (try (have y1 : w1.heap.size < w'.heap.size := by omega)); (try (have y2 : w2.heap.size < w'.heap.size := by omega)); (try (have y3 : w3.heap.size < w'.heap.size := by omega)); (try (have y4 : w4.heap.size < w'.heap.size := by omega)); (try (have y5 : w5.heap.size < w'.heap.size := by omega)); (try (have y6 : w6.heap.size < w'.heap.size := by omega)); (try (have x1 : w1.heap.size + 1 < w'.heap.size := by omega)); (try (have x2 : w2.heap.size + 1 < w'.heap.size := by omega)); (try (have x3 : w3.heap.size + 1 < w'.heap.size := by omega)); (try (have x4 : w4.heap.size + 1 < w'.heap.size := by omega)); (try (have x5 : w5.heap.size + 1 < w'.heap.size := by omega)); (try (have x6 : w6.heap.size + 1 < w'.heap.size := by omega))) | (go_at_call 15; ((with_reducible refine (alt21_any _ _ _).mono ?_); rintro e w' ⟨rfl, hb⟩); (try replace hb := below_undrew hb); (try replace hb := below_undrewN hb); obtain ⟨hcell, hfroz⟩ := bcell hb; have hz := hb.size; (try simp at hz); (try (have z6 := Nat.lt_of_lt_of_le z7 hz)); (try (have z7 := Nat.lt_of_lt_of_le z8 hz)); (try (have z8 := Nat.lt_of_lt_of_le z9 hz)); (try (have z9 := Nat.lt_of_lt_of_le (Nat.lt_succ_self _) hz)); (try (have z0 : w.heap.size < w'.heap.size := by omega)); (try (have z1 : w.heap.size + 1 < w'.heap.size := by omega)); (try (have z2 : w.heap.size + 1 + 1 < w'.heap.size := by omega)); (try (have z3 : w.heap.size + 1 + 1 + 1 < w'.heap.size := by omega)); (try (have y1 : w1.heap.size < w'.heap.size := by omega)); (try (have y2 : w2.heap.size < w'.heap.size := by omega)); (try (have y3 : w3.heap.size < w'.heap.size := by omega)); (try (have y4 : w4.heap.size < w'.heap.size := by omega)); (try (have y5 : w5.heap.size < w'.heap.size := by omega)); (try (have y6 : w6.heap.size < w'.heap.size := by omega)); (try (have x1 : w1.heap.size + 1 < w'.heap.size := by omega)); (try (have x2 : w2.heap.size + 1 < w'.heap.size := by omega)); (try (have x3 : w3.heap.size + 1 < w'.heap.size := by omega)); (try (have x4 : w4.heap.size + 1 < w'.heap.size := by omega)); (try (have x5 : w5.heap.size + 1 < w'.heap.size := by omega)); (try (have x6 : w6.heap.size + 1 < w'.heap.size := by omega))))
  go_ret
  exact ⟨rfl, by (repeat (first | exact Below.refl _ _ | refine bl_drewN ?_ | refine bl_drew ?_ | refine bl_alloc ?_ _ | refine Below.setCell ?_ (by (first | (simp; done) | (simp; omega) | omega)) _ | refine bl_step (by assumption) ?_))⟩

set_option maxRecDepth 100000 in
set_option maxHeartbeats 8000000 in
theorem pparts_in (a b c d q r i j k s p h A1 A2 B1 B2 C1 C2 D1 D2 X1 X2 Y1 Y2 L H u v : Int) (w : World) (h1 : smallB a b = true) (h2 : smallB c d = true) (h3 : altB q r = true)
    (PS : Hid (∀ w, Calls Try.prog 16 #[.agg #[.int .i64 (a), .int .i64 (b)], .int .u32 i] w fun e w' => e = .returned (.agg #[.int .i64 (s), .int .i64 (s)]) ∧ Below w.heap.size w w'))
    (PP : Hid (∀ w, Calls Try.prog 16 #[.agg #[.int .i64 (c), .int .i64 (d)], .int .u32 j] w fun e w' => e = .returned (.agg #[.int .i64 (p), .int .i64 (p)]) ∧ Below w.heap.size w w'))
    (PH : Hid (∀ w, Calls Try.prog 16 #[.agg #[.int .i64 (q), .int .i64 (r)], .int .u32 k] w fun e w' => e = .returned (.agg #[.int .i64 (h), .int .i64 (h)]) ∧ Below w.heap.size w w'))
    (IA : Hid (∀ w, Calls Try.prog 9 #[.agg #[.int .i64 (c), .int .i64 (d)], .agg #[.int .i64 (q), .int .i64 (r)]] w fun e w' => e = .returned (.tuple #[.agg #[.int .i64 (A1), .int .i64 (A2)], .int .i64 (0)]) ∧ Below w.heap.size w w'))
    (IB : Hid (∀ w, Calls Try.prog 9 #[.agg #[.int .i64 (p), .int .i64 (p)], .agg #[.int .i64 (h), .int .i64 (h)]] w fun e w' => e = .returned (.tuple #[.agg #[.int .i64 (B1), .int .i64 (B2)], .int .i64 (0)]) ∧ Below w.heap.size w w'))
    (UA : Hid (∀ w, Calls Try.prog 12 #[.agg #[.int .i64 (a), .int .i64 (b)], .agg #[.int .i64 (c), .int .i64 (d)], .agg #[.int .i64 (q), .int .i64 (r)]] w fun e w' => e = .returned (.tuple #[.agg #[.int .i64 (C1), .int .i64 (C2)], .int .i64 (0)]) ∧ Below w.heap.size w w'))
    (UB : Hid (∀ w, Calls Try.prog 12 #[.agg #[.int .i64 (s), .int .i64 (s)], .agg #[.int .i64 (p), .int .i64 (p)], .agg #[.int .i64 (h), .int .i64 (h)]] w fun e w' => e = .returned (.tuple #[.agg #[.int .i64 (D1), .int .i64 (D2)], .int .i64 (0)]) ∧ Below w.heap.size w w'))
    (OA : Hid (∀ w, Calls Try.prog 13 #[.agg #[.int .i64 (c), .int .i64 (d)], .agg #[.int .i64 (q), .int .i64 (r)]] w fun e w' => e = .returned (.tuple #[.agg #[.int .i64 (X1), .int .i64 (X2)], .int .i64 (0)]) ∧ Below w.heap.size w w'))
    (OB : Hid (∀ w, Calls Try.prog 13 #[.agg #[.int .i64 (p), .int .i64 (p)], .agg #[.int .i64 (h), .int .i64 (h)]] w fun e w' => e = .returned (.tuple #[.agg #[.int .i64 (Y1), .int .i64 (Y2)], .int .i64 (0)]) ∧ Below w.heap.size w w'))
    (N1 : Hid (∀ w, Calls Try.prog 17 #[.agg #[.int .i64 (B1), .int .i64 (B2)], .agg #[.int .i64 (A1), .int .i64 (A2)]] w fun e w' => e = .returned (.bool true) ∧ Below w.heap.size w w'))
    (N2 : Hid (∀ w, Calls Try.prog 17 #[.agg #[.int .i64 (D1), .int .i64 (D2)], .agg #[.int .i64 (C1), .int .i64 (C2)]] w fun e w' => e = .returned (.bool true) ∧ Below w.heap.size w w'))
    (N3 : Hid (∀ w, Calls Try.prog 17 #[.agg #[.int .i64 (Y1), .int .i64 (Y2)], .agg #[.int .i64 (X1), .int .i64 (X2)]] w fun e w' => e = .returned (.bool true) ∧ Below w.heap.size w w'))
    (DA : Hid (∀ w, Calls Try.prog 11 #[.agg #[.int .i64 (c), .int .i64 (d)]] w fun e w' => e = .returned (.tuple #[.int .i64 L, .int .i64 H, .int .i64 0]) ∧ Below w.heap.size w w'))
    (DB : Hid (∀ w, Calls Try.prog 11 #[.agg #[.int .i64 (p), .int .i64 (p)]] w fun e w' => e = .returned (.tuple #[.int .i64 u, .int .i64 v, .int .i64 0]) ∧ Below w.heap.size w w'))
    (m1 : L ≤ u) (m2 : u ≤ v) (m3 : v ≤ H) :
    Calls Try.prog 7 #[.agg #[.int .i64 (a), .int .i64 (b)], .agg #[.int .i64 (c), .int .i64 (d)], .agg #[.int .i64 (q), .int .i64 (r)], .int .u32 i, .int .u32 j, .int .u32 k] w fun e w' => e = .returned (.bool true) ∧ Below w.heap.size w w' := by
  go_enter Try.func7, Try.ntmps7
  go_wp2_with (first | (go_at_call 8; ((with_reducible refine (awake21_is _).mono ?_); rintro e w' ⟨rfl, hb⟩); (try replace hb := below_undrew hb); (try replace hb := below_undrewN hb); obtain ⟨hcell, hfroz⟩ := bcell hb; have hz := hb.size; (try simp at hz); (try (have z6 := Nat.lt_of_lt_of_le z7 hz)); (try (have z7 := Nat.lt_of_lt_of_le z8 hz)); (try (have z8 := Nat.lt_of_lt_of_le z9 hz)); (try (have z9 := Nat.lt_of_lt_of_le (Nat.lt_succ_self _) hz)); (try (have z0 : w.heap.size < w'.heap.size := by omega)); (try (have z1 : w.heap.size + 1 < w'.heap.size := by omega)); (try (have z2 : w.heap.size + 1 + 1 < w'.heap.size := by omega)); (try (have z3 : w.heap.size + 1 + 1 + 1 < w'.heap.size := by omega)); (try (have y1 : w1.heap.size < w'.heap.size := by omega)); (try (have y2 : w2.heap.size < w'.heap.size := by omega)); (try (have y3 : w3.heap.size < w'.heap.size := by omega)); (try (have y4 : w4.heap.size < w'.heap.size := by omega)); (try (have y5 : w5.heap.size < w'.heap.size := by omega)); (try (have y6 : w6.heap.size < w'.heap.size := by omega)); (try (have x1 : w1.heap.size + 1 < w'.heap.size := by omega)); (try (have x2 : w2.heap.size + 1 < w'.heap.size := by omega)); (try (have x3 : w3.heap.size + 1 < w'.heap.size := by omega)); (try (have x4 : w4.heap.size + 1 < w'.heap.size := by omega)); (try (have x5 : w5.heap.size + 1 < w'.heap.size := by omega)); (try (have x6 : w6.heap.size + 1 < w'.heap.size := by omega))) | (go_at_call 14; ((with_reducible refine (small21_any _ _ _).mono ?_); rintro e w' ⟨rfl, hb⟩); (try replace hb := below_undrew hb); (try replace hb := below_undrewN hb); obtain ⟨hcell, hfroz⟩ := bcell hb; have hz := hb.size; (try simp at hz); (try (have z6 := Nat.lt_of_lt_of_le z7 hz)); (try (have z7 := Nat.lt_of_lt_of_le z8 hz)); (try (have z8 := Nat.lt_of_lt_of_le z9 hz)); (try (have z9 := Nat.lt_of_lt_of_le (Nat.lt_succ_self _) hz)); (try (have z0 : w.heap.size < w'.heap.size := by omega)); (try (have z1 : w.heap.size + 1 < w'.heap.size := by omega)); (try (have z2 : w.heap.size + 1 + 1 < w'.heap.size := by omega)); (try (have z3 : w.heap.size + 1 + 1 + 1 < w'.heap.size := by omega)); (try (have y1 : w1.heap.size < w'.heap.size := by omega)); (try (have y2 : w2.heap.size < w'.heap.size := by omega)); (try (have y3 : w3.heap.size < w'.heap.size := by omega)); (try (have y4 : w4.heap.size < w'.heap.size := by omega)); (try (have y5 : w5.heap.size < w'.heap.size := by omega)); (try (have y6 : w6.heap.size < w'.heap.size := by omega)); (try (have x1 : w1.heap.size + 1 < w'.heap.size := by omega)); (try (have x2 : w2.heap.size + 1 < w'.heap.size := by omega)); (try (have x3 : w3.heap.size + 1 < w'.heap.size := by omega)); (try (have x4 : w4.heap.size + 1 < w'.heap.size := by omega)); (try (have x5 : w5.heap.size + 1 < w'.heap.size := by omega)); (try (have x6 : w6.heap.size + 1 < w'.heap.size := by omega))) | (go_at_call 15; ((with_reducible refine (alt21_any _ _ _).mono ?_); rintro e w' ⟨rfl, hb⟩); (try replace hb := below_undrew hb); (try replace hb := below_undrewN hb); obtain ⟨hcell, hfroz⟩ := bcell hb; have hz := hb.size; (try simp at hz); (try (have z6 := Nat.lt_of_lt_of_le z7 hz)); (try (have z7 := Nat.lt_of_lt_of_le z8 hz)); (try (have z8 := Nat.lt_of_lt_of_le z9 hz)); (try (have z9 := Nat.lt_of_lt_of_le (Nat.lt_succ_self _) hz)); (try (have z0 : w.heap.size < w'.heap.size := by omega)); (try (have z1 : w.heap.size + 1 < w'.heap.size := by omega)); (try (have z2 : w.heap.size + 1 + 1 < w'.heap.size := by omega)); (try (have z3 : w.heap.size + 1 + 1 + 1 < w'.heap.size := by omega)); (try (have y1 : w1.heap.size < w'.heap.size := by omega)); (try (have y2 : w2.heap.size < w'.heap.size := by omega)); (try (have y3 : w3.heap.size < w'.heap.size := by omega)); (try (have y4 : w4.heap.size < w'.heap.size := by omega)); (try (have y5 : w5.heap.size < w'.heap.size := by omega)); (try (have y6 : w6.heap.size < w'.heap.size := by omega)); (try (have x1 : w1.heap.size + 1 < w'.heap.size := by omega)); (try (have x2 : w2.heap.size + 1 < w'.heap.size := by omega)); (try (have x3 : w3.heap.size + 1 < w'.heap.size := by omega)); (try (have x4 : w4.heap.size + 1 < w'.heap.size := by omega)); (try (have x5 : w5.heap.size + 1 < w'.heap.size := by omega)); (try (have x6 : w6.heap.size + 1 < w'.heap.size := by omega))))
  (refine name_below ?_; intro w' hb; (try replace hb := below_undrew hb); (try replace hb := below_undrewN hb); obtain ⟨hcell, hfroz⟩ := bcell hb; have hz := hb.size; (try simp at hz); (try (have z6 := Nat.lt_of_lt_of_le z7 hz)); (try (have z7 := Nat.lt_of_lt_of_le z8 hz)); (try (have z8 := Nat.lt_of_lt_of_le z9 hz)); (try (have z9 := Nat.lt_of_lt_of_le (Nat.lt_succ_self _) hz)); (try (have z0 : w.heap.size < w'.heap.size := by omega)); (try (have z1 : w.heap.size + 1 < w'.heap.size := by omega)); (try (have z2 : w.heap.size + 1 + 1 < w'.heap.size := by omega)); (try (have z3 : w.heap.size + 1 + 1 + 1 < w'.heap.size := by omega)); (try (have y1 : w1.heap.size < w'.heap.size := by omega)); (try (have y2 : w2.heap.size < w'.heap.size := by omega)); (try (have y3 : w3.heap.size < w'.heap.size := by omega)); (try (have y4 : w4.heap.size < w'.heap.size := by omega)); (try (have y5 : w5.heap.size < w'.heap.size := by omega)); (try (have y6 : w6.heap.size < w'.heap.size := by omega)); (try (have x1 : w1.heap.size + 1 < w'.heap.size := by omega)); (try (have x2 : w2.heap.size + 1 < w'.heap.size := by omega)); (try (have x3 : w3.heap.size + 1 < w'.heap.size := by omega)); (try (have x4 : w4.heap.size + 1 < w'.heap.size := by omega)); (try (have x5 : w5.heap.size + 1 < w'.heap.size := by omega)); (try (have x6 : w6.heap.size + 1 < w'.heap.size := by omega)); (try (have y7 : w7.heap.size < w'.heap.size := by omega)); (try (have y8 : w8.heap.size < w'.heap.size := by omega)); (try (have y9 : w9.heap.size < w'.heap.size := by omega)); (try (have z10 : w1.heap.size < w'.heap.size + 1 := by omega)); (try (have z20 : w2.heap.size < w'.heap.size + 1 := by omega)); (try (have z30 : w3.heap.size < w'.heap.size + 1 := by omega)); (try (have z40 : w4.heap.size < w'.heap.size + 1 := by omega)); (try (have z50 : w5.heap.size < w'.heap.size + 1 := by omega)); (try (have z60 : w6.heap.size < w'.heap.size + 1 := by omega)); (try (have z70 : w7.heap.size < w'.heap.size + 1 := by omega)); (try (have z80 : w8.heap.size < w'.heap.size + 1 := by omega)))
  have c0 : w'.cell? ⟨w.heap.size, 0, none⟩ = some (.int .i64 a) := by simp [go_sem, *]
  have c1 : w'.cell? ⟨w.heap.size, 1, none⟩ = some (.int .i64 b) := by simp [go_sem, *]
  have c2 : w'.cell? ⟨w.heap.size + 1, 0, none⟩ = some (.int .i64 c) := by simp [go_sem, *]
  have c3 : w'.cell? ⟨w.heap.size + 1, 1, none⟩ = some (.int .i64 d) := by simp [go_sem, *]
  have c4 : w'.cell? ⟨w.heap.size + 1 + 1, 0, none⟩ = some (.int .i64 q) := by simp [go_sem, *]
  have c5 : w'.cell? ⟨w.heap.size + 1 + 1, 1, none⟩ = some (.int .i64 r) := by simp [go_sem, *]
  have hw3 : Below w.heap.size w w' := by (repeat (first | exact Below.refl _ _ | refine bl_drewN ?_ | refine bl_drew ?_ | refine bl_alloc ?_ _ | refine Below.setCell ?_ (by (first | (simp; done) | (simp; omega) | omega)) _ | refine bl_step (by assumption) ?_))
  clear hcell hfroz
  obtain ⟨w3, rfl⟩ : ∃ v, v = w' := ⟨_, rfl⟩
  go_cut [14, 15, 16] from 50 to 61 (fun s14 s15 s16 wx => ∃ B1 B2 B3 : Nat, s14 = .pointer (some ⟨B1, 0, none⟩) ∧ s15 = .pointer (some ⟨B2, 0, none⟩) ∧ s16 = .pointer (some ⟨B3, 0, none⟩) ∧ Below w3.heap.size w3 wx ∧ wx.cell? ⟨B1, 0, none⟩ = some (.int .i64 s) ∧ wx.cell? ⟨B1, 1, none⟩ = some (.int .i64 s) ∧ wx.cell? ⟨B2, 0, none⟩ = some (.int .i64 p) ∧ wx.cell? ⟨B2, 1, none⟩ = some (.int .i64 p) ∧ wx.cell? ⟨B3, 0, none⟩ = some (.int .i64 h) ∧ wx.cell? ⟨B3, 1, none⟩ = some (.int .i64 h))
  case first =>
    refine wp_region_inv (fun a0 L a1 v => ∃ (l0 l1 l2 l3 l4 l5 l6 l7 l8 l9 l10 l11 l12 l13 l14 l15 l16 l17 : Bool) (E1 E2 E3 : Nat), L = #[l0, l1, l2, l3, l4, l5, l6, l7, l8, l9, l10, l11, l12, l13, l14, l15, l16, l17] ∧ a1 = { a0 with tmps := (((((((((((((((a0.tmps.setIfInBounds 50 (cond l0 (Value.func (Fn.func 16) #[] #[]) undef)).setIfInBounds 51 (cond l1 (.agg #[.int .i64 (a), .int .i64 (b)]) undef)).setIfInBounds 52 (cond l2 (.int .u32 i) undef)).setIfInBounds 53 (cond l3 (.agg #[.int .i64 (s), .int .i64 (s)]) undef)).setIfInBounds 54 (cond l4 (Value.func (Fn.func 16) #[] #[]) undef)).setIfInBounds 55 (cond l5 (.agg #[.int .i64 (c), .int .i64 (d)]) undef)).setIfInBounds 56 (cond l6 (.int .u32 j) undef)).setIfInBounds 57 (cond l7 (.agg #[.int .i64 (p), .int .i64 (p)]) undef)).setIfInBounds 58 (cond l8 (Value.func (Fn.func 16) #[] #[]) undef)).setIfInBounds 59 (cond l9 (.agg #[.int .i64 (q), .int .i64 (r)]) undef)).setIfInBounds 60 (cond l10 (.int .u32 k) undef)).setIfInBounds 61 (cond l11 (.agg #[.int .i64 (h), .int .i64 (h)]) undef)).setIfInBounds 14 (cond l12 (.pointer (some ⟨E1, 0, none⟩)) undef)).setIfInBounds 15 (cond l13 (.pointer (some ⟨E2, 0, none⟩)) undef)).setIfInBounds 16 (cond l14 (.pointer (some ⟨E3, 0, none⟩)) undef)) } ∧ Below w3.heap.size w3 v ∧ (l12 = true → Room w3 v E1 l15 s) ∧ (l13 = true → Room w3 v E2 l16 p) ∧ (l14 = true → Room w3 v E3 l17 h) ∧ (l15 = true → l12 = true) ∧ (l16 = true → l13 = true) ∧ (l17 = true → l14 = true) ∧ (l12 = true → l13 = true → E1 ≠ E2) ∧ (l12 = true → l14 = true → E1 ≠ E3) ∧ (l13 = true → l14 = true → E2 ≠ E3)) (by kernel_rfl) (by kernel_rfl) ?h0 ?hsize ?hdone ?hstep
    case h0 =>
      refine ⟨false, false, false, false, false, false, false, false, false, false, false, false, false, false, false, false, false, false, 0, 0, 0, rfl, ?_, by (repeat (first | exact Below.refl _ _ | refine bl_drewN ?_ | refine bl_drew ?_ | refine bl_alloc ?_ _ | refine Below.setCell ?_ (by (first | (simp; done) | (simp; omega) | omega)) _ | refine bl_step (by assumption) ?_)), (fun h => by cases h), (fun h => by cases h), (fun h => by cases h), (fun h => by cases h), (fun h => by cases h), (fun h => by cases h), (fun h => by cases h), (fun h => by cases h), (fun h => by cases h)⟩
      simp only [cond_false, List.setIfInBounds_toArray, List.set_cons_zero, List.set_cons_succ]
    case hsize =>
      intro L a1 v h
      obtain ⟨l0, l1, l2, l3, l4, l5, l6, l7, l8, l9, l10, l11, l12, l13, l14, l15, l16, l17, E1, E2, E3, hL, _⟩ := h
      rw [hL]
      rfl
    case hdone =>
      intro L a1 v h hall
      obtain ⟨l0, l1, l2, l3, l4, l5, l6, l7, l8, l9, l10, l11, l12, l13, l14, l15, l16, l17, E1, E2, E3, hL, ha, hb0, r1, r2, r3, q1, q2, q3, n1, n2, n3⟩ := h
      rw [hL] at hall
      have t0 : l0 = true := hall 0 (by decide)
      have t1 : l1 = true := hall 1 (by decide)
      have t2 : l2 = true := hall 2 (by decide)
      have t3 : l3 = true := hall 3 (by decide)
      have t4 : l4 = true := hall 4 (by decide)
      have t5 : l5 = true := hall 5 (by decide)
      have t6 : l6 = true := hall 6 (by decide)
      have t7 : l7 = true := hall 7 (by decide)
      have t8 : l8 = true := hall 8 (by decide)
      have t9 : l9 = true := hall 9 (by decide)
      have t10 : l10 = true := hall 10 (by decide)
      have t11 : l11 = true := hall 11 (by decide)
      have t12 : l12 = true := hall 12 (by decide)
      have t13 : l13 = true := hall 13 (by decide)
      have t14 : l14 = true := hall 14 (by decide)
      have t15 : l15 = true := hall 15 (by decide)
      have t16 : l16 = true := hall 16 (by decide)
      have t17 : l17 = true := hall 17 (by decide)
      clear hall hL
      subst t0 t1 t2 t3 t4 t5 t6 t7 t8 t9 t10 t11 t12 t13 t14 t15 t16 t17
      simp only [cond_true, List.setIfInBounds_toArray, List.set_cons_zero, List.set_cons_succ] at ha
      subst ha
      obtain ⟨_, _, _, _, _, _, a1, a2, a3⟩ := r1 rfl
      obtain ⟨_, _, _, _, _, _, b1, b2, b3⟩ := r2 rfl
      obtain ⟨_, _, _, _, _, _, c1, c2, c3⟩ := r3 rfl
      rw [(a3 rfl).1] at a1
      rw [(a3 rfl).2] at a2
      rw [(b3 rfl).1] at b1
      rw [(b3 rfl).2] at b2
      rw [(c3 rfl).1] at c1
      rw [(c3 rfl).2] at c2
      go_wp2
      go_meet
      exact ⟨_, _, _, rfl, rfl, rfl, hb0, a1, a2, b1, b2, c1, c2⟩
    case hstep =>
      intro L a1 v h
      obtain ⟨l0, l1, l2, l3, l4, l5, l6, l7, l8, l9, l10, l11, l12, l13, l14, l15, l16, l17, E1, E2, E3, hL, ha, hb0, r1, r2, r3, q1, q2, q3, n1, n2, n3⟩ := h
      simp only [List.setIfInBounds_toArray, List.set_cons_zero, List.set_cons_succ] at ha
      subst hL
      subst ha
      refine ⟨?s0, ?s1, ?s2, ?s3, ?s4, ?s5, ?s6, ?s7, ?s8, ?s9, ?s10, ?s11, ?s12, ?s13, ?s14, ?s15, ?s16, ?s17, trivial⟩
      case s0 =>
        intro f g K hK
        have f0 : l0 = false := f
        clear f g
        subst f0
        simp only [cond_false]
        go_simp
        exact hK _ _ ⟨true, l1, l2, l3, l4, l5, l6, l7, l8, l9, l10, l11, l12, l13, l14, l15, l16, l17, E1, E2, E3, rfl, (by simp only [cond_true, List.setIfInBounds_toArray, List.set_cons_zero, List.set_cons_succ]), hb0, r1, r2, r3, q1, q2, q3, n1, n2, n3⟩
      case s1 =>
        intro f g K hK
        have f0 : l1 = false := f
        clear f g
        subst f0
        simp only [cond_false]
        have k0 := cell_later hb0 c0
        have k1 := cell_later hb0 c1
        go_simp
        exact hK _ _ ⟨l0, true, l2, l3, l4, l5, l6, l7, l8, l9, l10, l11, l12, l13, l14, l15, l16, l17, E1, E2, E3, rfl, (by simp only [cond_true, List.setIfInBounds_toArray, List.set_cons_zero, List.set_cons_succ]), hb0, r1, r2, r3, q1, q2, q3, n1, n2, n3⟩
      case s2 =>
        intro f g K hK
        have f0 : l2 = false := f
        clear f g
        subst f0
        simp only [cond_false]
        go_simp
        exact hK _ _ ⟨l0, l1, true, l3, l4, l5, l6, l7, l8, l9, l10, l11, l12, l13, l14, l15, l16, l17, E1, E2, E3, rfl, (by simp only [cond_true, List.setIfInBounds_toArray, List.set_cons_zero, List.set_cons_succ]), hb0, r1, r2, r3, q1, q2, q3, n1, n2, n3⟩
      case s3 =>
        intro f g K hK
        have t0 : l0 = true := g ⟨0, .data⟩ (by simp) (by rfl)
        have t1 : l1 = true := g ⟨1, .data⟩ (by simp) (by rfl)
        have t2 : l2 = true := g ⟨2, .data⟩ (by simp) (by rfl)
        subst t0 t1 t2
        have f0 : l3 = false := f
        clear f g
        subst f0
        simp only [cond_true, cond_false]
        go_simp
        go_at_call 16
        with_reducible refine (PS.out _).mono ?_
        rintro e w' ⟨rfl, hb⟩
        exact hK _ _ ⟨true, true, true, true, l4, l5, l6, l7, l8, l9, l10, l11, l12, l13, l14, l15, l16, l17, E1, E2, E3, rfl, (by simp only [cond_true, List.setIfInBounds_toArray, List.set_cons_zero, List.set_cons_succ]), bl_step hb hb0, (fun t => (r1 t).later hb), (fun t => (r2 t).later hb), (fun t => (r3 t).later hb), q1, q2, q3, n1, n2, n3⟩
      case s4 =>
        intro f g K hK
        have f0 : l4 = false := f
        clear f g
        subst f0
        simp only [cond_false]
        go_simp
        exact hK _ _ ⟨l0, l1, l2, l3, true, l5, l6, l7, l8, l9, l10, l11, l12, l13, l14, l15, l16, l17, E1, E2, E3, rfl, (by simp only [cond_true, List.setIfInBounds_toArray, List.set_cons_zero, List.set_cons_succ]), hb0, r1, r2, r3, q1, q2, q3, n1, n2, n3⟩
      case s5 =>
        intro f g K hK
        have f0 : l5 = false := f
        clear f g
        subst f0
        simp only [cond_false]
        have k0 := cell_later hb0 c2
        have k1 := cell_later hb0 c3
        go_simp
        exact hK _ _ ⟨l0, l1, l2, l3, l4, true, l6, l7, l8, l9, l10, l11, l12, l13, l14, l15, l16, l17, E1, E2, E3, rfl, (by simp only [cond_true, List.setIfInBounds_toArray, List.set_cons_zero, List.set_cons_succ]), hb0, r1, r2, r3, q1, q2, q3, n1, n2, n3⟩
      case s6 =>
        intro f g K hK
        have f0 : l6 = false := f
        clear f g
        subst f0
        simp only [cond_false]
        go_simp
        exact hK _ _ ⟨l0, l1, l2, l3, l4, l5, true, l7, l8, l9, l10, l11, l12, l13, l14, l15, l16, l17, E1, E2, E3, rfl, (by simp only [cond_true, List.setIfInBounds_toArray, List.set_cons_zero, List.set_cons_succ]), hb0, r1, r2, r3, q1, q2, q3, n1, n2, n3⟩
      case s7 =>
        intro f g K hK
        have t4 : l4 = true := g ⟨4, .data⟩ (by simp) (by rfl)
        have t5 : l5 = true := g ⟨5, .data⟩ (by simp) (by rfl)
        have t6 : l6 = true := g ⟨6, .data⟩ (by simp) (by rfl)
        have t3 : l3 = true := g ⟨3, .chain⟩ (by simp) (by rfl)
        subst t4 t5 t6 t3
        have f0 : l7 = false := f
        clear f g
        subst f0
        simp only [cond_true, cond_false]
        go_simp
        go_at_call 16
        with_reducible refine (PP.out _).mono ?_
        rintro e w' ⟨rfl, hb⟩
        exact hK _ _ ⟨l0, l1, l2, true, true, true, true, true, l8, l9, l10, l11, l12, l13, l14, l15, l16, l17, E1, E2, E3, rfl, (by simp only [cond_true, List.setIfInBounds_toArray, List.set_cons_zero, List.set_cons_succ]), bl_step hb hb0, (fun t => (r1 t).later hb), (fun t => (r2 t).later hb), (fun t => (r3 t).later hb), q1, q2, q3, n1, n2, n3⟩
      case s8 =>
        intro f g K hK
        have f0 : l8 = false := f
        clear f g
        subst f0
        simp only [cond_false]
        go_simp
        exact hK _ _ ⟨l0, l1, l2, l3, l4, l5, l6, l7, true, l9, l10, l11, l12, l13, l14, l15, l16, l17, E1, E2, E3, rfl, (by simp only [cond_true, List.setIfInBounds_toArray, List.set_cons_zero, List.set_cons_succ]), hb0, r1, r2, r3, q1, q2, q3, n1, n2, n3⟩
      case s9 =>
        intro f g K hK
        have f0 : l9 = false := f
        clear f g
        subst f0
        simp only [cond_false]
        have k0 := cell_later hb0 c4
        have k1 := cell_later hb0 c5
        go_simp
        exact hK _ _ ⟨l0, l1, l2, l3, l4, l5, l6, l7, l8, true, l10, l11, l12, l13, l14, l15, l16, l17, E1, E2, E3, rfl, (by simp only [cond_true, List.setIfInBounds_toArray, List.set_cons_zero, List.set_cons_succ]), hb0, r1, r2, r3, q1, q2, q3, n1, n2, n3⟩
      case s10 =>
        intro f g K hK
        have f0 : l10 = false := f
        clear f g
        subst f0
        simp only [cond_false]
        go_simp
        exact hK _ _ ⟨l0, l1, l2, l3, l4, l5, l6, l7, l8, l9, true, l11, l12, l13, l14, l15, l16, l17, E1, E2, E3, rfl, (by simp only [cond_true, List.setIfInBounds_toArray, List.set_cons_zero, List.set_cons_succ]), hb0, r1, r2, r3, q1, q2, q3, n1, n2, n3⟩
      case s11 =>
        intro f g K hK
        have t8 : l8 = true := g ⟨8, .data⟩ (by simp) (by rfl)
        have t9 : l9 = true := g ⟨9, .data⟩ (by simp) (by rfl)
        have t10 : l10 = true := g ⟨10, .data⟩ (by simp) (by rfl)
        have t7 : l7 = true := g ⟨7, .chain⟩ (by simp) (by rfl)
        subst t8 t9 t10 t7
        have f0 : l11 = false := f
        clear f g
        subst f0
        simp only [cond_true, cond_false]
        go_simp
        go_at_call 16
        with_reducible refine (PH.out _).mono ?_
        rintro e w' ⟨rfl, hb⟩
        exact hK _ _ ⟨l0, l1, l2, l3, l4, l5, l6, true, true, true, true, true, l12, l13, l14, l15, l16, l17, E1, E2, E3, rfl, (by simp only [cond_true, List.setIfInBounds_toArray, List.set_cons_zero, List.set_cons_succ]), bl_step hb hb0, (fun t => (r1 t).later hb), (fun t => (r2 t).later hb), (fun t => (r3 t).later hb), q1, q2, q3, n1, n2, n3⟩
      case s12 =>
        intro f g K hK
        have f0 : l12 = false := f
        clear f g
        subst f0
        simp only [cond_false]
        go_simp
        have hb : Below v.heap.size v (v.alloc (Obj.cells #[Value.int IntKind.i64 0, Value.int IntKind.i64 0] 24)) := by (repeat (first | exact Below.refl _ _ | refine bl_drewN ?_ | refine bl_drew ?_ | refine bl_alloc ?_ _ | refine Below.setCell ?_ (by (first | (simp; done) | (simp; omega) | omega)) _ | refine bl_step (by assumption) ?_))
        exact hK _ _ ⟨l0, l1, l2, l3, l4, l5, l6, l7, l8, l9, l10, l11, true, l13, l14, l15, l16, l17, v.heap.size, E2, E3, rfl, (by simp only [cond_true, List.setIfInBounds_toArray, List.set_cons_zero, List.set_cons_succ]), bl_step hb hb0, (fun _ => Room.alloc hb0 _ _ _ _ _ q1), (fun t => (r2 t).later hb), (fun t => (r3 t).later hb), (fun _ => rfl), q2, q3, (fun _ t => by have z := (r2 t).2.1; omega), (fun _ t => by have z := (r3 t).2.1; omega), n3⟩
      case s13 =>
        intro f g K hK
        have f0 : l13 = false := f
        clear f g
        subst f0
        simp only [cond_false]
        go_simp
        have hb : Below v.heap.size v (v.alloc (Obj.cells #[Value.int IntKind.i64 0, Value.int IntKind.i64 0] 24)) := by (repeat (first | exact Below.refl _ _ | refine bl_drewN ?_ | refine bl_drew ?_ | refine bl_alloc ?_ _ | refine Below.setCell ?_ (by (first | (simp; done) | (simp; omega) | omega)) _ | refine bl_step (by assumption) ?_))
        exact hK _ _ ⟨l0, l1, l2, l3, l4, l5, l6, l7, l8, l9, l10, l11, l12, true, l14, l15, l16, l17, E1, v.heap.size, E3, rfl, (by simp only [cond_true, List.setIfInBounds_toArray, List.set_cons_zero, List.set_cons_succ]), bl_step hb hb0, (fun t => (r1 t).later hb), (fun _ => Room.alloc hb0 _ _ _ _ _ q2), (fun t => (r3 t).later hb), q1, (fun _ => rfl), q3, (fun t _ => by have z := (r1 t).2.1; omega), n2, (fun _ t => by have z := (r3 t).2.1; omega)⟩
      case s14 =>
        intro f g K hK
        have f0 : l14 = false := f
        clear f g
        subst f0
        simp only [cond_false]
        go_simp
        have hb : Below v.heap.size v (v.alloc (Obj.cells #[Value.int IntKind.i64 0, Value.int IntKind.i64 0] 24)) := by (repeat (first | exact Below.refl _ _ | refine bl_drewN ?_ | refine bl_drew ?_ | refine bl_alloc ?_ _ | refine Below.setCell ?_ (by (first | (simp; done) | (simp; omega) | omega)) _ | refine bl_step (by assumption) ?_))
        exact hK _ _ ⟨l0, l1, l2, l3, l4, l5, l6, l7, l8, l9, l10, l11, l12, l13, true, l15, l16, l17, E1, E2, v.heap.size, rfl, (by simp only [cond_true, List.setIfInBounds_toArray, List.set_cons_zero, List.set_cons_succ]), bl_step hb hb0, (fun t => (r1 t).later hb), (fun t => (r2 t).later hb), (fun _ => Room.alloc hb0 _ _ _ _ _ q3), q1, q2, (fun _ => rfl), n1, (fun t _ => by have z := (r1 t).2.1; omega), (fun t _ => by have z := (r2 t).2.1; omega)⟩
      case s15 =>
        intro f g K hK
        have t12 : l12 = true := g ⟨12, .data⟩ (by simp) (by rfl)
        have t3 : l3 = true := g ⟨3, .data⟩ (by simp) (by rfl)
        have t11 : l11 = true := g ⟨11, .chain⟩ (by simp) (by rfl)
        subst t12 t3 t11
        have f0 : l15 = false := f
        clear f g
        subst f0
        simp only [cond_true]
        have rr := r1 rfl
        obtain ⟨m1, m2, m3, m4, y0, y1, m5, m6, m7⟩ := rr
        go_simp
        exact hK _ _ ⟨l0, l1, l2, true, l4, l5, l6, l7, l8, l9, l10, true, true, l13, l14, true, l16, l17, E1, E2, E3, rfl, (by simp only [cond_true, List.setIfInBounds_toArray, List.set_cons_zero, List.set_cons_succ]), (hb0.setCell m1 _).setCell m1 _, (fun _ => (r1 rfl).store _ _), (fun t => (r2 t).other (fun e => n1 rfl t e.symm) _ _), (fun t => (r3 t).other (fun e => n2 rfl t e.symm) _ _), (fun _ => rfl), q2, q3, n1, n2, n3⟩
      case s16 =>
        intro f g K hK
        have t13 : l13 = true := g ⟨13, .data⟩ (by simp) (by rfl)
        have t7 : l7 = true := g ⟨7, .data⟩ (by simp) (by rfl)
        have t15 : l15 = true := g ⟨15, .chain⟩ (by simp) (by rfl)
        subst t13 t7 t15
        have u12 : l12 = true := q1 rfl
        subst u12
        have f0 : l16 = false := f
        clear f g
        subst f0
        simp only [cond_true]
        have rr := r2 rfl
        obtain ⟨m1, m2, m3, m4, y0, y1, m5, m6, m7⟩ := rr
        go_simp
        exact hK _ _ ⟨l0, l1, l2, l3, l4, l5, l6, true, l8, l9, l10, l11, true, true, l14, true, true, l17, E1, E2, E3, rfl, (by simp only [cond_true, List.setIfInBounds_toArray, List.set_cons_zero, List.set_cons_succ]), (hb0.setCell m1 _).setCell m1 _, (fun t => (r1 t).other (fun e => n1 t rfl e) _ _), (fun _ => (r2 rfl).store _ _), (fun t => (r3 t).other (fun e => n3 rfl t e.symm) _ _), q1, (fun _ => rfl), q3, n1, n2, n3⟩
      case s17 =>
        intro f g K hK
        have t14 : l14 = true := g ⟨14, .data⟩ (by simp) (by rfl)
        have t11 : l11 = true := g ⟨11, .data⟩ (by simp) (by rfl)
        have t16 : l16 = true := g ⟨16, .chain⟩ (by simp) (by rfl)
        subst t14 t11 t16
        have u13 : l13 = true := q2 rfl
        subst u13
        have f0 : l17 = false := f
        clear f g
        subst f0
        simp only [cond_true]
        have rr := r3 rfl
        obtain ⟨m1, m2, m3, m4, y0, y1, m5, m6, m7⟩ := rr
        go_simp
        exact hK _ _ ⟨l0, l1, l2, l3, l4, l5, l6, l7, l8, l9, l10, true, l12, true, true, l15, true, true, E1, E2, E3, rfl, (by simp only [cond_true, List.setIfInBounds_toArray, List.set_cons_zero, List.set_cons_succ]), (hb0.setCell m1 _).setCell m1 _, (fun t => (r1 t).other (fun e => n2 t rfl e) _ _), (fun t => (r2 t).other (fun e => n3 t rfl e) _ _), (fun _ => (r3 rfl).store _ _), q1, q2, (fun _ => rfl), n1, n2, n3⟩
  case rest =>
    obtain ⟨E1, E2, E3, rfl, rfl, rfl, hb, s0, s1, p0, p1, q0, q1⟩ := hcut
    replace hw3 : Below w.heap.size w wc := bl_step hb hw3
    replace c0 := cell_later hb c0
    replace c1 := cell_later hb c1
    replace c2 := cell_later hb c2
    replace c3 := cell_later hb c3
    replace c4 := cell_later hb c4
    replace c5 := cell_later hb c5
    have k0 : w.heap.size < wc.heap.size := World.block_lt_of_cell? _ _ c0
    have k1 : w.heap.size + 1 < wc.heap.size := World.block_lt_of_cell? _ _ c2
    have k2 : w.heap.size + 1 + 1 < wc.heap.size := World.block_lt_of_cell? _ _ c4
    have j0 : E1 < wc.heap.size := World.block_lt_of_cell? _ _ s0
    have j1 : E2 < wc.heap.size := World.block_lt_of_cell? _ _ p0
    have j2 : E3 < wc.heap.size := World.block_lt_of_cell? _ _ q0
    clear hb
    clear hz z0 z1 z2
    go_wp2_with (first | (go_at_call 9; ((with_reducible refine (IA.out _).mono ?_); rintro e w' ⟨rfl, hb⟩); (try replace hb := below_undrew hb); (try replace hb := below_undrewN hb); obtain ⟨hcell, hfroz⟩ := bcell hb; have hz := hb.size; (try simp at hz); (try (have z6 := Nat.lt_of_lt_of_le z7 hz)); (try (have z7 := Nat.lt_of_lt_of_le z8 hz)); (try (have z8 := Nat.lt_of_lt_of_le z9 hz)); (try (have z9 := Nat.lt_of_lt_of_le (Nat.lt_succ_self _) hz)); (try (have z0 : w.heap.size < w'.heap.size := by omega)); (try (have z1 : w.heap.size + 1 < w'.heap.size := by omega)); (try (have z2 : w.heap.size + 1 + 1 < w'.heap.size := by omega)); (try (have z3 : w.heap.size + 1 + 1 + 1 < w'.heap.size := by omega)); (try (have y1 : w1.heap.size < w'.heap.size := by omega)); (try (have y2 : w2.heap.size < w'.heap.size := by omega)); (try (have y3 : w3.heap.size < w'.heap.size := by omega)); (try (have y4 : w4.heap.size < w'.heap.size := by omega)); (try (have y5 : w5.heap.size < w'.heap.size := by omega)); (try (have y6 : w6.heap.size < w'.heap.size := by omega)); (try (have x1 : w1.heap.size + 1 < w'.heap.size := by omega)); (try (have x2 : w2.heap.size + 1 < w'.heap.size := by omega)); (try (have x3 : w3.heap.size + 1 < w'.heap.size := by omega)); (try (have x4 : w4.heap.size + 1 < w'.heap.size := by omega)); (try (have x5 : w5.heap.size + 1 < w'.heap.size := by omega)); (try (have x6 : w6.heap.size + 1 < w'.heap.size := by omega)); (try (have y7 : w7.heap.size < w'.heap.size := by omega)); (try (have y8 : w8.heap.size < w'.heap.size := by omega)); (try (have y9 : w9.heap.size < w'.heap.size := by omega)); (try (have z10 : w1.heap.size < w'.heap.size + 1 := by omega)); (try (have z20 : w2.heap.size < w'.heap.size + 1 := by omega)); (try (have z30 : w3.heap.size < w'.heap.size + 1 := by omega)); (try (have z40 : w4.heap.size < w'.heap.size + 1 := by omega)); (try (have z50 : w5.heap.size < w'.heap.size + 1 := by omega)); (try (have z60 : w6.heap.size < w'.heap.size + 1 := by omega)); (try (have z70 : w7.heap.size < w'.heap.size + 1 := by omega)); (try (have z80 : w8.heap.size < w'.heap.size + 1 := by omega)); (have e1 : E1 < w'.heap.size := by omega); (have e4 : E1 < w'.heap.size + 1 := by omega); (have e2 : E2 < w'.heap.size := by omega); (have e5 : E2 < w'.heap.size + 1 := by omega); (have e3 : E3 < w'.heap.size := by omega); (have e6 : E3 < w'.heap.size + 1 := by omega); obtain ⟨w1, rfl⟩ : ∃ v, v = w' := ⟨_, rfl⟩) | (go_at_call 9; ((with_reducible refine (IB.out _).mono ?_); rintro e w' ⟨rfl, hb⟩); (try replace hb := below_undrew hb); (try replace hb := below_undrewN hb); obtain ⟨hcell, hfroz⟩ := bcell hb; have hz := hb.size; (try simp at hz); (try (have z6 := Nat.lt_of_lt_of_le z7 hz)); (try (have z7 := Nat.lt_of_lt_of_le z8 hz)); (try (have z8 := Nat.lt_of_lt_of_le z9 hz)); (try (have z9 := Nat.lt_of_lt_of_le (Nat.lt_succ_self _) hz)); (try (have z0 : w.heap.size < w'.heap.size := by omega)); (try (have z1 : w.heap.size + 1 < w'.heap.size := by omega)); (try (have z2 : w.heap.size + 1 + 1 < w'.heap.size := by omega)); (try (have z3 : w.heap.size + 1 + 1 + 1 < w'.heap.size := by omega)); (try (have y1 : w1.heap.size < w'.heap.size := by omega)); (try (have y2 : w2.heap.size < w'.heap.size := by omega)); (try (have y3 : w3.heap.size < w'.heap.size := by omega)); (try (have y4 : w4.heap.size < w'.heap.size := by omega)); (try (have y5 : w5.heap.size < w'.heap.size := by omega)); (try (have y6 : w6.heap.size < w'.heap.size := by omega)); (try (have x1 : w1.heap.size + 1 < w'.heap.size := by omega)); (try (have x2 : w2.heap.size + 1 < w'.heap.size := by omega)); (try (have x3 : w3.heap.size + 1 < w'.heap.size := by omega)); (try (have x4 : w4.heap.size + 1 < w'.heap.size := by omega)); (try (have x5 : w5.heap.size + 1 < w'.heap.size := by omega)); (try (have x6 : w6.heap.size + 1 < w'.heap.size := by omega)); (try (have y7 : w7.heap.size < w'.heap.size := by omega)); (try (have y8 : w8.heap.size < w'.heap.size := by omega)); (try (have y9 : w9.heap.size < w'.heap.size := by omega)); (try (have z10 : w1.heap.size < w'.heap.size + 1 := by omega)); (try (have z20 : w2.heap.size < w'.heap.size + 1 := by omega)); (try (have z30 : w3.heap.size < w'.heap.size + 1 := by omega)); (try (have z40 : w4.heap.size < w'.heap.size + 1 := by omega)); (try (have z50 : w5.heap.size < w'.heap.size + 1 := by omega)); (try (have z60 : w6.heap.size < w'.heap.size + 1 := by omega)); (try (have z70 : w7.heap.size < w'.heap.size + 1 := by omega)); (try (have z80 : w8.heap.size < w'.heap.size + 1 := by omega)); (have e1 : E1 < w'.heap.size := by omega); (have e4 : E1 < w'.heap.size + 1 := by omega); (have e2 : E2 < w'.heap.size := by omega); (have e5 : E2 < w'.heap.size + 1 := by omega); (have e3 : E3 < w'.heap.size := by omega); (have e6 : E3 < w'.heap.size + 1 := by omega); obtain ⟨w2, rfl⟩ : ∃ v, v = w' := ⟨_, rfl⟩) | (go_at_call 12; ((with_reducible refine (UA.out _).mono ?_); rintro e w' ⟨rfl, hb⟩); (try replace hb := below_undrew hb); (try replace hb := below_undrewN hb); obtain ⟨hcell, hfroz⟩ := bcell hb; have hz := hb.size; (try simp at hz); (try (have z6 := Nat.lt_of_lt_of_le z7 hz)); (try (have z7 := Nat.lt_of_lt_of_le z8 hz)); (try (have z8 := Nat.lt_of_lt_of_le z9 hz)); (try (have z9 := Nat.lt_of_lt_of_le (Nat.lt_succ_self _) hz)); (try (have z0 : w.heap.size < w'.heap.size := by omega)); (try (have z1 : w.heap.size + 1 < w'.heap.size := by omega)); (try (have z2 : w.heap.size + 1 + 1 < w'.heap.size := by omega)); (try (have z3 : w.heap.size + 1 + 1 + 1 < w'.heap.size := by omega)); (try (have y1 : w1.heap.size < w'.heap.size := by omega)); (try (have y2 : w2.heap.size < w'.heap.size := by omega)); (try (have y3 : w3.heap.size < w'.heap.size := by omega)); (try (have y4 : w4.heap.size < w'.heap.size := by omega)); (try (have y5 : w5.heap.size < w'.heap.size := by omega)); (try (have y6 : w6.heap.size < w'.heap.size := by omega)); (try (have x1 : w1.heap.size + 1 < w'.heap.size := by omega)); (try (have x2 : w2.heap.size + 1 < w'.heap.size := by omega)); (try (have x3 : w3.heap.size + 1 < w'.heap.size := by omega)); (try (have x4 : w4.heap.size + 1 < w'.heap.size := by omega)); (try (have x5 : w5.heap.size + 1 < w'.heap.size := by omega)); (try (have x6 : w6.heap.size + 1 < w'.heap.size := by omega)); (try (have y7 : w7.heap.size < w'.heap.size := by omega)); (try (have y8 : w8.heap.size < w'.heap.size := by omega)); (try (have y9 : w9.heap.size < w'.heap.size := by omega)); (try (have z10 : w1.heap.size < w'.heap.size + 1 := by omega)); (try (have z20 : w2.heap.size < w'.heap.size + 1 := by omega)); (try (have z30 : w3.heap.size < w'.heap.size + 1 := by omega)); (try (have z40 : w4.heap.size < w'.heap.size + 1 := by omega)); (try (have z50 : w5.heap.size < w'.heap.size + 1 := by omega)); (try (have z60 : w6.heap.size < w'.heap.size + 1 := by omega)); (try (have z70 : w7.heap.size < w'.heap.size + 1 := by omega)); (try (have z80 : w8.heap.size < w'.heap.size + 1 := by omega)); (have e1 : E1 < w'.heap.size := by omega); (have e4 : E1 < w'.heap.size + 1 := by omega); (have e2 : E2 < w'.heap.size := by omega); (have e5 : E2 < w'.heap.size + 1 := by omega); (have e3 : E3 < w'.heap.size := by omega); (have e6 : E3 < w'.heap.size + 1 := by omega); obtain ⟨w4, rfl⟩ : ∃ v, v = w' := ⟨_, rfl⟩) | (go_at_call 12; ((with_reducible refine (UB.out _).mono ?_); rintro e w' ⟨rfl, hb⟩); (try replace hb := below_undrew hb); (try replace hb := below_undrewN hb); obtain ⟨hcell, hfroz⟩ := bcell hb; have hz := hb.size; (try simp at hz); (try (have z6 := Nat.lt_of_lt_of_le z7 hz)); (try (have z7 := Nat.lt_of_lt_of_le z8 hz)); (try (have z8 := Nat.lt_of_lt_of_le z9 hz)); (try (have z9 := Nat.lt_of_lt_of_le (Nat.lt_succ_self _) hz)); (try (have z0 : w.heap.size < w'.heap.size := by omega)); (try (have z1 : w.heap.size + 1 < w'.heap.size := by omega)); (try (have z2 : w.heap.size + 1 + 1 < w'.heap.size := by omega)); (try (have z3 : w.heap.size + 1 + 1 + 1 < w'.heap.size := by omega)); (try (have y1 : w1.heap.size < w'.heap.size := by omega)); (try (have y2 : w2.heap.size < w'.heap.size := by omega)); (try (have y3 : w3.heap.size < w'.heap.size := by omega)); (try (have y4 : w4.heap.size < w'.heap.size := by omega)); (try (have y5 : w5.heap.size < w'.heap.size := by omega)); (try (have y6 : w6.heap.size < w'.heap.size := by omega)); (try (have x1 : w1.heap.size + 1 < w'.heap.size := by omega)); (try (have x2 : w2.heap.size + 1 < w'.heap.size := by omega)); (try (have x3 : w3.heap.size + 1 < w'.heap.size := by omega)); (try (have x4 : w4.heap.size + 1 < w'.heap.size := by omega)); (try (have x5 : w5.heap.size + 1 < w'.heap.size := by omega)); (try (have x6 : w6.heap.size + 1 < w'.heap.size := by omega)); (try (have y7 : w7.heap.size < w'.heap.size := by omega)); (try (have y8 : w8.heap.size < w'.heap.size := by omega)); (try (have y9 : w9.heap.size < w'.heap.size := by omega)); (try (have z10 : w1.heap.size < w'.heap.size + 1 := by omega)); (try (have z20 : w2.heap.size < w'.heap.size + 1 := by omega)); (try (have z30 : w3.heap.size < w'.heap.size + 1 := by omega)); (try (have z40 : w4.heap.size < w'.heap.size + 1 := by omega)); (try (have z50 : w5.heap.size < w'.heap.size + 1 := by omega)); (try (have z60 : w6.heap.size < w'.heap.size + 1 := by omega)); (try (have z70 : w7.heap.size < w'.heap.size + 1 := by omega)); (try (have z80 : w8.heap.size < w'.heap.size + 1 := by omega)); (have e1 : E1 < w'.heap.size := by omega); (have e4 : E1 < w'.heap.size + 1 := by omega); (have e2 : E2 < w'.heap.size := by omega); (have e5 : E2 < w'.heap.size + 1 := by omega); (have e3 : E3 < w'.heap.size := by omega); (have e6 : E3 < w'.heap.size + 1 := by omega); obtain ⟨w5, rfl⟩ : ∃ v, v = w' := ⟨_, rfl⟩) | (go_at_call 13; ((with_reducible refine (OA.out _).mono ?_); rintro e w' ⟨rfl, hb⟩); (try replace hb := below_undrew hb); (try replace hb := below_undrewN hb); obtain ⟨hcell, hfroz⟩ := bcell hb; have hz := hb.size; (try simp at hz); (try (have z6 := Nat.lt_of_lt_of_le z7 hz)); (try (have z7 := Nat.lt_of_lt_of_le z8 hz)); (try (have z8 := Nat.lt_of_lt_of_le z9 hz)); (try (have z9 := Nat.lt_of_lt_of_le (Nat.lt_succ_self _) hz)); (try (have z0 : w.heap.size < w'.heap.size := by omega)); (try (have z1 : w.heap.size + 1 < w'.heap.size := by omega)); (try (have z2 : w.heap.size + 1 + 1 < w'.heap.size := by omega)); (try (have z3 : w.heap.size + 1 + 1 + 1 < w'.heap.size := by omega)); (try (have y1 : w1.heap.size < w'.heap.size := by omega)); (try (have y2 : w2.heap.size < w'.heap.size := by omega)); (try (have y3 : w3.heap.size < w'.heap.size := by omega)); (try (have y4 : w4.heap.size < w'.heap.size := by omega)); (try (have y5 : w5.heap.size < w'.heap.size := by omega)); (try (have y6 : w6.heap.size < w'.heap.size := by omega)); (try (have x1 : w1.heap.size + 1 < w'.heap.size := by omega)); (try (have x2 : w2.heap.size + 1 < w'.heap.size := by omega)); (try (have x3 : w3.heap.size + 1 < w'.heap.size := by omega)); (try (have x4 : w4.heap.size + 1 < w'.heap.size := by omega)); (try (have x5 : w5.heap.size + 1 < w'.heap.size := by omega)); (try (have x6 : w6.heap.size + 1 < w'.heap.size := by omega)); (try (have y7 : w7.heap.size < w'.heap.size := by omega)); (try (have y8 : w8.heap.size < w'.heap.size := by omega)); (try (have y9 : w9.heap.size < w'.heap.size := by omega)); (try (have z10 : w1.heap.size < w'.heap.size + 1 := by omega)); (try (have z20 : w2.heap.size < w'.heap.size + 1 := by omega)); (try (have z30 : w3.heap.size < w'.heap.size + 1 := by omega)); (try (have z40 : w4.heap.size < w'.heap.size + 1 := by omega)); (try (have z50 : w5.heap.size < w'.heap.size + 1 := by omega)); (try (have z60 : w6.heap.size < w'.heap.size + 1 := by omega)); (try (have z70 : w7.heap.size < w'.heap.size + 1 := by omega)); (try (have z80 : w8.heap.size < w'.heap.size + 1 := by omega)); (have e1 : E1 < w'.heap.size := by omega); (have e4 : E1 < w'.heap.size + 1 := by omega); (have e2 : E2 < w'.heap.size := by omega); (have e5 : E2 < w'.heap.size + 1 := by omega); (have e3 : E3 < w'.heap.size := by omega); (have e6 : E3 < w'.heap.size + 1 := by omega); obtain ⟨w6, rfl⟩ : ∃ v, v = w' := ⟨_, rfl⟩) | (go_at_call 13; ((with_reducible refine (OB.out _).mono ?_); rintro e w' ⟨rfl, hb⟩); (try replace hb := below_undrew hb); (try replace hb := below_undrewN hb); obtain ⟨hcell, hfroz⟩ := bcell hb; have hz := hb.size; (try simp at hz); (try (have z6 := Nat.lt_of_lt_of_le z7 hz)); (try (have z7 := Nat.lt_of_lt_of_le z8 hz)); (try (have z8 := Nat.lt_of_lt_of_le z9 hz)); (try (have z9 := Nat.lt_of_lt_of_le (Nat.lt_succ_self _) hz)); (try (have z0 : w.heap.size < w'.heap.size := by omega)); (try (have z1 : w.heap.size + 1 < w'.heap.size := by omega)); (try (have z2 : w.heap.size + 1 + 1 < w'.heap.size := by omega)); (try (have z3 : w.heap.size + 1 + 1 + 1 < w'.heap.size := by omega)); (try (have y1 : w1.heap.size < w'.heap.size := by omega)); (try (have y2 : w2.heap.size < w'.heap.size := by omega)); (try (have y3 : w3.heap.size < w'.heap.size := by omega)); (try (have y4 : w4.heap.size < w'.heap.size := by omega)); (try (have y5 : w5.heap.size < w'.heap.size := by omega)); (try (have y6 : w6.heap.size < w'.heap.size := by omega)); (try (have x1 : w1.heap.size + 1 < w'.heap.size := by omega)); (try (have x2 : w2.heap.size + 1 < w'.heap.size := by omega)); (try (have x3 : w3.heap.size + 1 < w'.heap.size := by omega)); (try (have x4 : w4.heap.size + 1 < w'.heap.size := by omega)); (try (have x5 : w5.heap.size + 1 < w'.heap.size := by omega)); (try (have x6 : w6.heap.size + 1 < w'.heap.size := by omega)); (try (have y7 : w7.heap.size < w'.heap.size := by omega)); (try (have y8 : w8.heap.size < w'.heap.size := by omega)); (try (have y9 : w9.heap.size < w'.heap.size := by omega)); (try (have z10 : w1.heap.size < w'.heap.size + 1 := by omega)); (try (have z20 : w2.heap.size < w'.heap.size + 1 := by omega)); (try (have z30 : w3.heap.size < w'.heap.size + 1 := by omega)); (try (have z40 : w4.heap.size < w'.heap.size + 1 := by omega)); (try (have z50 : w5.heap.size < w'.heap.size + 1 := by omega)); (try (have z60 : w6.heap.size < w'.heap.size + 1 := by omega)); (try (have z70 : w7.heap.size < w'.heap.size + 1 := by omega)); (try (have z80 : w8.heap.size < w'.heap.size + 1 := by omega)); (have e1 : E1 < w'.heap.size := by omega); (have e4 : E1 < w'.heap.size + 1 := by omega); (have e2 : E2 < w'.heap.size := by omega); (have e5 : E2 < w'.heap.size + 1 := by omega); (have e3 : E3 < w'.heap.size := by omega); (have e6 : E3 < w'.heap.size + 1 := by omega); obtain ⟨w7, rfl⟩ : ∃ v, v = w' := ⟨_, rfl⟩) | (go_at_call 17; ((with_reducible refine (N1.out _).mono ?_); rintro e w' ⟨rfl, hb⟩); (try replace hb := below_undrew hb); (try replace hb := below_undrewN hb); obtain ⟨hcell, hfroz⟩ := bcell hb; have hz := hb.size; (try simp at hz); (try (have z6 := Nat.lt_of_lt_of_le z7 hz)); (try (have z7 := Nat.lt_of_lt_of_le z8 hz)); (try (have z8 := Nat.lt_of_lt_of_le z9 hz)); (try (have z9 := Nat.lt_of_lt_of_le (Nat.lt_succ_self _) hz)); (try (have z0 : w.heap.size < w'.heap.size := by omega)); (try (have z1 : w.heap.size + 1 < w'.heap.size := by omega)); (try (have z2 : w.heap.size + 1 + 1 < w'.heap.size := by omega)); (try (have z3 : w.heap.size + 1 + 1 + 1 < w'.heap.size := by omega)); (try (have y1 : w1.heap.size < w'.heap.size := by omega)); (try (have y2 : w2.heap.size < w'.heap.size := by omega)); (try (have y3 : w3.heap.size < w'.heap.size := by omega)); (try (have y4 : w4.heap.size < w'.heap.size := by omega)); (try (have y5 : w5.heap.size < w'.heap.size := by omega)); (try (have y6 : w6.heap.size < w'.heap.size := by omega)); (try (have x1 : w1.heap.size + 1 < w'.heap.size := by omega)); (try (have x2 : w2.heap.size + 1 < w'.heap.size := by omega)); (try (have x3 : w3.heap.size + 1 < w'.heap.size := by omega)); (try (have x4 : w4.heap.size + 1 < w'.heap.size := by omega)); (try (have x5 : w5.heap.size + 1 < w'.heap.size := by omega)); (try (have x6 : w6.heap.size + 1 < w'.heap.size := by omega)); (try (have y7 : w7.heap.size < w'.heap.size := by omega)); (try (have y8 : w8.heap.size < w'.heap.size := by omega)); (try (have y9 : w9.heap.size < w'.heap.size := by omega)); (try (have z10 : w1.heap.size < w'.heap.size + 1 := by omega)); (try (have z20 : w2.heap.size < w'.heap.size + 1 := by omega)); (try (have z30 : w3.heap.size < w'.heap.size + 1 := by omega)); (try (have z40 : w4.heap.size < w'.heap.size + 1 := by omega)); (try (have z50 : w5.heap.size < w'.heap.size + 1 := by omega)); (try (have z60 : w6.heap.size < w'.heap.size + 1 := by omega)); (try (have z70 : w7.heap.size < w'.heap.size + 1 := by omega)); (try (have z80 : w8.heap.size < w'.heap.size + 1 := by omega)); (have e1 : E1 < w'.heap.size := by omega); (have e4 : E1 < w'.heap.size + 1 := by omega); (have e2 : E2 < w'.heap.size := by omega); (have e5 : E2 < w'.heap.size + 1 := by omega); (have e3 : E3 < w'.heap.size := by omega); (have e6 : E3 < w'.heap.size + 1 := by omega)) | (go_at_call 17; ((with_reducible refine (N2.out _).mono ?_); rintro e w' ⟨rfl, hb⟩); (try replace hb := below_undrew hb); (try replace hb := below_undrewN hb); obtain ⟨hcell, hfroz⟩ := bcell hb; have hz := hb.size; (try simp at hz); (try (have z6 := Nat.lt_of_lt_of_le z7 hz)); (try (have z7 := Nat.lt_of_lt_of_le z8 hz)); (try (have z8 := Nat.lt_of_lt_of_le z9 hz)); (try (have z9 := Nat.lt_of_lt_of_le (Nat.lt_succ_self _) hz)); (try (have z0 : w.heap.size < w'.heap.size := by omega)); (try (have z1 : w.heap.size + 1 < w'.heap.size := by omega)); (try (have z2 : w.heap.size + 1 + 1 < w'.heap.size := by omega)); (try (have z3 : w.heap.size + 1 + 1 + 1 < w'.heap.size := by omega)); (try (have y1 : w1.heap.size < w'.heap.size := by omega)); (try (have y2 : w2.heap.size < w'.heap.size := by omega)); (try (have y3 : w3.heap.size < w'.heap.size := by omega)); (try (have y4 : w4.heap.size < w'.heap.size := by omega)); (try (have y5 : w5.heap.size < w'.heap.size := by omega)); (try (have y6 : w6.heap.size < w'.heap.size := by omega)); (try (have x1 : w1.heap.size + 1 < w'.heap.size := by omega)); (try (have x2 : w2.heap.size + 1 < w'.heap.size := by omega)); (try (have x3 : w3.heap.size + 1 < w'.heap.size := by omega)); (try (have x4 : w4.heap.size + 1 < w'.heap.size := by omega)); (try (have x5 : w5.heap.size + 1 < w'.heap.size := by omega)); (try (have x6 : w6.heap.size + 1 < w'.heap.size := by omega)); (try (have y7 : w7.heap.size < w'.heap.size := by omega)); (try (have y8 : w8.heap.size < w'.heap.size := by omega)); (try (have y9 : w9.heap.size < w'.heap.size := by omega)); (try (have z10 : w1.heap.size < w'.heap.size + 1 := by omega)); (try (have z20 : w2.heap.size < w'.heap.size + 1 := by omega)); (try (have z30 : w3.heap.size < w'.heap.size + 1 := by omega)); (try (have z40 : w4.heap.size < w'.heap.size + 1 := by omega)); (try (have z50 : w5.heap.size < w'.heap.size + 1 := by omega)); (try (have z60 : w6.heap.size < w'.heap.size + 1 := by omega)); (try (have z70 : w7.heap.size < w'.heap.size + 1 := by omega)); (try (have z80 : w8.heap.size < w'.heap.size + 1 := by omega)); (have e1 : E1 < w'.heap.size := by omega); (have e4 : E1 < w'.heap.size + 1 := by omega); (have e2 : E2 < w'.heap.size := by omega); (have e5 : E2 < w'.heap.size + 1 := by omega); (have e3 : E3 < w'.heap.size := by omega); (have e6 : E3 < w'.heap.size + 1 := by omega)) | (go_at_call 17; ((with_reducible refine (N3.out _).mono ?_); rintro e w' ⟨rfl, hb⟩); (try replace hb := below_undrew hb); (try replace hb := below_undrewN hb); obtain ⟨hcell, hfroz⟩ := bcell hb; have hz := hb.size; (try simp at hz); (try (have z6 := Nat.lt_of_lt_of_le z7 hz)); (try (have z7 := Nat.lt_of_lt_of_le z8 hz)); (try (have z8 := Nat.lt_of_lt_of_le z9 hz)); (try (have z9 := Nat.lt_of_lt_of_le (Nat.lt_succ_self _) hz)); (try (have z0 : w.heap.size < w'.heap.size := by omega)); (try (have z1 : w.heap.size + 1 < w'.heap.size := by omega)); (try (have z2 : w.heap.size + 1 + 1 < w'.heap.size := by omega)); (try (have z3 : w.heap.size + 1 + 1 + 1 < w'.heap.size := by omega)); (try (have y1 : w1.heap.size < w'.heap.size := by omega)); (try (have y2 : w2.heap.size < w'.heap.size := by omega)); (try (have y3 : w3.heap.size < w'.heap.size := by omega)); (try (have y4 : w4.heap.size < w'.heap.size := by omega)); (try (have y5 : w5.heap.size < w'.heap.size := by omega)); (try (have y6 : w6.heap.size < w'.heap.size := by omega)); (try (have x1 : w1.heap.size + 1 < w'.heap.size := by omega)); (try (have x2 : w2.heap.size + 1 < w'.heap.size := by omega)); (try (have x3 : w3.heap.size + 1 < w'.heap.size := by omega)); (try (have x4 : w4.heap.size + 1 < w'.heap.size := by omega)); (try (have x5 : w5.heap.size + 1 < w'.heap.size := by omega)); (try (have x6 : w6.heap.size + 1 < w'.heap.size := by omega)); (try (have y7 : w7.heap.size < w'.heap.size := by omega)); (try (have y8 : w8.heap.size < w'.heap.size := by omega)); (try (have y9 : w9.heap.size < w'.heap.size := by omega)); (try (have z10 : w1.heap.size < w'.heap.size + 1 := by omega)); (try (have z20 : w2.heap.size < w'.heap.size + 1 := by omega)); (try (have z30 : w3.heap.size < w'.heap.size + 1 := by omega)); (try (have z40 : w4.heap.size < w'.heap.size + 1 := by omega)); (try (have z50 : w5.heap.size < w'.heap.size + 1 := by omega)); (try (have z60 : w6.heap.size < w'.heap.size + 1 := by omega)); (try (have z70 : w7.heap.size < w'.heap.size + 1 := by omega)); (try (have z80 : w8.heap.size < w'.heap.size + 1 := by omega)); (have e1 : E1 < w'.heap.size := by omega); (have e4 : E1 < w'.heap.size + 1 := by omega); (have e2 : E2 < w'.heap.size := by omega); (have e5 : E2 < w'.heap.size + 1 := by omega); (have e3 : E3 < w'.heap.size := by omega); (have e6 : E3 < w'.heap.size + 1 := by omega)) | (go_at_call 11; ((with_reducible refine (DA.out _).mono ?_); rintro e w' ⟨rfl, hb⟩); (try replace hb := below_undrew hb); (try replace hb := below_undrewN hb); obtain ⟨hcell, hfroz⟩ := bcell hb; have hz := hb.size; (try simp at hz); (try (have z6 := Nat.lt_of_lt_of_le z7 hz)); (try (have z7 := Nat.lt_of_lt_of_le z8 hz)); (try (have z8 := Nat.lt_of_lt_of_le z9 hz)); (try (have z9 := Nat.lt_of_lt_of_le (Nat.lt_succ_self _) hz)); (try (have z0 : w.heap.size < w'.heap.size := by omega)); (try (have z1 : w.heap.size + 1 < w'.heap.size := by omega)); (try (have z2 : w.heap.size + 1 + 1 < w'.heap.size := by omega)); (try (have z3 : w.heap.size + 1 + 1 + 1 < w'.heap.size := by omega)); (try (have y1 : w1.heap.size < w'.heap.size := by omega)); (try (have y2 : w2.heap.size < w'.heap.size := by omega)); (try (have y3 : w3.heap.size < w'.heap.size := by omega)); (try (have y4 : w4.heap.size < w'.heap.size := by omega)); (try (have y5 : w5.heap.size < w'.heap.size := by omega)); (try (have y6 : w6.heap.size < w'.heap.size := by omega)); (try (have x1 : w1.heap.size + 1 < w'.heap.size := by omega)); (try (have x2 : w2.heap.size + 1 < w'.heap.size := by omega)); (try (have x3 : w3.heap.size + 1 < w'.heap.size := by omega)); (try (have x4 : w4.heap.size + 1 < w'.heap.size := by omega)); (try (have x5 : w5.heap.size + 1 < w'.heap.size := by omega)); (try (have x6 : w6.heap.size + 1 < w'.heap.size := by omega)); (try (have y7 : w7.heap.size < w'.heap.size := by omega)); (try (have y8 : w8.heap.size < w'.heap.size := by omega)); (try (have y9 : w9.heap.size < w'.heap.size := by omega)); (try (have z10 : w1.heap.size < w'.heap.size + 1 := by omega)); (try (have z20 : w2.heap.size < w'.heap.size + 1 := by omega)); (try (have z30 : w3.heap.size < w'.heap.size + 1 := by omega)); (try (have z40 : w4.heap.size < w'.heap.size + 1 := by omega)); (try (have z50 : w5.heap.size < w'.heap.size + 1 := by omega)); (try (have z60 : w6.heap.size < w'.heap.size + 1 := by omega)); (try (have z70 : w7.heap.size < w'.heap.size + 1 := by omega)); (try (have z80 : w8.heap.size < w'.heap.size + 1 := by omega)); (have e1 : E1 < w'.heap.size := by omega); (have e4 : E1 < w'.heap.size + 1 := by omega); (have e2 : E2 < w'.heap.size := by omega); (have e5 : E2 < w'.heap.size + 1 := by omega); (have e3 : E3 < w'.heap.size := by omega); (have e6 : E3 < w'.heap.size + 1 := by omega)) | (go_at_call 11; ((with_reducible refine (DB.out _).mono ?_); rintro e w' ⟨rfl, hb⟩); (try replace hb := below_undrew hb); (try replace hb := below_undrewN hb); obtain ⟨hcell, hfroz⟩ := bcell hb; have hz := hb.size; (try simp at hz); (try (have z6 := Nat.lt_of_lt_of_le z7 hz)); (try (have z7 := Nat.lt_of_lt_of_le z8 hz)); (try (have z8 := Nat.lt_of_lt_of_le z9 hz)); (try (have z9 := Nat.lt_of_lt_of_le (Nat.lt_succ_self _) hz)); (try (have z0 : w.heap.size < w'.heap.size := by omega)); (try (have z1 : w.heap.size + 1 < w'.heap.size := by omega)); (try (have z2 : w.heap.size + 1 + 1 < w'.heap.size := by omega)); (try (have z3 : w.heap.size + 1 + 1 + 1 < w'.heap.size := by omega)); (try (have y1 : w1.heap.size < w'.heap.size := by omega)); (try (have y2 : w2.heap.size < w'.heap.size := by omega)); (try (have y3 : w3.heap.size < w'.heap.size := by omega)); (try (have y4 : w4.heap.size < w'.heap.size := by omega)); (try (have y5 : w5.heap.size < w'.heap.size := by omega)); (try (have y6 : w6.heap.size < w'.heap.size := by omega)); (try (have x1 : w1.heap.size + 1 < w'.heap.size := by omega)); (try (have x2 : w2.heap.size + 1 < w'.heap.size := by omega)); (try (have x3 : w3.heap.size + 1 < w'.heap.size := by omega)); (try (have x4 : w4.heap.size + 1 < w'.heap.size := by omega)); (try (have x5 : w5.heap.size + 1 < w'.heap.size := by omega)); (try (have x6 : w6.heap.size + 1 < w'.heap.size := by omega)); (try (have y7 : w7.heap.size < w'.heap.size := by omega)); (try (have y8 : w8.heap.size < w'.heap.size := by omega)); (try (have y9 : w9.heap.size < w'.heap.size := by omega)); (try (have z10 : w1.heap.size < w'.heap.size + 1 := by omega)); (try (have z20 : w2.heap.size < w'.heap.size + 1 := by omega)); (try (have z30 : w3.heap.size < w'.heap.size + 1 := by omega)); (try (have z40 : w4.heap.size < w'.heap.size + 1 := by omega)); (try (have z50 : w5.heap.size < w'.heap.size + 1 := by omega)); (try (have z60 : w6.heap.size < w'.heap.size + 1 := by omega)); (try (have z70 : w7.heap.size < w'.heap.size + 1 := by omega)); (try (have z80 : w8.heap.size < w'.heap.size + 1 := by omega)); (have e1 : E1 < w'.heap.size := by omega); (have e4 : E1 < w'.heap.size + 1 := by omega); (have e2 : E2 < w'.heap.size := by omega); (have e5 : E2 < w'.heap.size + 1 := by omega); (have e3 : E3 < w'.heap.size := by omega); (have e6 : E3 < w'.heap.size + 1 := by omega)))
    go_ret
    exact ⟨by first | rfl | (refine ret_bool ?_; simp [*]), by (repeat (first | exact Below.refl _ _ | refine bl_drewN ?_ | refine bl_drew ?_ | refine bl_alloc ?_ _ | refine Below.setCell ?_ (by (first | (simp; done) | (simp; omega) | omega)) _ | refine bl_step (by assumption) ?_))⟩

set_option maxRecDepth 100000 in
set_option maxHeartbeats 8000000 in
theorem pparts_zero (a b c d q r i j k s p h A1 A2 B1 B2 C1 C2 D1 D2 X1 X2 Y1 Y2 u v g : Int) (w : World) (h1 : smallB a b = true) (h2 : smallB c d = true) (h3 : altB q r = true)
    (PS : Hid (∀ w, Calls Try.prog 16 #[.agg #[.int .i64 (a), .int .i64 (b)], .int .u32 i] w fun e w' => e = .returned (.agg #[.int .i64 (s), .int .i64 (s)]) ∧ Below w.heap.size w w'))
    (PP : Hid (∀ w, Calls Try.prog 16 #[.agg #[.int .i64 (c), .int .i64 (d)], .int .u32 j] w fun e w' => e = .returned (.agg #[.int .i64 (p), .int .i64 (p)]) ∧ Below w.heap.size w w'))
    (PH : Hid (∀ w, Calls Try.prog 16 #[.agg #[.int .i64 (q), .int .i64 (r)], .int .u32 k] w fun e w' => e = .returned (.agg #[.int .i64 (h), .int .i64 (h)]) ∧ Below w.heap.size w w'))
    (IA : Hid (∀ w, Calls Try.prog 9 #[.agg #[.int .i64 (c), .int .i64 (d)], .agg #[.int .i64 (q), .int .i64 (r)]] w fun e w' => e = .returned (.tuple #[.agg #[.int .i64 (A1), .int .i64 (A2)], .int .i64 (0)]) ∧ Below w.heap.size w w'))
    (IB : Hid (∀ w, Calls Try.prog 9 #[.agg #[.int .i64 (p), .int .i64 (p)], .agg #[.int .i64 (h), .int .i64 (h)]] w fun e w' => e = .returned (.tuple #[.agg #[.int .i64 (B1), .int .i64 (B2)], .int .i64 (0)]) ∧ Below w.heap.size w w'))
    (UA : Hid (∀ w, Calls Try.prog 12 #[.agg #[.int .i64 (a), .int .i64 (b)], .agg #[.int .i64 (c), .int .i64 (d)], .agg #[.int .i64 (q), .int .i64 (r)]] w fun e w' => e = .returned (.tuple #[.agg #[.int .i64 (C1), .int .i64 (C2)], .int .i64 (0)]) ∧ Below w.heap.size w w'))
    (UB : Hid (∀ w, Calls Try.prog 12 #[.agg #[.int .i64 (s), .int .i64 (s)], .agg #[.int .i64 (p), .int .i64 (p)], .agg #[.int .i64 (h), .int .i64 (h)]] w fun e w' => e = .returned (.tuple #[.agg #[.int .i64 (D1), .int .i64 (D2)], .int .i64 (0)]) ∧ Below w.heap.size w w'))
    (OA : Hid (∀ w, Calls Try.prog 13 #[.agg #[.int .i64 (c), .int .i64 (d)], .agg #[.int .i64 (q), .int .i64 (r)]] w fun e w' => e = .returned (.tuple #[.agg #[.int .i64 (X1), .int .i64 (X2)], .int .i64 (0)]) ∧ Below w.heap.size w w'))
    (OB : Hid (∀ w, Calls Try.prog 13 #[.agg #[.int .i64 (p), .int .i64 (p)], .agg #[.int .i64 (h), .int .i64 (h)]] w fun e w' => e = .returned (.tuple #[.agg #[.int .i64 (Y1), .int .i64 (Y2)], .int .i64 (0)]) ∧ Below w.heap.size w w'))
    (N1 : Hid (∀ w, Calls Try.prog 17 #[.agg #[.int .i64 (B1), .int .i64 (B2)], .agg #[.int .i64 (A1), .int .i64 (A2)]] w fun e w' => e = .returned (.bool true) ∧ Below w.heap.size w w'))
    (N2 : Hid (∀ w, Calls Try.prog 17 #[.agg #[.int .i64 (D1), .int .i64 (D2)], .agg #[.int .i64 (C1), .int .i64 (C2)]] w fun e w' => e = .returned (.bool true) ∧ Below w.heap.size w w'))
    (N3 : Hid (∀ w, Calls Try.prog 17 #[.agg #[.int .i64 (Y1), .int .i64 (Y2)], .agg #[.int .i64 (X1), .int .i64 (X2)]] w fun e w' => e = .returned (.bool true) ∧ Below w.heap.size w w'))
    (DA : Hid (∀ w, Calls Try.prog 11 #[.agg #[.int .i64 (c), .int .i64 (d)]] w fun e w' => e = .returned (.tuple #[.int .i64 0, .int .i64 0, .int .i64 16]) ∧ Below w.heap.size w w'))
    (DB : Hid (∀ w, Calls Try.prog 11 #[.agg #[.int .i64 (p), .int .i64 (p)]] w fun e w' => e = .returned (.tuple #[.int .i64 u, .int .i64 v, .int .i64 g]) ∧ Below w.heap.size w w'))
 :
    Calls Try.prog 7 #[.agg #[.int .i64 (a), .int .i64 (b)], .agg #[.int .i64 (c), .int .i64 (d)], .agg #[.int .i64 (q), .int .i64 (r)], .int .u32 i, .int .u32 j, .int .u32 k] w fun e w' => e = .returned (.bool true) ∧ Below w.heap.size w w' := by
  go_enter Try.func7, Try.ntmps7
  go_wp2_with (first | (go_at_call 8; ((with_reducible refine (awake21_is _).mono ?_); rintro e w' ⟨rfl, hb⟩); (try replace hb := below_undrew hb); (try replace hb := below_undrewN hb); obtain ⟨hcell, hfroz⟩ := bcell hb; have hz := hb.size; (try simp at hz); (try (have z6 := Nat.lt_of_lt_of_le z7 hz)); (try (have z7 := Nat.lt_of_lt_of_le z8 hz)); (try (have z8 := Nat.lt_of_lt_of_le z9 hz)); (try (have z9 := Nat.lt_of_lt_of_le (Nat.lt_succ_self _) hz)); (try (have z0 : w.heap.size < w'.heap.size := by omega)); (try (have z1 : w.heap.size + 1 < w'.heap.size := by omega)); (try (have z2 : w.heap.size + 1 + 1 < w'.heap.size := by omega)); (try (have z3 : w.heap.size + 1 + 1 + 1 < w'.heap.size := by omega)); (try (have y1 : w1.heap.size < w'.heap.size := by omega)); (try (have y2 : w2.heap.size < w'.heap.size := by omega)); (try (have y3 : w3.heap.size < w'.heap.size := by omega)); (try (have y4 : w4.heap.size < w'.heap.size := by omega)); (try (have y5 : w5.heap.size < w'.heap.size := by omega)); (try (have y6 : w6.heap.size < w'.heap.size := by omega)); (try (have x1 : w1.heap.size + 1 < w'.heap.size := by omega)); (try (have x2 : w2.heap.size + 1 < w'.heap.size := by omega)); (try (have x3 : w3.heap.size + 1 < w'.heap.size := by omega)); (try (have x4 : w4.heap.size + 1 < w'.heap.size := by omega)); (try (have x5 : w5.heap.size + 1 < w'.heap.size := by omega)); (try (have x6 : w6.heap.size + 1 < w'.heap.size := by omega))) | (go_at_call 14; ((with_reducible refine (small21_any _ _ _).mono ?_); rintro e w' ⟨rfl, hb⟩); (try replace hb := below_undrew hb); (try replace hb := below_undrewN hb); obtain ⟨hcell, hfroz⟩ := bcell hb; have hz := hb.size; (try simp at hz); (try (have z6 := Nat.lt_of_lt_of_le z7 hz)); (try (have z7 := Nat.lt_of_lt_of_le z8 hz)); (try (have z8 := Nat.lt_of_lt_of_le z9 hz)); (try (have z9 := Nat.lt_of_lt_of_le (Nat.lt_succ_self _) hz)); (try (have z0 : w.heap.size < w'.heap.size := by omega)); (try (have z1 : w.heap.size + 1 < w'.heap.size := by omega)); (try (have z2 : w.heap.size + 1 + 1 < w'.heap.size := by omega)); (try (have z3 : w.heap.size + 1 + 1 + 1 < w'.heap.size := by omega)); (try (have y1 : w1.heap.size < w'.heap.size := by omega)); (try (have y2 : w2.heap.size < w'.heap.size := by omega)); (try (have y3 : w3.heap.size < w'.heap.size := by omega)); (try (have y4 : w4.heap.size < w'.heap.size := by omega)); (try (have y5 : w5.heap.size < w'.heap.size := by omega)); (try (have y6 : w6.heap.size < w'.heap.size := by omega)); (try (have x1 : w1.heap.size + 1 < w'.heap.size := by omega)); (try (have x2 : w2.heap.size + 1 < w'.heap.size := by omega)); (try (have x3 : w3.heap.size + 1 < w'.heap.size := by omega)); (try (have x4 : w4.heap.size + 1 < w'.heap.size := by omega)); (try (have x5 : w5.heap.size + 1 < w'.heap.size := by omega)); (try (have x6 : w6.heap.size + 1 < w'.heap.size := by omega))) | (go_at_call 15; ((with_reducible refine (alt21_any _ _ _).mono ?_); rintro e w' ⟨rfl, hb⟩); (try replace hb := below_undrew hb); (try replace hb := below_undrewN hb); obtain ⟨hcell, hfroz⟩ := bcell hb; have hz := hb.size; (try simp at hz); (try (have z6 := Nat.lt_of_lt_of_le z7 hz)); (try (have z7 := Nat.lt_of_lt_of_le z8 hz)); (try (have z8 := Nat.lt_of_lt_of_le z9 hz)); (try (have z9 := Nat.lt_of_lt_of_le (Nat.lt_succ_self _) hz)); (try (have z0 : w.heap.size < w'.heap.size := by omega)); (try (have z1 : w.heap.size + 1 < w'.heap.size := by omega)); (try (have z2 : w.heap.size + 1 + 1 < w'.heap.size := by omega)); (try (have z3 : w.heap.size + 1 + 1 + 1 < w'.heap.size := by omega)); (try (have y1 : w1.heap.size < w'.heap.size := by omega)); (try (have y2 : w2.heap.size < w'.heap.size := by omega)); (try (have y3 : w3.heap.size < w'.heap.size := by omega)); (try (have y4 : w4.heap.size < w'.heap.size := by omega)); (try (have y5 : w5.heap.size < w'.heap.size := by omega)); (try (have y6 : w6.heap.size < w'.heap.size := by omega)); (try (have x1 : w1.heap.size + 1 < w'.heap.size := by omega)); (try (have x2 : w2.heap.size + 1 < w'.heap.size := by omega)); (try (have x3 : w3.heap.size + 1 < w'.heap.size := by omega)); (try (have x4 : w4.heap.size + 1 < w'.heap.size := by omega)); (try (have x5 : w5.heap.size + 1 < w'.heap.size := by omega)); (try (have x6 : w6.heap.size + 1 < w'.heap.size := by omega))))
  (refine name_below ?_; intro w' hb; (try replace hb := below_undrew hb); (try replace hb := below_undrewN hb); obtain ⟨hcell, hfroz⟩ := bcell hb; have hz := hb.size; (try simp at hz); (try (have z6 := Nat.lt_of_lt_of_le z7 hz)); (try (have z7 := Nat.lt_of_lt_of_le z8 hz)); (try (have z8 := Nat.lt_of_lt_of_le z9 hz)); (try (have z9 := Nat.lt_of_lt_of_le (Nat.lt_succ_self _) hz)); (try (have z0 : w.heap.size < w'.heap.size := by omega)); (try (have z1 : w.heap.size + 1 < w'.heap.size := by omega)); (try (have z2 : w.heap.size + 1 + 1 < w'.heap.size := by omega)); (try (have z3 : w.heap.size + 1 + 1 + 1 < w'.heap.size := by omega)); (try (have y1 : w1.heap.size < w'.heap.size := by omega)); (try (have y2 : w2.heap.size < w'.heap.size := by omega)); (try (have y3 : w3.heap.size < w'.heap.size := by omega)); (try (have y4 : w4.heap.size < w'.heap.size := by omega)); (try (have y5 : w5.heap.size < w'.heap.size := by omega)); (try (have y6 : w6.heap.size < w'.heap.size := by omega)); (try (have x1 : w1.heap.size + 1 < w'.heap.size := by omega)); (try (have x2 : w2.heap.size + 1 < w'.heap.size := by omega)); (try (have x3 : w3.heap.size + 1 < w'.heap.size := by omega)); (try (have x4 : w4.heap.size + 1 < w'.heap.size := by omega)); (try (have x5 : w5.heap.size + 1 < w'.heap.size := by omega)); (try (have x6 : w6.heap.size + 1 < w'.heap.size := by omega)); (try (have y7 : w7.heap.size < w'.heap.size := by omega)); (try (have y8 : w8.heap.size < w'.heap.size := by omega)); (try (have y9 : w9.heap.size < w'.heap.size := by omega)); (try (have z10 : w1.heap.size < w'.heap.size + 1 := by omega)); (try (have z20 : w2.heap.size < w'.heap.size + 1 := by omega)); (try (have z30 : w3.heap.size < w'.heap.size + 1 := by omega)); (try (have z40 : w4.heap.size < w'.heap.size + 1 := by omega)); (try (have z50 : w5.heap.size < w'.heap.size + 1 := by omega)); (try (have z60 : w6.heap.size < w'.heap.size + 1 := by omega)); (try (have z70 : w7.heap.size < w'.heap.size + 1 := by omega)); (try (have z80 : w8.heap.size < w'.heap.size + 1 := by omega)))
  have c0 : w'.cell? ⟨w.heap.size, 0, none⟩ = some (.int .i64 a) := by simp [go_sem, *]
  have c1 : w'.cell? ⟨w.heap.size, 1, none⟩ = some (.int .i64 b) := by simp [go_sem, *]
  have c2 : w'.cell? ⟨w.heap.size + 1, 0, none⟩ = some (.int .i64 c) := by simp [go_sem, *]
  have c3 : w'.cell? ⟨w.heap.size + 1, 1, none⟩ = some (.int .i64 d) := by simp [go_sem, *]
  have c4 : w'.cell? ⟨w.heap.size + 1 + 1, 0, none⟩ = some (.int .i64 q) := by simp [go_sem, *]
  have c5 : w'.cell? ⟨w.heap.size + 1 + 1, 1, none⟩ = some (.int .i64 r) := by simp [go_sem, *]
  have hw3 : Below w.heap.size w w' := by (repeat (first | exact Below.refl _ _ | refine bl_drewN ?_ | refine bl_drew ?_ | refine bl_alloc ?_ _ | refine Below.setCell ?_ (by (first | (simp; done) | (simp; omega) | omega)) _ | refine bl_step (by assumption) ?_))
  clear hcell hfroz
  obtain ⟨w3, rfl⟩ : ∃ v, v = w' := ⟨_, rfl⟩
  go_cut [14, 15, 16] from 50 to 61 (fun s14 s15 s16 wx => ∃ B1 B2 B3 : Nat, s14 = .pointer (some ⟨B1, 0, none⟩) ∧ s15 = .pointer (some ⟨B2, 0, none⟩) ∧ s16 = .pointer (some ⟨B3, 0, none⟩) ∧ Below w3.heap.size w3 wx ∧ wx.cell? ⟨B1, 0, none⟩ = some (.int .i64 s) ∧ wx.cell? ⟨B1, 1, none⟩ = some (.int .i64 s) ∧ wx.cell? ⟨B2, 0, none⟩ = some (.int .i64 p) ∧ wx.cell? ⟨B2, 1, none⟩ = some (.int .i64 p) ∧ wx.cell? ⟨B3, 0, none⟩ = some (.int .i64 h) ∧ wx.cell? ⟨B3, 1, none⟩ = some (.int .i64 h))
  case first =>
    refine wp_region_inv (fun a0 L a1 v => ∃ (l0 l1 l2 l3 l4 l5 l6 l7 l8 l9 l10 l11 l12 l13 l14 l15 l16 l17 : Bool) (E1 E2 E3 : Nat), L = #[l0, l1, l2, l3, l4, l5, l6, l7, l8, l9, l10, l11, l12, l13, l14, l15, l16, l17] ∧ a1 = { a0 with tmps := (((((((((((((((a0.tmps.setIfInBounds 50 (cond l0 (Value.func (Fn.func 16) #[] #[]) undef)).setIfInBounds 51 (cond l1 (.agg #[.int .i64 (a), .int .i64 (b)]) undef)).setIfInBounds 52 (cond l2 (.int .u32 i) undef)).setIfInBounds 53 (cond l3 (.agg #[.int .i64 (s), .int .i64 (s)]) undef)).setIfInBounds 54 (cond l4 (Value.func (Fn.func 16) #[] #[]) undef)).setIfInBounds 55 (cond l5 (.agg #[.int .i64 (c), .int .i64 (d)]) undef)).setIfInBounds 56 (cond l6 (.int .u32 j) undef)).setIfInBounds 57 (cond l7 (.agg #[.int .i64 (p), .int .i64 (p)]) undef)).setIfInBounds 58 (cond l8 (Value.func (Fn.func 16) #[] #[]) undef)).setIfInBounds 59 (cond l9 (.agg #[.int .i64 (q), .int .i64 (r)]) undef)).setIfInBounds 60 (cond l10 (.int .u32 k) undef)).setIfInBounds 61 (cond l11 (.agg #[.int .i64 (h), .int .i64 (h)]) undef)).setIfInBounds 14 (cond l12 (.pointer (some ⟨E1, 0, none⟩)) undef)).setIfInBounds 15 (cond l13 (.pointer (some ⟨E2, 0, none⟩)) undef)).setIfInBounds 16 (cond l14 (.pointer (some ⟨E3, 0, none⟩)) undef)) } ∧ Below w3.heap.size w3 v ∧ (l12 = true → Room w3 v E1 l15 s) ∧ (l13 = true → Room w3 v E2 l16 p) ∧ (l14 = true → Room w3 v E3 l17 h) ∧ (l15 = true → l12 = true) ∧ (l16 = true → l13 = true) ∧ (l17 = true → l14 = true) ∧ (l12 = true → l13 = true → E1 ≠ E2) ∧ (l12 = true → l14 = true → E1 ≠ E3) ∧ (l13 = true → l14 = true → E2 ≠ E3)) (by kernel_rfl) (by kernel_rfl) ?h0 ?hsize ?hdone ?hstep
    case h0 =>
      refine ⟨false, false, false, false, false, false, false, false, false, false, false, false, false, false, false, false, false, false, 0, 0, 0, rfl, ?_, by (repeat (first | exact Below.refl _ _ | refine bl_drewN ?_ | refine bl_drew ?_ | refine bl_alloc ?_ _ | refine Below.setCell ?_ (by (first | (simp; done) | (simp; omega) | omega)) _ | refine bl_step (by assumption) ?_)), (fun h => by cases h), (fun h => by cases h), (fun h => by cases h), (fun h => by cases h), (fun h => by cases h), (fun h => by cases h), (fun h => by cases h), (fun h => by cases h), (fun h => by cases h)⟩
      simp only [cond_false, List.setIfInBounds_toArray, List.set_cons_zero, List.set_cons_succ]
    case hsize =>
      intro L a1 v h
      obtain ⟨l0, l1, l2, l3, l4, l5, l6, l7, l8, l9, l10, l11, l12, l13, l14, l15, l16, l17, E1, E2, E3, hL, _⟩ := h
      rw [hL]
      rfl
    case hdone =>
      intro L a1 v h hall
      obtain ⟨l0, l1, l2, l3, l4, l5, l6, l7, l8, l9, l10, l11, l12, l13, l14, l15, l16, l17, E1, E2, E3, hL, ha, hb0, r1, r2, r3, q1, q2, q3, n1, n2, n3⟩ := h
      rw [hL] at hall
      have t0 : l0 = true := hall 0 (by decide)
      have t1 : l1 = true := hall 1 (by decide)
      have t2 : l2 = true := hall 2 (by decide)
      have t3 : l3 = true := hall 3 (by decide)
      have t4 : l4 = true := hall 4 (by decide)
      have t5 : l5 = true := hall 5 (by decide)
      have t6 : l6 = true := hall 6 (by decide)
      have t7 : l7 = true := hall 7 (by decide)
      have t8 : l8 = true := hall 8 (by decide)
      have t9 : l9 = true := hall 9 (by decide)
      have t10 : l10 = true := hall 10 (by decide)
      have t11 : l11 = true := hall 11 (by decide)
      have t12 : l12 = true := hall 12 (by decide)
      have t13 : l13 = true := hall 13 (by decide)
      have t14 : l14 = true := hall 14 (by decide)
      have t15 : l15 = true := hall 15 (by decide)
      have t16 : l16 = true := hall 16 (by decide)
      have t17 : l17 = true := hall 17 (by decide)
      clear hall hL
      subst t0 t1 t2 t3 t4 t5 t6 t7 t8 t9 t10 t11 t12 t13 t14 t15 t16 t17
      simp only [cond_true, List.setIfInBounds_toArray, List.set_cons_zero, List.set_cons_succ] at ha
      subst ha
      obtain ⟨_, _, _, _, _, _, a1, a2, a3⟩ := r1 rfl
      obtain ⟨_, _, _, _, _, _, b1, b2, b3⟩ := r2 rfl
      obtain ⟨_, _, _, _, _, _, c1, c2, c3⟩ := r3 rfl
      rw [(a3 rfl).1] at a1
      rw [(a3 rfl).2] at a2
      rw [(b3 rfl).1] at b1
      rw [(b3 rfl).2] at b2
      rw [(c3 rfl).1] at c1
      rw [(c3 rfl).2] at c2
      go_wp2
      go_meet
      exact ⟨_, _, _, rfl, rfl, rfl, hb0, a1, a2, b1, b2, c1, c2⟩
    case hstep =>
      intro L a1 v h
      obtain ⟨l0, l1, l2, l3, l4, l5, l6, l7, l8, l9, l10, l11, l12, l13, l14, l15, l16, l17, E1, E2, E3, hL, ha, hb0, r1, r2, r3, q1, q2, q3, n1, n2, n3⟩ := h
      simp only [List.setIfInBounds_toArray, List.set_cons_zero, List.set_cons_succ] at ha
      subst hL
      subst ha
      refine ⟨?s0, ?s1, ?s2, ?s3, ?s4, ?s5, ?s6, ?s7, ?s8, ?s9, ?s10, ?s11, ?s12, ?s13, ?s14, ?s15, ?s16, ?s17, trivial⟩
      case s0 =>
        intro f g K hK
        have f0 : l0 = false := f
        clear f g
        subst f0
        simp only [cond_false]
        go_simp
        exact hK _ _ ⟨true, l1, l2, l3, l4, l5, l6, l7, l8, l9, l10, l11, l12, l13, l14, l15, l16, l17, E1, E2, E3, rfl, (by simp only [cond_true, List.setIfInBounds_toArray, List.set_cons_zero, List.set_cons_succ]), hb0, r1, r2, r3, q1, q2, q3, n1, n2, n3⟩
      case s1 =>
        intro f g K hK
        have f0 : l1 = false := f
        clear f g
        subst f0
        simp only [cond_false]
        have k0 := cell_later hb0 c0
        have k1 := cell_later hb0 c1
        go_simp
        exact hK _ _ ⟨l0, true, l2, l3, l4, l5, l6, l7, l8, l9, l10, l11, l12, l13, l14, l15, l16, l17, E1, E2, E3, rfl, (by simp only [cond_true, List.setIfInBounds_toArray, List.set_cons_zero, List.set_cons_succ]), hb0, r1, r2, r3, q1, q2, q3, n1, n2, n3⟩
      case s2 =>
        intro f g K hK
        have f0 : l2 = false := f
        clear f g
        subst f0
        simp only [cond_false]
        go_simp
        exact hK _ _ ⟨l0, l1, true, l3, l4, l5, l6, l7, l8, l9, l10, l11, l12, l13, l14, l15, l16, l17, E1, E2, E3, rfl, (by simp only [cond_true, List.setIfInBounds_toArray, List.set_cons_zero, List.set_cons_succ]), hb0, r1, r2, r3, q1, q2, q3, n1, n2, n3⟩
      case s3 =>
        intro f g K hK
        have t0 : l0 = true := g ⟨0, .data⟩ (by simp) (by rfl)
        have t1 : l1 = true := g ⟨1, .data⟩ (by simp) (by rfl)
        have t2 : l2 = true := g ⟨2, .data⟩ (by simp) (by rfl)
        subst t0 t1 t2
        have f0 : l3 = false := f
        clear f g
        subst f0
        simp only [cond_true, cond_false]
        go_simp
        go_at_call 16
        with_reducible refine (PS.out _).mono ?_
        rintro e w' ⟨rfl, hb⟩
        exact hK _ _ ⟨true, true, true, true, l4, l5, l6, l7, l8, l9, l10, l11, l12, l13, l14, l15, l16, l17, E1, E2, E3, rfl, (by simp only [cond_true, List.setIfInBounds_toArray, List.set_cons_zero, List.set_cons_succ]), bl_step hb hb0, (fun t => (r1 t).later hb), (fun t => (r2 t).later hb), (fun t => (r3 t).later hb), q1, q2, q3, n1, n2, n3⟩
      case s4 =>
        intro f g K hK
        have f0 : l4 = false := f
        clear f g
        subst f0
        simp only [cond_false]
        go_simp
        exact hK _ _ ⟨l0, l1, l2, l3, true, l5, l6, l7, l8, l9, l10, l11, l12, l13, l14, l15, l16, l17, E1, E2, E3, rfl, (by simp only [cond_true, List.setIfInBounds_toArray, List.set_cons_zero, List.set_cons_succ]), hb0, r1, r2, r3, q1, q2, q3, n1, n2, n3⟩
      case s5 =>
        intro f g K hK
        have f0 : l5 = false := f
        clear f g
        subst f0
        simp only [cond_false]
        have k0 := cell_later hb0 c2
        have k1 := cell_later hb0 c3
        go_simp
        exact hK _ _ ⟨l0, l1, l2, l3, l4, true, l6, l7, l8, l9, l10, l11, l12, l13, l14, l15, l16, l17, E1, E2, E3, rfl, (by simp only [cond_true, List.setIfInBounds_toArray, List.set_cons_zero, List.set_cons_succ]), hb0, r1, r2, r3, q1, q2, q3, n1, n2, n3⟩
      case s6 =>
        intro f g K hK
        have f0 : l6 = false := f
        clear f g
        subst f0
        simp only [cond_false]
        go_simp
        exact hK _ _ ⟨l0, l1, l2, l3, l4, l5, true, l7, l8, l9, l10, l11, l12, l13, l14, l15, l16, l17, E1, E2, E3, rfl, (by simp only [cond_true, List.setIfInBounds_toArray, List.set_cons_zero, List.set_cons_succ]), hb0, r1, r2, r3, q1, q2, q3, n1, n2, n3⟩
      case s7 =>
        intro f g K hK
        have t4 : l4 = true := g ⟨4, .data⟩ (by simp) (by rfl)
        have t5 : l5 = true := g ⟨5, .data⟩ (by simp) (by rfl)
        have t6 : l6 = true := g ⟨6, .data⟩ (by simp) (by rfl)
        have t3 : l3 = true := g ⟨3, .chain⟩ (by simp) (by rfl)
        subst t4 t5 t6 t3
        have f0 : l7 = false := f
        clear f g
        subst f0
        simp only [cond_true, cond_false]
        go_simp
        go_at_call 16
        with_reducible refine (PP.out _).mono ?_
        rintro e w' ⟨rfl, hb⟩
        exact hK _ _ ⟨l0, l1, l2, true, true, true, true, true, l8, l9, l10, l11, l12, l13, l14, l15, l16, l17, E1, E2, E3, rfl, (by simp only [cond_true, List.setIfInBounds_toArray, List.set_cons_zero, List.set_cons_succ]), bl_step hb hb0, (fun t => (r1 t).later hb), (fun t => (r2 t).later hb), (fun t => (r3 t).later hb), q1, q2, q3, n1, n2, n3⟩
      case s8 =>
        intro f g K hK
        have f0 : l8 = false := f
        clear f g
        subst f0
        simp only [cond_false]
        go_simp
        exact hK _ _ ⟨l0, l1, l2, l3, l4, l5, l6, l7, true, l9, l10, l11, l12, l13, l14, l15, l16, l17, E1, E2, E3, rfl, (by simp only [cond_true, List.setIfInBounds_toArray, List.set_cons_zero, List.set_cons_succ]), hb0, r1, r2, r3, q1, q2, q3, n1, n2, n3⟩
      case s9 =>
        intro f g K hK
        have f0 : l9 = false := f
        clear f g
        subst f0
        simp only [cond_false]
        have k0 := cell_later hb0 c4
        have k1 := cell_later hb0 c5
        go_simp
        exact hK _ _ ⟨l0, l1, l2, l3, l4, l5, l6, l7, l8, true, l10, l11, l12, l13, l14, l15, l16, l17, E1, E2, E3, rfl, (by simp only [cond_true, List.setIfInBounds_toArray, List.set_cons_zero, List.set_cons_succ]), hb0, r1, r2, r3, q1, q2, q3, n1, n2, n3⟩
      case s10 =>
        intro f g K hK
        have f0 : l10 = false := f
        clear f g
        subst f0
        simp only [cond_false]
        go_simp
        exact hK _ _ ⟨l0, l1, l2, l3, l4, l5, l6, l7, l8, l9, true, l11, l12, l13, l14, l15, l16, l17, E1, E2, E3, rfl, (by simp only [cond_true, List.setIfInBounds_toArray, List.set_cons_zero, List.set_cons_succ]), hb0, r1, r2, r3, q1, q2, q3, n1, n2, n3⟩
      case s11 =>
        intro f g K hK
        have t8 : l8 = true := g ⟨8, .data⟩ (by simp) (by rfl)
        have t9 : l9 = true := g ⟨9, .data⟩ (by simp) (by rfl)
        have t10 : l10 = true := g ⟨10, .data⟩ (by simp) (by rfl)
        have t7 : l7 = true := g ⟨7, .chain⟩ (by simp) (by rfl)
        subst t8 t9 t10 t7
        have f0 : l11 = false := f
        clear f g
        subst f0
        simp only [cond_true, cond_false]
        go_simp
        go_at_call 16
        with_reducible refine (PH.out _).mono ?_
        rintro e w' ⟨rfl, hb⟩
        exact hK _ _ ⟨l0, l1, l2, l3, l4, l5, l6, true, true, true, true, true, l12, l13, l14, l15, l16, l17, E1, E2, E3, rfl, (by simp only [cond_true, List.setIfInBounds_toArray, List.set_cons_zero, List.set_cons_succ]), bl_step hb hb0, (fun t => (r1 t).later hb), (fun t => (r2 t).later hb), (fun t => (r3 t).later hb), q1, q2, q3, n1, n2, n3⟩
      case s12 =>
        intro f g K hK
        have f0 : l12 = false := f
        clear f g
        subst f0
        simp only [cond_false]
        go_simp
        have hb : Below v.heap.size v (v.alloc (Obj.cells #[Value.int IntKind.i64 0, Value.int IntKind.i64 0] 24)) := by (repeat (first | exact Below.refl _ _ | refine bl_drewN ?_ | refine bl_drew ?_ | refine bl_alloc ?_ _ | refine Below.setCell ?_ (by (first | (simp; done) | (simp; omega) | omega)) _ | refine bl_step (by assumption) ?_))
        exact hK _ _ ⟨l0, l1, l2, l3, l4, l5, l6, l7, l8, l9, l10, l11, true, l13, l14, l15, l16, l17, v.heap.size, E2, E3, rfl, (by simp only [cond_true, List.setIfInBounds_toArray, List.set_cons_zero, List.set_cons_succ]), bl_step hb hb0, (fun _ => Room.alloc hb0 _ _ _ _ _ q1), (fun t => (r2 t).later hb), (fun t => (r3 t).later hb), (fun _ => rfl), q2, q3, (fun _ t => by have z := (r2 t).2.1; omega), (fun _ t => by have z := (r3 t).2.1; omega), n3⟩
      case s13 =>
        intro f g K hK
        have f0 : l13 = false := f
        clear f g
        subst f0
        simp only [cond_false]
        go_simp
        have hb : Below v.heap.size v (v.alloc (Obj.cells #[Value.int IntKind.i64 0, Value.int IntKind.i64 0] 24)) := by (repeat (first | exact Below.refl _ _ | refine bl_drewN ?_ | refine bl_drew ?_ | refine bl_alloc ?_ _ | refine Below.setCell ?_ (by (first | (simp; done) | (simp; omega) | omega)) _ | refine bl_step (by assumption) ?_))
        exact hK _ _ ⟨l0, l1, l2, l3, l4, l5, l6, l7, l8, l9, l10, l11, l12, true, l14, l15, l16, l17, E1, v.heap.size, E3, rfl, (by simp only [cond_true, List.setIfInBounds_toArray, List.set_cons_zero, List.set_cons_succ]), bl_step hb hb0, (fun t => (r1 t).later hb), (fun _ => Room.alloc hb0 _ _ _ _ _ q2), (fun t => (r3 t).later hb), q1, (fun _ => rfl), q3, (fun t _ => by have z := (r1 t).2.1; omega), n2, (fun _ t => by have z := (r3 t).2.1; omega)⟩
      case s14 =>
        intro f g K hK
        have f0 : l14 = false := f
        clear f g
        subst f0
        simp only [cond_false]
        go_simp
        have hb : Below v.heap.size v (v.alloc (Obj.cells #[Value.int IntKind.i64 0, Value.int IntKind.i64 0] 24)) := by (repeat (first | exact Below.refl _ _ | refine bl_drewN ?_ | refine bl_drew ?_ | refine bl_alloc ?_ _ | refine Below.setCell ?_ (by (first | (simp; done) | (simp; omega) | omega)) _ | refine bl_step (by assumption) ?_))
        exact hK _ _ ⟨l0, l1, l2, l3, l4, l5, l6, l7, l8, l9, l10, l11, l12, l13, true, l15, l16, l17, E1, E2, v.heap.size, rfl, (by simp only [cond_true, List.setIfInBounds_toArray, List.set_cons_zero, List.set_cons_succ]), bl_step hb hb0, (fun t => (r1 t).later hb), (fun t => (r2 t).later hb), (fun _ => Room.alloc hb0 _ _ _ _ _ q3), q1, q2, (fun _ => rfl), n1, (fun t _ => by have z := (r1 t).2.1; omega), (fun t _ => by have z := (r2 t).2.1; omega)⟩
      case s15 =>
        intro f g K hK
        have t12 : l12 = true := g ⟨12, .data⟩ (by simp) (by rfl)
        have t3 : l3 = true := g ⟨3, .data⟩ (by simp) (by rfl)
        have t11 : l11 = true := g ⟨11, .chain⟩ (by simp) (by rfl)
        subst t12 t3 t11
        have f0 : l15 = false := f
        clear f g
        subst f0
        simp only [cond_true]
        have rr := r1 rfl
        obtain ⟨m1, m2, m3, m4, y0, y1, m5, m6, m7⟩ := rr
        go_simp
        exact hK _ _ ⟨l0, l1, l2, true, l4, l5, l6, l7, l8, l9, l10, true, true, l13, l14, true, l16, l17, E1, E2, E3, rfl, (by simp only [cond_true, List.setIfInBounds_toArray, List.set_cons_zero, List.set_cons_succ]), (hb0.setCell m1 _).setCell m1 _, (fun _ => (r1 rfl).store _ _), (fun t => (r2 t).other (fun e => n1 rfl t e.symm) _ _), (fun t => (r3 t).other (fun e => n2 rfl t e.symm) _ _), (fun _ => rfl), q2, q3, n1, n2, n3⟩
      case s16 =>
        intro f g K hK
        have t13 : l13 = true := g ⟨13, .data⟩ (by simp) (by rfl)
        have t7 : l7 = true := g ⟨7, .data⟩ (by simp) (by rfl)
        have t15 : l15 = true := g ⟨15, .chain⟩ (by simp) (by rfl)
        subst t13 t7 t15
        have u12 : l12 = true := q1 rfl
        subst u12
        have f0 : l16 = false := f
        clear f g
        subst f0
        simp only [cond_true]
        have rr := r2 rfl
        obtain ⟨m1, m2, m3, m4, y0, y1, m5, m6, m7⟩ := rr
        go_simp
        exact hK _ _ ⟨l0, l1, l2, l3, l4, l5, l6, true, l8, l9, l10, l11, true, true, l14, true, true, l17, E1, E2, E3, rfl, (by simp only [cond_true, List.setIfInBounds_toArray, List.set_cons_zero, List.set_cons_succ]), (hb0.setCell m1 _).setCell m1 _, (fun t => (r1 t).other (fun e => n1 t rfl e) _ _), (fun _ => (r2 rfl).store _ _), (fun t => (r3 t).other (fun e => n3 rfl t e.symm) _ _), q1, (fun _ => rfl), q3, n1, n2, n3⟩
      case s17 =>
        intro f g K hK
        have t14 : l14 = true := g ⟨14, .data⟩ (by simp) (by rfl)
        have t11 : l11 = true := g ⟨11, .data⟩ (by simp) (by rfl)
        have t16 : l16 = true := g ⟨16, .chain⟩ (by simp) (by rfl)
        subst t14 t11 t16
        have u13 : l13 = true := q2 rfl
        subst u13
        have f0 : l17 = false := f
        clear f g
        subst f0
        simp only [cond_true]
        have rr := r3 rfl
        obtain ⟨m1, m2, m3, m4, y0, y1, m5, m6, m7⟩ := rr
        go_simp
        exact hK _ _ ⟨l0, l1, l2, l3, l4, l5, l6, l7, l8, l9, l10, true, l12, true, true, l15, true, true, E1, E2, E3, rfl, (by simp only [cond_true, List.setIfInBounds_toArray, List.set_cons_zero, List.set_cons_succ]), (hb0.setCell m1 _).setCell m1 _, (fun t => (r1 t).other (fun e => n2 t rfl e) _ _), (fun t => (r2 t).other (fun e => n3 t rfl e) _ _), (fun _ => (r3 rfl).store _ _), q1, q2, (fun _ => rfl), n1, n2, n3⟩
  case rest =>
    obtain ⟨E1, E2, E3, rfl, rfl, rfl, hb, s0, s1, p0, p1, q0, q1⟩ := hcut
    replace hw3 : Below w.heap.size w wc := bl_step hb hw3
    replace c0 := cell_later hb c0
    replace c1 := cell_later hb c1
    replace c2 := cell_later hb c2
    replace c3 := cell_later hb c3
    replace c4 := cell_later hb c4
    replace c5 := cell_later hb c5
    have k0 : w.heap.size < wc.heap.size := World.block_lt_of_cell? _ _ c0
    have k1 : w.heap.size + 1 < wc.heap.size := World.block_lt_of_cell? _ _ c2
    have k2 : w.heap.size + 1 + 1 < wc.heap.size := World.block_lt_of_cell? _ _ c4
    have j0 : E1 < wc.heap.size := World.block_lt_of_cell? _ _ s0
    have j1 : E2 < wc.heap.size := World.block_lt_of_cell? _ _ p0
    have j2 : E3 < wc.heap.size := World.block_lt_of_cell? _ _ q0
    clear hb
    clear hz z0 z1 z2
    go_wp2_with (first | (go_at_call 9; ((with_reducible refine (IA.out _).mono ?_); rintro e w' ⟨rfl, hb⟩); (try replace hb := below_undrew hb); (try replace hb := below_undrewN hb); obtain ⟨hcell, hfroz⟩ := bcell hb; have hz := hb.size; (try simp at hz); (try (have z6 := Nat.lt_of_lt_of_le z7 hz)); (try (have z7 := Nat.lt_of_lt_of_le z8 hz)); (try (have z8 := Nat.lt_of_lt_of_le z9 hz)); (try (have z9 := Nat.lt_of_lt_of_le (Nat.lt_succ_self _) hz)); (try (have z0 : w.heap.size < w'.heap.size := by omega)); (try (have z1 : w.heap.size + 1 < w'.heap.size := by omega)); (try (have z2 : w.heap.size + 1 + 1 < w'.heap.size := by omega)); (try (have z3 : w.heap.size + 1 + 1 + 1 < w'.heap.size := by omega)); (try (have y1 : w1.heap.size < w'.heap.size := by omega)); (try (have y2 : w2.heap.size < w'.heap.size := by omega)); (try (have y3 : w3.heap.size < w'.heap.size := by omega)); (try (have y4 : w4.heap.size < w'.heap.size := by omega)); (try (have y5 : w5.heap.size < w'.heap.size := by omega)); (try (have y6 : w6.heap.size < w'.heap.size := by omega)); (try (have x1 : w1.heap.size + 1 < w'.heap.size := by omega)); (try (have x2 : w2.heap.size + 1 < w'.heap.size := by omega)); (try (have x3 : w3.heap.size + 1 < w'.heap.size := by omega)); (try (have x4 : w4.heap.size + 1 < w'.heap.size := by omega)); (try (have x5 : w5.heap.size + 1 < w'.heap.size := by omega)); (try (have x6 : w6.heap.size + 1 < w'.heap.size := by omega)); (try (have y7 : w7.heap.size < w'.heap.size := by omega)); (try (have y8 : w8.heap.size < w'.heap.size := by omega)); (try (have y9 : w9.heap.size < w'.heap.size := by omega)); (try (have z10 : w1.heap.size < w'.heap.size + 1 := by omega)); (try (have z20 : w2.heap.size < w'.heap.size + 1 := by omega)); (try (have z30 : w3.heap.size < w'.heap.size + 1 := by omega)); (try (have z40 : w4.heap.size < w'.heap.size + 1 := by omega)); (try (have z50 : w5.heap.size < w'.heap.size + 1 := by omega)); (try (have z60 : w6.heap.size < w'.heap.size + 1 := by omega)); (try (have z70 : w7.heap.size < w'.heap.size + 1 := by omega)); (try (have z80 : w8.heap.size < w'.heap.size + 1 := by omega)); (have e1 : E1 < w'.heap.size := by omega); (have e4 : E1 < w'.heap.size + 1 := by omega); (have e2 : E2 < w'.heap.size := by omega); (have e5 : E2 < w'.heap.size + 1 := by omega); (have e3 : E3 < w'.heap.size := by omega); (have e6 : E3 < w'.heap.size + 1 := by omega); obtain ⟨w1, rfl⟩ : ∃ v, v = w' := ⟨_, rfl⟩) | (go_at_call 9; ((with_reducible refine (IB.out _).mono ?_); rintro e w' ⟨rfl, hb⟩); (try replace hb := below_undrew hb); (try replace hb := below_undrewN hb); obtain ⟨hcell, hfroz⟩ := bcell hb; have hz := hb.size; (try simp at hz); (try (have z6 := Nat.lt_of_lt_of_le z7 hz)); (try (have z7 := Nat.lt_of_lt_of_le z8 hz)); (try (have z8 := Nat.lt_of_lt_of_le z9 hz)); (try (have z9 := Nat.lt_of_lt_of_le (Nat.lt_succ_self _) hz)); (try (have z0 : w.heap.size < w'.heap.size := by omega)); (try (have z1 : w.heap.size + 1 < w'.heap.size := by omega)); (try (have z2 : w.heap.size + 1 + 1 < w'.heap.size := by omega)); (try (have z3 : w.heap.size + 1 + 1 + 1 < w'.heap.size := by omega)); (try (have y1 : w1.heap.size < w'.heap.size := by omega)); (try (have y2 : w2.heap.size < w'.heap.size := by omega)); (try (have y3 : w3.heap.size < w'.heap.size := by omega)); (try (have y4 : w4.heap.size < w'.heap.size := by omega)); (try (have y5 : w5.heap.size < w'.heap.size := by omega)); (try (have y6 : w6.heap.size < w'.heap.size := by omega)); (try (have x1 : w1.heap.size + 1 < w'.heap.size := by omega)); (try (have x2 : w2.heap.size + 1 < w'.heap.size := by omega)); (try (have x3 : w3.heap.size + 1 < w'.heap.size := by omega)); (try (have x4 : w4.heap.size + 1 < w'.heap.size := by omega)); (try (have x5 : w5.heap.size + 1 < w'.heap.size := by omega)); (try (have x6 : w6.heap.size + 1 < w'.heap.size := by omega)); (try (have y7 : w7.heap.size < w'.heap.size := by omega)); (try (have y8 : w8.heap.size < w'.heap.size := by omega)); (try (have y9 : w9.heap.size < w'.heap.size := by omega)); (try (have z10 : w1.heap.size < w'.heap.size + 1 := by omega)); (try (have z20 : w2.heap.size < w'.heap.size + 1 := by omega)); (try (have z30 : w3.heap.size < w'.heap.size + 1 := by omega)); (try (have z40 : w4.heap.size < w'.heap.size + 1 := by omega)); (try (have z50 : w5.heap.size < w'.heap.size + 1 := by omega)); (try (have z60 : w6.heap.size < w'.heap.size + 1 := by omega)); (try (have z70 : w7.heap.size < w'.heap.size + 1 := by omega)); (try (have z80 : w8.heap.size < w'.heap.size + 1 := by omega)); (have e1 : E1 < w'.heap.size := by omega); (have e4 : E1 < w'.heap.size + 1 := by omega); (have e2 : E2 < w'.heap.size := by omega); (have e5 : E2 < w'.heap.size + 1 := by omega); (have e3 : E3 < w'.heap.size := by omega); (have e6 : E3 < w'.heap.size + 1 := by omega); obtain ⟨w2, rfl⟩ : ∃ v, v = w' := ⟨_, rfl⟩) | (go_at_call 12; ((with_reducible refine (UA.out _).mono ?_); rintro e w' ⟨rfl, hb⟩); (try replace hb := below_undrew hb); (try replace hb := below_undrewN hb); obtain ⟨hcell, hfroz⟩ := bcell hb; have hz := hb.size; (try simp at hz); (try (have z6 := Nat.lt_of_lt_of_le z7 hz)); (try (have z7 := Nat.lt_of_lt_of_le z8 hz)); (try (have z8 := Nat.lt_of_lt_of_le z9 hz)); (try (have z9 := Nat.lt_of_lt_of_le (Nat.lt_succ_self _) hz)); (try (have z0 : w.heap.size < w'.heap.size := by omega)); (try (have z1 : w.heap.size + 1 < w'.heap.size := by omega)); (try (have z2 : w.heap.size + 1 + 1 < w'.heap.size := by omega)); (try (have z3 : w.heap.size + 1 + 1 + 1 < w'.heap.size := by omega)); (try (have y1 : w1.heap.size < w'.heap.size := by omega)); (try (have y2 : w2.heap.size < w'.heap.size := by omega)); (try (have y3 : w3.heap.size < w'.heap.size := by omega)); (try (have y4 : w4.heap.size < w'.heap.size := by omega)); (try (have y5 : w5.heap.size < w'.heap.size := by omega)); (try (have y6 : w6.heap.size < w'.heap.size := by omega)); (try (have x1 : w1.heap.size + 1 < w'.heap.size := by omega)); (try (have x2 : w2.heap.size + 1 < w'.heap.size := by omega)); (try (have x3 : w3.heap.size + 1 < w'.heap.size := by omega)); (try (have x4 : w4.heap.size + 1 < w'.heap.size := by omega)); (try (have x5 : w5.heap.size + 1 < w'.heap.size := by omega)); (try (have x6 : w6.heap.size + 1 < w'.heap.size := by omega)); (try (have y7 : w7.heap.size < w'.heap.size := by omega)); (try (have y8 : w8.heap.size < w'.heap.size := by omega)); (try (have y9 : w9.heap.size < w'.heap.size := by omega)); (try (have z10 : w1.heap.size < w'.heap.size + 1 := by omega)); (try (have z20 : w2.heap.size < w'.heap.size + 1 := by omega)); (try (have z30 : w3.heap.size < w'.heap.size + 1 := by omega)); (try (have z40 : w4.heap.size < w'.heap.size + 1 := by omega)); (try (have z50 : w5.heap.size < w'.heap.size + 1 := by omega)); (try (have z60 : w6.heap.size < w'.heap.size + 1 := by omega)); (try (have z70 : w7.heap.size < w'.heap.size + 1 := by omega)); (try (have z80 : w8.heap.size < w'.heap.size + 1 := by omega)); (have e1 : E1 < w'.heap.size := by omega); (have e4 : E1 < w'.heap.size + 1 := by omega); (have e2 : E2 < w'.heap.size := by omega); (have e5 : E2 < w'.heap.size + 1 := by omega); (have e3 : E3 < w'.heap.size := by omega); (have e6 : E3 < w'.heap.size + 1 := by omega); obtain ⟨w4, rfl⟩ : ∃ v, v = w' := ⟨_, rfl⟩) | (go_at_call 12; ((with_reducible refine (UB.out _).mono ?_); rintro e w' ⟨rfl, hb⟩); (try replace hb := below_undrew hb); (try replace hb := below_undrewN hb); obtain ⟨hcell, hfroz⟩ := bcell hb; have hz := hb.size; (try simp at hz); (try (have z6 := Nat.lt_of_lt_of_le z7 hz)); (try (have z7 := Nat.lt_of_lt_of_le z8 hz)); (try (have z8 := Nat.lt_of_lt_of_le z9 hz)); (try (have z9 := Nat.lt_of_lt_of_le (Nat.lt_succ_self _) hz)); (try (have z0 : w.heap.size < w'.heap.size := by omega)); (try (have z1 : w.heap.size + 1 < w'.heap.size := by omega)); (try (have z2 : w.heap.size + 1 + 1 < w'.heap.size := by omega)); (try (have z3 : w.heap.size + 1 + 1 + 1 < w'.heap.size := by omega)); (try (have y1 : w1.heap.size < w'.heap.size := by omega)); (try (have y2 : w2.heap.size < w'.heap.size := by omega)); (try (have y3 : w3.heap.size < w'.heap.size := by omega)); (try (have y4 : w4.heap.size < w'.heap.size := by omega)); (try (have y5 : w5.heap.size < w'.heap.size := by omega)); (try (have y6 : w6.heap.size < w'.heap.size := by omega)); (try (have x1 : w1.heap.size + 1 < w'.heap.size := by omega)); (try (have x2 : w2.heap.size + 1 < w'.heap.size := by omega)); (try (have x3 : w3.heap.size + 1 < w'.heap.size := by omega)); (try (have x4 : w4.heap.size + 1 < w'.heap.size := by omega)); (try (have x5 : w5.heap.size + 1 < w'.heap.size := by omega)); (try (have x6 : w6.heap.size + 1 < w'.heap.size := by omega)); (try (have y7 : w7.heap.size < w'.heap.size := by omega)); (try (have y8 : w8.heap.size < w'.heap.size := by omega)); (try (have y9 : w9.heap.size < w'.heap.size := by omega)); (try (have z10 : w1.heap.size < w'.heap.size + 1 := by omega)); (try (have z20 : w2.heap.size < w'.heap.size + 1 := by omega)); (try (have z30 : w3.heap.size < w'.heap.size + 1 := by omega)); (try (have z40 : w4.heap.size < w'.heap.size + 1 := by omega)); (try (have z50 : w5.heap.size < w'.heap.size + 1 := by omega)); (try (have z60 : w6.heap.size < w'.heap.size + 1 := by omega)); (try (have z70 : w7.heap.size < w'.heap.size + 1 := by omega)); (try (have z80 : w8.heap.size < w'.heap.size + 1 := by omega)); (have e1 : E1 < w'.heap.size := by omega); (have e4 : E1 < w'.heap.size + 1 := by omega); (have e2 : E2 < w'.heap.size := by omega); (have e5 : E2 < w'.heap.size + 1 := by omega); (have e3 : E3 < w'.heap.size := by omega); (have e6 : E3 < w'.heap.size + 1 := by omega); obtain ⟨w5, rfl⟩ : ∃ v, v = w' := ⟨_, rfl⟩) | (go_at_call 13; ((with_reducible refine (OA.out _).mono ?_); rintro e w' ⟨rfl, hb⟩); (try replace hb := below_undrew hb); (try replace hb := below_undrewN hb); obtain ⟨hcell, hfroz⟩ := bcell hb; have hz := hb.size; (try simp at hz); (try (have z6 := Nat.lt_of_lt_of_le z7 hz)); (try (have z7 := Nat.lt_of_lt_of_le z8 hz)); (try (have z8 := Nat.lt_of_lt_of_le z9 hz)); (try (have z9 := Nat.lt_of_lt_of_le (Nat.lt_succ_self _) hz)); (try (have z0 : w.heap.size < w'.heap.size := by omega)); (try (have z1 : w.heap.size + 1 < w'.heap.size := by omega)); (try (have z2 : w.heap.size + 1 + 1 < w'.heap.size := by omega)); (try (have z3 : w.heap.size + 1 + 1 + 1 < w'.heap.size := by omega)); (try (have y1 : w1.heap.size < w'.heap.size := by omega)); (try (have y2 : w2.heap.size < w'.heap.size := by omega)); (try (have y3 : w3.heap.size < w'.heap.size := by omega)); (try (have y4 : w4.heap.size < w'.heap.size := by omega)); (try (have y5 : w5.heap.size < w'.heap.size := by omega)); (try (have y6 : w6.heap.size < w'.heap.size := by omega)); (try (have x1 : w1.heap.size + 1 < w'.heap.size := by omega)); (try (have x2 : w2.heap.size + 1 < w'.heap.size := by omega)); (try (have x3 : w3.heap.size + 1 < w'.heap.size := by omega)); (try (have x4 : w4.heap.size + 1 < w'.heap.size := by omega)); (try (have x5 : w5.heap.size + 1 < w'.heap.size := by omega)); (try (have x6 : w6.heap.size + 1 < w'.heap.size := by omega)); (try (have y7 : w7.heap.size < w'.heap.size := by omega)); (try (have y8 : w8.heap.size < w'.heap.size := by omega)); (try (have y9 : w9.heap.size < w'.heap.size := by omega)); (try (have z10 : w1.heap.size < w'.heap.size + 1 := by omega)); (try (have z20 : w2.heap.size < w'.heap.size + 1 := by omega)); (try (have z30 : w3.heap.size < w'.heap.size + 1 := by omega)); (try (have z40 : w4.heap.size < w'.heap.size + 1 := by omega)); (try (have z50 : w5.heap.size < w'.heap.size + 1 := by omega)); (try (have z60 : w6.heap.size < w'.heap.size + 1 := by omega)); (try (have z70 : w7.heap.size < w'.heap.size + 1 := by omega)); (try (have z80 : w8.heap.size < w'.heap.size + 1 := by omega)); (have e1 : E1 < w'.heap.size := by omega); (have e4 : E1 < w'.heap.size + 1 := by omega); (have e2 : E2 < w'.heap.size := by omega); (have e5 : E2 < w'.heap.size + 1 := by omega); (have e3 : E3 < w'.heap.size := by omega); (have e6 : E3 < w'.heap.size + 1 := by omega); obtain ⟨w6, rfl⟩ : ∃ v, v = w' := ⟨_, rfl⟩) | (go_at_call 13; ((with_reducible refine (OB.out _).mono ?_); rintro e w' ⟨rfl, hb⟩); (try replace hb := below_undrew hb); (try replace hb := below_undrewN hb); obtain ⟨hcell, hfroz⟩ := bcell hb; have hz := hb.size; (try simp at hz); (try (have z6 := Nat.lt_of_lt_of_le z7 hz)); (try (have z7 := Nat.lt_of_lt_of_le z8 hz)); (try (have z8 := Nat.lt_of_lt_of_le z9 hz)); (try (have z9 := Nat.lt_of_lt_of_le (Nat.lt_succ_self _) hz)); (try (have z0 : w.heap.size < w'.heap.size := by omega)); (try (have z1 : w.heap.size + 1 < w'.heap.size := by omega)); (try (have z2 : w.heap.size + 1 + 1 < w'.heap.size := by omega)); (try (have z3 : w.heap.size + 1 + 1 + 1 < w'.heap.size := by omega)); (try (have y1 : w1.heap.size < w'.heap.size := by omega)); (try (have y2 : w2.heap.size < w'.heap.size := by omega)); (try (have y3 : w3.heap.size < w'.heap.size := by omega)); (try (have y4 : w4.heap.size < w'.heap.size := by omega)); (try (have y5 : w5.heap.size < w'.heap.size := by omega)); (try (have y6 : w6.heap.size < w'.heap.size := by omega)); (try (have x1 : w1.heap.size + 1 < w'.heap.size := by omega)); (try (have x2 : w2.heap.size + 1 < w'.heap.size := by omega)); (try (have x3 : w3.heap.size + 1 < w'.heap.size := by omega)); (try (have x4 : w4.heap.size + 1 < w'.heap.size := by omega)); (try (have x5 : w5.heap.size + 1 < w'.heap.size := by omega)); (try (have x6 : w6.heap.size + 1 < w'.heap.size := by omega)); (try (have y7 : w7.heap.size < w'.heap.size := by omega)); (try (have y8 : w8.heap.size < w'.heap.size := by omega)); (try (have y9 : w9.heap.size < w'.heap.size := by omega)); (try (have z10 : w1.heap.size < w'.heap.size + 1 := by omega)); (try (have z20 : w2.heap.size < w'.heap.size + 1 := by omega)); (try (have z30 : w3.heap.size < w'.heap.size + 1 := by omega)); (try (have z40 : w4.heap.size < w'.heap.size + 1 := by omega)); (try (have z50 : w5.heap.size < w'.heap.size + 1 := by omega)); (try (have z60 : w6.heap.size < w'.heap.size + 1 := by omega)); (try (have z70 : w7.heap.size < w'.heap.size + 1 := by omega)); (try (have z80 : w8.heap.size < w'.heap.size + 1 := by omega)); (have e1 : E1 < w'.heap.size := by omega); (have e4 : E1 < w'.heap.size + 1 := by omega); (have e2 : E2 < w'.heap.size := by omega); (have e5 : E2 < w'.heap.size + 1 := by omega); (have e3 : E3 < w'.heap.size := by omega); (have e6 : E3 < w'.heap.size + 1 := by omega); obtain ⟨w7, rfl⟩ : ∃ v, v = w' := ⟨_, rfl⟩) | (go_at_call 17; ((with_reducible refine (N1.out _).mono ?_); rintro e w' ⟨rfl, hb⟩); (try replace hb := below_undrew hb); (try replace hb := below_undrewN hb); obtain ⟨hcell, hfroz⟩ := bcell hb; have hz := hb.size; (try simp at hz); (try (have z6 := Nat.lt_of_lt_of_le z7 hz)); (try (have z7 := Nat.lt_of_lt_of_le z8 hz)); (try (have z8 := Nat.lt_of_lt_of_le z9 hz)); (try (have z9 := Nat.lt_of_lt_of_le (Nat.lt_succ_self _) hz)); (try (have z0 : w.heap.size < w'.heap.size := by omega)); (try (have z1 : w.heap.size + 1 < w'.heap.size := by omega)); (try (have z2 : w.heap.size + 1 + 1 < w'.heap.size := by omega)); (try (have z3 : w.heap.size + 1 + 1 + 1 < w'.heap.size := by omega)); (try (have y1 : w1.heap.size < w'.heap.size := by omega)); (try (have y2 : w2.heap.size < w'.heap.size := by omega)); (try (have y3 : w3.heap.size < w'.heap.size := by omega)); (try (have y4 : w4.heap.size < w'.heap.size := by omega)); (try (have y5 : w5.heap.size < w'.heap.size := by omega)); (try (have y6 : w6.heap.size < w'.heap.size := by omega)); (try (have x1 : w1.heap.size + 1 < w'.heap.size := by omega)); (try (have x2 : w2.heap.size + 1 < w'.heap.size := by omega)); (try (have x3 : w3.heap.size + 1 < w'.heap.size := by omega)); (try (have x4 : w4.heap.size + 1 < w'.heap.size := by omega)); (try (have x5 : w5.heap.size + 1 < w'.heap.size := by omega)); (try (have x6 : w6.heap.size + 1 < w'.heap.size := by omega)); (try (have y7 : w7.heap.size < w'.heap.size := by omega)); (try (have y8 : w8.heap.size < w'.heap.size := by omega)); (try (have y9 : w9.heap.size < w'.heap.size := by omega)); (try (have z10 : w1.heap.size < w'.heap.size + 1 := by omega)); (try (have z20 : w2.heap.size < w'.heap.size + 1 := by omega)); (try (have z30 : w3.heap.size < w'.heap.size + 1 := by omega)); (try (have z40 : w4.heap.size < w'.heap.size + 1 := by omega)); (try (have z50 : w5.heap.size < w'.heap.size + 1 := by omega)); (try (have z60 : w6.heap.size < w'.heap.size + 1 := by omega)); (try (have z70 : w7.heap.size < w'.heap.size + 1 := by omega)); (try (have z80 : w8.heap.size < w'.heap.size + 1 := by omega)); (have e1 : E1 < w'.heap.size := by omega); (have e4 : E1 < w'.heap.size + 1 := by omega); (have e2 : E2 < w'.heap.size := by omega); (have e5 : E2 < w'.heap.size + 1 := by omega); (have e3 : E3 < w'.heap.size := by omega); (have e6 : E3 < w'.heap.size + 1 := by omega)) | (go_at_call 17; ((with_reducible refine (N2.out _).mono ?_); rintro e w' ⟨rfl, hb⟩); (try replace hb := below_undrew hb); (try replace hb := below_undrewN hb); obtain ⟨hcell, hfroz⟩ := bcell hb; have hz := hb.size; (try simp at hz); (try (have z6 := Nat.lt_of_lt_of_le z7 hz)); (try (have z7 := Nat.lt_of_lt_of_le z8 hz)); (try (have z8 := Nat.lt_of_lt_of_le z9 hz)); (try (have z9 := Nat.lt_of_lt_of_le (Nat.lt_succ_self _) hz)); (try (have z0 : w.heap.size < w'.heap.size := by omega)); (try (have z1 : w.heap.size + 1 < w'.heap.size := by omega)); (try (have z2 : w.heap.size + 1 + 1 < w'.heap.size := by omega)); (try (have z3 : w.heap.size + 1 + 1 + 1 < w'.heap.size := by omega)); (try (have y1 : w1.heap.size < w'.heap.size := by omega)); (try (have y2 : w2.heap.size < w'.heap.size := by omega)); (try (have y3 : w3.heap.size < w'.heap.size := by omega)); (try (have y4 : w4.heap.size < w'.heap.size := by omega)); (try (have y5 : w5.heap.size < w'.heap.size := by omega)); (try (have y6 : w6.heap.size < w'.heap.size := by omega)); (try (have x1 : w1.heap.size + 1 < w'.heap.size := by omega)); (try (have x2 : w2.heap.size + 1 < w'.heap.size := by omega)); (try (have x3 : w3.heap.size + 1 < w'.heap.size := by omega)); (try (have x4 : w4.heap.size + 1 < w'.heap.size := by omega)); (try (have x5 : w5.heap.size + 1 < w'.heap.size := by omega)); (try (have x6 : w6.heap.size + 1 < w'.heap.size := by omega)); (try (have y7 : w7.heap.size < w'.heap.size := by omega)); (try (have y8 : w8.heap.size < w'.heap.size := by omega)); (try (have y9 : w9.heap.size < w'.heap.size := by omega)); (try (have z10 : w1.heap.size < w'.heap.size + 1 := by omega)); (try (have z20 : w2.heap.size < w'.heap.size + 1 := by omega)); (try (have z30 : w3.heap.size < w'.heap.size + 1 := by omega)); (try (have z40 : w4.heap.size < w'.heap.size + 1 := by omega)); (try (have z50 : w5.heap.size < w'.heap.size + 1 := by omega)); (try (have z60 : w6.heap.size < w'.heap.size + 1 := by omega)); (try (have z70 : w7.heap.size < w'.heap.size + 1 := by omega)); (try (have z80 : w8.heap.size < w'.heap.size + 1 := by omega)); (have e1 : E1 < w'.heap.size := by omega); (have e4 : E1 < w'.heap.size + 1 := by omega); (have e2 : E2 < w'.heap.size := by omega); (have e5 : E2 < w'.heap.size + 1 := by omega); (have e3 : E3 < w'.heap.size := by omega); (have e6 : E3 < w'.heap.size + 1 := by omega)) | (go_at_call 17; ((with_reducible refine (N3.out _).mono ?_); rintro e w' ⟨rfl, hb⟩); (try replace hb := below_undrew hb); (try replace hb := below_undrewN hb); obtain ⟨hcell, hfroz⟩ := bcell hb; have hz := hb.size; (try simp at hz); (try (have z6 := Nat.lt_of_lt_of_le z7 hz)); (try (have z7 := Nat.lt_of_lt_of_le z8 hz)); (try (have z8 := Nat.lt_of_lt_of_le z9 hz)); (try (have z9 := Nat.lt_of_lt_of_le (Nat.lt_succ_self _) hz)); (try (have z0 : w.heap.size < w'.heap.size := by omega)); (try (have z1 : w.heap.size + 1 < w'.heap.size := by omega)); (try (have z2 : w.heap.size + 1 + 1 < w'.heap.size := by omega)); (try (have z3 : w.heap.size + 1 + 1 + 1 < w'.heap.size := by omega)); (try (have y1 : w1.heap.size < w'.heap.size := by omega)); (try (have y2 : w2.heap.size < w'.heap.size := by omega)); (try (have y3 : w3.heap.size < w'.heap.size := by omega)); (try (have y4 : w4.heap.size < w'.heap.size := by omega)); (try (have y5 : w5.heap.size < w'.heap.size := by omega)); (try (have y6 : w6.heap.size < w'.heap.size := by omega)); (try (have x1 : w1.heap.size + 1 < w'.heap.size := by omega)); (try (have x2 : w2.heap.size + 1 < w'.heap.size := by omega)); (try (have x3 : w3.heap.size + 1 < w'.heap.size := by omega)); (try (have x4 : w4.heap.size + 1 < w'.heap.size := by omega)); (try (have x5 : w5.heap.size + 1 < w'.heap.size := by omega)); (try (have x6 : w6.heap.size + 1 < w'.heap.size := by omega)); (try (have y7 : w7.heap.size < w'.heap.size := by omega)); (try (have y8 : w8.heap.size < w'.heap.size := by omega)); (try (have y9 : w9.heap.size < w'.heap.size := by omega)); (try (have z10 : w1.heap.size < w'.heap.size + 1 := by omega)); (try (have z20 : w2.heap.size < w'.heap.size + 1 := by omega)); (try (have z30 : w3.heap.size < w'.heap.size + 1 := by omega)); (try (have z40 : w4.heap.size < w'.heap.size + 1 := by omega)); (try (have z50 : w5.heap.size < w'.heap.size + 1 := by omega)); (try (have z60 : w6.heap.size < w'.heap.size + 1 := by omega)); (try (have z70 : w7.heap.size < w'.heap.size + 1 := by omega)); (try (have z80 : w8.heap.size < w'.heap.size + 1 := by omega)); (have e1 : E1 < w'.heap.size := by omega); (have e4 : E1 < w'.heap.size + 1 := by omega); (have e2 : E2 < w'.heap.size := by omega); (have e5 : E2 < w'.heap.size + 1 := by omega); (have e3 : E3 < w'.heap.size := by omega); (have e6 : E3 < w'.heap.size + 1 := by omega)) | (go_at_call 11; ((with_reducible refine (DA.out _).mono ?_); rintro e w' ⟨rfl, hb⟩); (try replace hb := below_undrew hb); (try replace hb := below_undrewN hb); obtain ⟨hcell, hfroz⟩ := bcell hb; have hz := hb.size; (try simp at hz); (try (have z6 := Nat.lt_of_lt_of_le z7 hz)); (try (have z7 := Nat.lt_of_lt_of_le z8 hz)); (try (have z8 := Nat.lt_of_lt_of_le z9 hz)); (try (have z9 := Nat.lt_of_lt_of_le (Nat.lt_succ_self _) hz)); (try (have z0 : w.heap.size < w'.heap.size := by omega)); (try (have z1 : w.heap.size + 1 < w'.heap.size := by omega)); (try (have z2 : w.heap.size + 1 + 1 < w'.heap.size := by omega)); (try (have z3 : w.heap.size + 1 + 1 + 1 < w'.heap.size := by omega)); (try (have y1 : w1.heap.size < w'.heap.size := by omega)); (try (have y2 : w2.heap.size < w'.heap.size := by omega)); (try (have y3 : w3.heap.size < w'.heap.size := by omega)); (try (have y4 : w4.heap.size < w'.heap.size := by omega)); (try (have y5 : w5.heap.size < w'.heap.size := by omega)); (try (have y6 : w6.heap.size < w'.heap.size := by omega)); (try (have x1 : w1.heap.size + 1 < w'.heap.size := by omega)); (try (have x2 : w2.heap.size + 1 < w'.heap.size := by omega)); (try (have x3 : w3.heap.size + 1 < w'.heap.size := by omega)); (try (have x4 : w4.heap.size + 1 < w'.heap.size := by omega)); (try (have x5 : w5.heap.size + 1 < w'.heap.size := by omega)); (try (have x6 : w6.heap.size + 1 < w'.heap.size := by omega)); (try (have y7 : w7.heap.size < w'.heap.size := by omega)); (try (have y8 : w8.heap.size < w'.heap.size := by omega)); (try (have y9 : w9.heap.size < w'.heap.size := by omega)); (try (have z10 : w1.heap.size < w'.heap.size + 1 := by omega)); (try (have z20 : w2.heap.size < w'.heap.size + 1 := by omega)); (try (have z30 : w3.heap.size < w'.heap.size + 1 := by omega)); (try (have z40 : w4.heap.size < w'.heap.size + 1 := by omega)); (try (have z50 : w5.heap.size < w'.heap.size + 1 := by omega)); (try (have z60 : w6.heap.size < w'.heap.size + 1 := by omega)); (try (have z70 : w7.heap.size < w'.heap.size + 1 := by omega)); (try (have z80 : w8.heap.size < w'.heap.size + 1 := by omega)); (have e1 : E1 < w'.heap.size := by omega); (have e4 : E1 < w'.heap.size + 1 := by omega); (have e2 : E2 < w'.heap.size := by omega); (have e5 : E2 < w'.heap.size + 1 := by omega); (have e3 : E3 < w'.heap.size := by omega); (have e6 : E3 < w'.heap.size + 1 := by omega)) | (go_at_call 11; ((with_reducible refine (DB.out _).mono ?_); rintro e w' ⟨rfl, hb⟩); (try replace hb := below_undrew hb); (try replace hb := below_undrewN hb); obtain ⟨hcell, hfroz⟩ := bcell hb; have hz := hb.size; (try simp at hz); (try (have z6 := Nat.lt_of_lt_of_le z7 hz)); (try (have z7 := Nat.lt_of_lt_of_le z8 hz)); (try (have z8 := Nat.lt_of_lt_of_le z9 hz)); (try (have z9 := Nat.lt_of_lt_of_le (Nat.lt_succ_self _) hz)); (try (have z0 : w.heap.size < w'.heap.size := by omega)); (try (have z1 : w.heap.size + 1 < w'.heap.size := by omega)); (try (have z2 : w.heap.size + 1 + 1 < w'.heap.size := by omega)); (try (have z3 : w.heap.size + 1 + 1 + 1 < w'.heap.size := by omega)); (try (have y1 : w1.heap.size < w'.heap.size := by omega)); (try (have y2 : w2.heap.size < w'.heap.size := by omega)); (try (have y3 : w3.heap.size < w'.heap.size := by omega)); (try (have y4 : w4.heap.size < w'.heap.size := by omega)); (try (have y5 : w5.heap.size < w'.heap.size := by omega)); (try (have y6 : w6.heap.size < w'.heap.size := by omega)); (try (have x1 : w1.heap.size + 1 < w'.heap.size := by omega)); (try (have x2 : w2.heap.size + 1 < w'.heap.size := by omega)); (try (have x3 : w3.heap.size + 1 < w'.heap.size := by omega)); (try (have x4 : w4.heap.size + 1 < w'.heap.size := by omega)); (try (have x5 : w5.heap.size + 1 < w'.heap.size := by omega)); (try (have x6 : w6.heap.size + 1 < w'.heap.size := by omega)); (try (have y7 : w7.heap.size < w'.heap.size := by omega)); (try (have y8 : w8.heap.size < w'.heap.size := by omega)); (try (have y9 : w9.heap.size < w'.heap.size := by omega)); (try (have z10 : w1.heap.size < w'.heap.size + 1 := by omega)); (try (have z20 : w2.heap.size < w'.heap.size + 1 := by omega)); (try (have z30 : w3.heap.size < w'.heap.size + 1 := by omega)); (try (have z40 : w4.heap.size < w'.heap.size + 1 := by omega)); (try (have z50 : w5.heap.size < w'.heap.size + 1 := by omega)); (try (have z60 : w6.heap.size < w'.heap.size + 1 := by omega)); (try (have z70 : w7.heap.size < w'.heap.size + 1 := by omega)); (try (have z80 : w8.heap.size < w'.heap.size + 1 := by omega)); (have e1 : E1 < w'.heap.size := by omega); (have e4 : E1 < w'.heap.size + 1 := by omega); (have e2 : E2 < w'.heap.size := by omega); (have e5 : E2 < w'.heap.size + 1 := by omega); (have e3 : E3 < w'.heap.size := by omega); (have e6 : E3 < w'.heap.size + 1 := by omega)))
    go_ret
    exact ⟨by first | rfl | (refine ret_bool ?_; simp [*]), by (repeat (first | exact Below.refl _ _ | refine bl_drewN ?_ | refine bl_drew ?_ | refine bl_alloc ?_ _ | refine Below.setCell ?_ (by (first | (simp; done) | (simp; omega) | omega)) _ | refine bl_step (by assumption) ?_))⟩


theorem pick_bd (a b n : Int) (h : a ≤ b) : a ≤ a + n % (b - a + 1) ∧ a + n % (b - a + 1) ≤ b := by
  have h1 := Int.emod_nonneg n (show b - a + 1 ≠ 0 by omega)
  have h2 := Int.emod_lt_of_pos n (show 0 < b - a + 1 by omega)
  omega
theorem pick_any (a b n : Int) (w : World) (a0 : -5400000 ≤ a) (ab : a ≤ b) (b1 : b ≤ 5400000) (n0 : 0 ≤ n ∧ n ≤ 4294967295) :
    Calls Try.prog 16 #[.agg #[.int .i64 (a), .int .i64 (b)], .int .u32 n] w fun e w' => e = .returned (.agg #[.int .i64 (a + n % (b - a + 1)), .int .i64 (a + n % (b - a + 1))]) ∧ Below w.heap.size w w' :=
  ppartn_any a b n _ _ w a0 ab b1 n0.1 n0.2 rfl rfl (Int.emod_nonneg n (show b - a + 1 ≠ 0 by omega)) (Int.emod_lt_of_pos n (show 0 < b - a + 1 by omega))

theorem parts_walk (a b c d q r i j k : Int) (w : World) (_ba : -9223372036854775808 ≤ a ∧ a ≤ 9223372036854775807) (_bb : -9223372036854775808 ≤ b ∧ b ≤ 9223372036854775807) (_bc : -9223372036854775808 ≤ c ∧ c ≤ 9223372036854775807) (_bd : -9223372036854775808 ≤ d ∧ d ≤ 9223372036854775807) (_bq : -9223372036854775808 ≤ q ∧ q ≤ 9223372036854775807) (_br : -9223372036854775808 ≤ r ∧ r ≤ 9223372036854775807) (bi : 0 ≤ i ∧ i ≤ 4294967295) (bj : 0 ≤ j ∧ j ≤ 4294967295) (bk : 0 ≤ k ∧ k ≤ 4294967295) :
    Calls Try.prog 7 #[.agg #[.int .i64 (a), .int .i64 (b)], .agg #[.int .i64 (c), .int .i64 (d)], .agg #[.int .i64 (q), .int .i64 (r)], .int .u32 i, .int .u32 j, .int .u32 k] w fun e w' => e = .returned (.bool true) ∧ Below w.heap.size w w' := by
  cases h1 : smallB a b
  · exact pparts_out1 a b c d q r i j k w h1
  · cases h2 : smallB c d
    · exact pparts_out2 a b c d q r i j k w h1 h2
    · cases h3 : altB q r
      · exact pparts_out3 a b c d q r i j k w h1 h2 h3
      · obtain ⟨s1, s2, s3, _⟩ := smallB_t h1
        obtain ⟨u1, u2, u3, _⟩ := smallB_t h2
        obtain ⟨t1, t2, t3⟩ := altB_t h3
        have PS := hidden fun w => pick_any a b i w (by omega) s2 (by omega) bi
        have PP := hidden fun w => pick_any c d j w (by omega) u2 (by omega) bj
        have PH := hidden fun w => pick_any q r k w (by omega) t2 (by omega) bk
        have es := pick_bd a b i s2
        have ep := pick_bd c d j u2
        have eh := pick_bd q r k t2
        generalize a + i % (b - a + 1) = s at *
        generalize c + j % (d - c + 1) = p at *
        generalize q + k % (r - q + 1) = h at *
        have hs : smallB s s = true := smallB_mk (by omega)
        have hp : smallB p p = true := smallB_mk (by omega)
        have hh : altB h h = true := altB_mk (by omega)
        have i1 := ia_part c d q r p h u1 ep.1 ep.2 t1 eh.1 eh.2 t3
        have i2 := au_part a b c d q r s p h s1 es.1 es.2 s3 u1 ep.1 ep.2 u3 eh.1 eh.2
        have i3 := ob_part c d q r p h u1 ep.1 ep.2 u3 eh.1 eh.2
        have N1 := hidden fun w => inside5_yes (iaLo p p h h) (iaHi p p h h) (iaLo c d q r) (iaHi c d q r) w (by omega) (by omega)
        have N2 := hidden fun w => inside5_yes (auLo s s p p h h) (auHi s s p p h h) (auLo a b c d q r) (auHi a b c d q r) w (by omega) (by omega)
        have N3 := hidden fun w => inside5_yes (obLo p p h h) (obHi p p h h) (obLo c d q r) (obHi c d q r) w (by omega) (by omega)
        have IA := hidden fun w => inalt_ok c d q r w h2 h3
        have IB := hidden fun w => inalt_ok p p h h w hp hh
        have UA := hidden fun w => augmented_ok a b c d q r w h1 h2 h3
        have UB := hidden fun w => augmented_ok s s p p h h w hs hp hh
        have OA := hidden fun w => oblate_ok c d q r w h2 h3
        have OB := hidden fun w => oblate_ok p p h h w hp hh
        by_cases c0 : c = 0
        · subst c0
          have DA := hidden fun w => distance_zero d w h2
          by_cases p0 : p = 0
          · subst p0
            exact pparts_zero a b 0 d q r i j k s 0 h _ _ _ _ _ _ _ _ _ _ _ _ _ _ _ w h1 h2 h3 PS PP PH IA IB UA UB OA OB N1 N2 N3 DA (hidden fun w => distance_zero 0 w hp)
          · exact pparts_zero a b 0 d q r i j k s p h _ _ _ _ _ _ _ _ _ _ _ _ _ _ _ w h1 h2 h3 PS PP PH IA IB UA UB OA OB N1 N2 N3 DA (hidden fun w => distance_ok p p w hp (by omega))
        · have dd := di_part c d p (by omega) ep.1 ep.2 u3
          exact pparts_in a b c d q r i j k s p h _ _ _ _ _ _ _ _ _ _ _ _ _ _ _ _ w h1 h2 h3 PS PP PH IA IB UA UB OA OB N1 N2 N3 (hidden fun w => distance_ok c d w h2 (by omega)) (hidden fun w => distance_ok p p w hp (by omega)) dd.1 dd.2.1 dd.2.2

end Go.Proofs.Ytcpghihgppgpmaa
