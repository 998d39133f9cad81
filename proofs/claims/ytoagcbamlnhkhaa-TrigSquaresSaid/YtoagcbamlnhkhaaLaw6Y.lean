/- The statement that the squares of sine and cosine add up to one. -/
import Derived.Test.YtoagcbamlnhkhaaLaw6X
import Derived.Test.YtoagcbamlnhkhaaNl
import Derived.Test.YtoagcbamlnhkhaaInv
import Derived.Test.YtoagcbamlnhkhaaSumL
namespace Go.Proofs.Ytoagcbamlnhkhaa
open Go.RowKit Rot

theorem squares_out1 (n : Int) (w : World) (h1 : n < -274877906944) :
    Calls Try.prog 11 #[.int .i64 n] w fun e w' => e = .returned (.bool true) ∧ Below w.heap.size w w' := by
  go_enter Try.func11, Try.ntmps11
  go_wp2_with (go_at_call 12; ((with_reducible refine (awake6_is _).mono ?_); rintro e w' ⟨rfl, hb⟩); (try replace hb := below_undrew hb); (try replace hb := below_undrewN hb); obtain ⟨hcell, hfroz⟩ := bcell hb; have hz := hb.size; (try simp at hz); (try (have z6 := Nat.lt_of_lt_of_le z7 hz)); (try (have z7 := Nat.lt_of_lt_of_le z8 hz)); (try (have z8 := Nat.lt_of_lt_of_le z9 hz)); (try (have z9 := Nat.lt_of_lt_of_le (Nat.lt_succ_self _) hz)); (try (have z0 : w.heap.size < w'.heap.size := by omega)); (try (have z1 : w.heap.size + 1 < w'.heap.size := by omega)); (try (have z2 : w.heap.size + 1 + 1 < w'.heap.size := by omega)); (try (have z3 : w.heap.size + 1 + 1 + 1 < w'.heap.size := by omega)); (try (have y1 : w1.heap.size < w'.heap.size := by omega)); (try (have y2 : w2.heap.size < w'.heap.size := by omega)); (try (have y3 : w3.heap.size < w'.heap.size := by omega)); (try (have y4 : w4.heap.size < w'.heap.size := by omega)); (try (have y5 : w5.heap.size < w'.heap.size := by omega)); (try (have y6 : w6.heap.size < w'.heap.size := by omega)); (try (have x1 : w1.heap.size + 1 < w'.heap.size := by omega)); (try (have x2 : w2.heap.size + 1 < w'.heap.size := by omega)); (try (have x3 : w3.heap.size + 1 < w'.heap.size := by omega)); (try (have x4 : w4.heap.size + 1 < w'.heap.size := by omega)); (try (have x5 : w5.heap.size + 1 < w'.heap.size := by omega)); (try (have x6 : w6.heap.size + 1 < w'.heap.size := by omega)); (try (have y7 : w7.heap.size < w'.heap.size := by omega)); (try (have y8 : w8.heap.size < w'.heap.size := by omega)); (try (have y9 : w9.heap.size < w'.heap.size := by omega)); (try (have z10 : w1.heap.size < w'.heap.size + 1 := by omega)); (try (have z20 : w2.heap.size < w'.heap.size + 1 := by omega)); (try (have z30 : w3.heap.size < w'.heap.size + 1 := by omega)); (try (have z40 : w4.heap.size < w'.heap.size + 1 := by omega)); (try (have z50 : w5.heap.size < w'.heap.size + 1 := by omega)); (try (have z60 : w6.heap.size < w'.heap.size + 1 := by omega)); (try (have z70 : w7.heap.size < w'.heap.size + 1 := by omega)); (try (have z80 : w8.heap.size < w'.heap.size + 1 := by omega)))
  go_ret
  exact ⟨by first | rfl | (refine ret_bool ?_; simp; omega), by (repeat (first | exact Below.refl _ _ | refine bl_drewN ?_ | refine bl_drew ?_ | refine bl_alloc ?_ _ | refine Below.setCell ?_ (by (first | (simp; done) | (simp; omega) | omega)) _ | refine bl_step (by assumption) ?_))⟩

theorem squares_out2 (n : Int) (w : World) (h1 : ¬ n < -274877906944) (h2 : 274877906944 < n) :
    Calls Try.prog 11 #[.int .i64 n] w fun e w' => e = .returned (.bool true) ∧ Below w.heap.size w w' := by
  go_enter Try.func11, Try.ntmps11
  go_wp2_with (go_at_call 12; ((with_reducible refine (awake6_is _).mono ?_); rintro e w' ⟨rfl, hb⟩); (try replace hb := below_undrew hb); (try replace hb := below_undrewN hb); obtain ⟨hcell, hfroz⟩ := bcell hb; have hz := hb.size; (try simp at hz); (try (have z6 := Nat.lt_of_lt_of_le z7 hz)); (try (have z7 := Nat.lt_of_lt_of_le z8 hz)); (try (have z8 := Nat.lt_of_lt_of_le z9 hz)); (try (have z9 := Nat.lt_of_lt_of_le (Nat.lt_succ_self _) hz)); (try (have z0 : w.heap.size < w'.heap.size := by omega)); (try (have z1 : w.heap.size + 1 < w'.heap.size := by omega)); (try (have z2 : w.heap.size + 1 + 1 < w'.heap.size := by omega)); (try (have z3 : w.heap.size + 1 + 1 + 1 < w'.heap.size := by omega)); (try (have y1 : w1.heap.size < w'.heap.size := by omega)); (try (have y2 : w2.heap.size < w'.heap.size := by omega)); (try (have y3 : w3.heap.size < w'.heap.size := by omega)); (try (have y4 : w4.heap.size < w'.heap.size := by omega)); (try (have y5 : w5.heap.size < w'.heap.size := by omega)); (try (have y6 : w6.heap.size < w'.heap.size := by omega)); (try (have x1 : w1.heap.size + 1 < w'.heap.size := by omega)); (try (have x2 : w2.heap.size + 1 < w'.heap.size := by omega)); (try (have x3 : w3.heap.size + 1 < w'.heap.size := by omega)); (try (have x4 : w4.heap.size + 1 < w'.heap.size := by omega)); (try (have x5 : w5.heap.size + 1 < w'.heap.size := by omega)); (try (have x6 : w6.heap.size + 1 < w'.heap.size := by omega)); (try (have y7 : w7.heap.size < w'.heap.size := by omega)); (try (have y8 : w8.heap.size < w'.heap.size := by omega)); (try (have y9 : w9.heap.size < w'.heap.size := by omega)); (try (have z10 : w1.heap.size < w'.heap.size + 1 := by omega)); (try (have z20 : w2.heap.size < w'.heap.size + 1 := by omega)); (try (have z30 : w3.heap.size < w'.heap.size + 1 := by omega)); (try (have z40 : w4.heap.size < w'.heap.size + 1 := by omega)); (try (have z50 : w5.heap.size < w'.heap.size + 1 := by omega)); (try (have z60 : w6.heap.size < w'.heap.size + 1 := by omega)); (try (have z70 : w7.heap.size < w'.heap.size + 1 := by omega)); (try (have z80 : w8.heap.size < w'.heap.size + 1 := by omega)))
  go_ret
  exact ⟨by first | rfl | (refine ret_bool ?_; simp; omega), by (repeat (first | exact Below.refl _ _ | refine bl_drewN ?_ | refine bl_drew ?_ | refine bl_alloc ?_ _ | refine Below.setCell ?_ (by (first | (simp; done) | (simp; omega) | omega)) _ | refine bl_step (by assumption) ?_))⟩

set_option maxRecDepth 100000 in
set_option maxHeartbeats 16000000 in
theorem squares_in (n s1 s2 c1 c2 h1 h2 d1 d2 L0 H0 L1 H1 L2 H2 L3 H3 L4 H4 L5 H5 L6 H6 : Int) (w : World) (n0 : -274877906944 ≤ n) (n1 : n ≤ 274877906944)
    (S1 : Hid (∀ w, Calls Try.prog 13 #[.agg #[.int .i64 (n), .int .i64 (n)]] w fun e w' => e = .returned (.tuple #[.agg #[.int .i64 (s1), .int .i64 (s2)], .int .i64 (0)]) ∧ Below w.heap.size w w'))
    (C1 : Hid (∀ w, Calls Try.prog 14 #[.agg #[.int .i64 (n), .int .i64 (n)]] w fun e w' => e = .returned (.tuple #[.agg #[.int .i64 (c1), .int .i64 (c2)], .int .i64 (0)]) ∧ Below w.heap.size w w'))
    (A1 : Hid (∀ w, Calls Try.prog 27 #[.agg #[.int .i64 (n), .int .i64 (n)]] w fun e w' => e = .returned (.tuple #[.agg #[.int .i64 (h1), .int .i64 (h2)], .int .i64 (0)]) ∧ Below w.heap.size w w'))
    (A2 : Hid (∀ w, Calls Try.prog 27 #[.agg #[.int .i64 (2 * n), .int .i64 (2 * n)]] w fun e w' => e = .returned (.tuple #[.agg #[.int .i64 (d1), .int .i64 (d2)], .int .i64 (0)]) ∧ Below w.heap.size w w'))
    (ON : Hid (∀ w, Calls Try.prog 21 #[.int .i64 1073741824] w (BoxX w 1073741824 1073741824)))
    (OV : Hid (∀ w, Calls Try.prog 21 #[.int .i64 1073741824] w (BoxR w (1073741824) (1073741824))))
    (OT : Hid (∀ w, Calls Try.prog 21 #[.int .i64 2] w (BoxR w (2) (2))))
    (TU : Hid (∀ w (u v : Value), BoxV w 1073741824 1073741824 u → BoxV w 1073741824 1073741824 v → Calls Try.prog 23 #[u, v] w (BoxX w L0 H0)))
    (Os : Hid (∀ w, Calls Try.prog 24 #[.agg #[.int .i64 (s1), .int .i64 (s2)]] w (BoxR w (s1) (s2))))
    (Oc : Hid (∀ w, Calls Try.prog 24 #[.agg #[.int .i64 (c1), .int .i64 (c2)]] w (BoxR w (c1) (c2))))
    (Oh : Hid (∀ w, Calls Try.prog 24 #[.agg #[.int .i64 (h1), .int .i64 (h2)]] w (BoxR w (h1) (h2))))
    (Od : Hid (∀ w, Calls Try.prog 24 #[.agg #[.int .i64 (d1), .int .i64 (d2)]] w (BoxR w (d1) (d2))))
    (T1 : Hid (∀ w (u0 : Value) (u1 : Value), BoxV w (s1) (s2) u0 → BoxV w (s1) (s2) u1 → Calls Try.prog 23 #[u0, u1] w (BoxR w (L1) (H1))))
    (T2 : Hid (∀ w (u0 : Value) (u1 : Value), BoxV w (c1) (c2) u0 → BoxV w (c1) (c2) u1 → Calls Try.prog 23 #[u0, u1] w (BoxR w (L2) (H2))))
    (PL : Hid (∀ w (u0 : Value) (u1 : Value), BoxV w (L1) (H1) u0 → BoxV w (L2) (H2) u1 → Calls Try.prog 25 #[u0, u1] w (BoxR w (L3) (H3))))
    (M1 : Hid (∀ w (u0 : Value) (u1 : Value), BoxV w (L3) (H3) u0 → BoxV w (L0) (H0) u1 → Calls Try.prog 22 #[u0, u1] w (fun e w' => e = .returned (.bool true) ∧ Below w.heap.size w w')))
    (T3 : Hid (∀ w (u0 : Value) (u1 : Value), BoxV w (2) (2) u0 → BoxV w (h1) (h2) u1 → Calls Try.prog 23 #[u0, u1] w (BoxR w (L4) (H4))))
    (MI : Hid (∀ w (u0 : Value) (u1 : Value), BoxV w (1073741824) (1073741824) u0 → BoxV w (c1) (c2) u1 → Calls Try.prog 26 #[u0, u1] w (BoxR w (L5) (H5))))
    (M2 : Hid (∀ w (u0 : Value) (u1 : Value), BoxV w (L4) (H4) u0 → BoxV w (L5) (H5) u1 → Calls Try.prog 22 #[u0, u1] w (fun e w' => e = .returned (.bool true) ∧ Below w.heap.size w w')))
    (T4 : Hid (∀ w (u0 : Value) (u1 : Value), BoxV w (d1) (d2) u0 → BoxV w (1073741824) (1073741824) u1 → Calls Try.prog 23 #[u0, u1] w (BoxR w (L6) (H6))))
    (M3 : Hid (∀ w (u0 : Value) (u1 : Value), BoxV w (L6) (H6) u0 → BoxV w (L1) (H1) u1 → Calls Try.prog 22 #[u0, u1] w (fun e w' => e = .returned (.bool true) ∧ Below w.heap.size w w'))) :
    Calls Try.prog 11 #[.int .i64 n] w fun e w' => e = .returned (.bool true) ∧ Below w.heap.size w w' := by
  go_enter Try.func11, Try.ntmps11
  go_wp2_with (first | (go_at_call 12; ((with_reducible refine (awake6_is _).mono ?_); rintro e w' ⟨rfl, hb⟩); (try replace hb := below_undrew hb); (try replace hb := below_undrewN hb); obtain ⟨hcell, hfroz⟩ := bcell hb; have hz := hb.size; (try simp at hz); (try (have z6 := Nat.lt_of_lt_of_le z7 hz)); (try (have z7 := Nat.lt_of_lt_of_le z8 hz)); (try (have z8 := Nat.lt_of_lt_of_le z9 hz)); (try (have z9 := Nat.lt_of_lt_of_le (Nat.lt_succ_self _) hz)); (try (have z0 : w.heap.size < w'.heap.size := by omega)); (try (have z1 : w.heap.size + 1 < w'.heap.size := by omega)); (try (have z2 : w.heap.size + 1 + 1 < w'.heap.size := by omega)); (try (have z3 : w.heap.size + 1 + 1 + 1 < w'.heap.size := by omega)); (try (have y1 : w1.heap.size < w'.heap.size := by omega)); (try (have y2 : w2.heap.size < w'.heap.size := by omega)); (try (have y3 : w3.heap.size < w'.heap.size := by omega)); (try (have y4 : w4.heap.size < w'.heap.size := by omega)); (try (have y5 : w5.heap.size < w'.heap.size := by omega)); (try (have y6 : w6.heap.size < w'.heap.size := by omega)); (try (have x1 : w1.heap.size + 1 < w'.heap.size := by omega)); (try (have x2 : w2.heap.size + 1 < w'.heap.size := by omega)); (try (have x3 : w3.heap.size + 1 < w'.heap.size := by omega)); (try (have x4 : w4.heap.size + 1 < w'.heap.size := by omega)); (try (have x5 : w5.heap.size + 1 < w'.heap.size := by omega)); (try (have x6 : w6.heap.size + 1 < w'.heap.size := by omega)); (try (have y7 : w7.heap.size < w'.heap.size := by omega)); (try (have y8 : w8.heap.size < w'.heap.size := by omega)); (try (have y9 : w9.heap.size < w'.heap.size := by omega)); (try (have z10 : w1.heap.size < w'.heap.size + 1 := by omega)); (try (have z20 : w2.heap.size < w'.heap.size + 1 := by omega)); (try (have z30 : w3.heap.size < w'.heap.size + 1 := by omega)); (try (have z40 : w4.heap.size < w'.heap.size + 1 := by omega)); (try (have z50 : w5.heap.size < w'.heap.size + 1 := by omega)); (try (have z60 : w6.heap.size < w'.heap.size + 1 := by omega)); (try (have z70 : w7.heap.size < w'.heap.size + 1 := by omega)); (try (have z80 : w8.heap.size < w'.heap.size + 1 := by omega))) | (go_at_call 20; ((with_reducible refine (at_any _ _).mono ?_); rintro e w' ⟨rfl, hb⟩); (try replace hb := below_undrew hb); (try replace hb := below_undrewN hb); obtain ⟨hcell, hfroz⟩ := bcell hb; have hz := hb.size; (try simp at hz); (try (have z6 := Nat.lt_of_lt_of_le z7 hz)); (try (have z7 := Nat.lt_of_lt_of_le z8 hz)); (try (have z8 := Nat.lt_of_lt_of_le z9 hz)); (try (have z9 := Nat.lt_of_lt_of_le (Nat.lt_succ_self _) hz)); (try (have z0 : w.heap.size < w'.heap.size := by omega)); (try (have z1 : w.heap.size + 1 < w'.heap.size := by omega)); (try (have z2 : w.heap.size + 1 + 1 < w'.heap.size := by omega)); (try (have z3 : w.heap.size + 1 + 1 + 1 < w'.heap.size := by omega)); (try (have y1 : w1.heap.size < w'.heap.size := by omega)); (try (have y2 : w2.heap.size < w'.heap.size := by omega)); (try (have y3 : w3.heap.size < w'.heap.size := by omega)); (try (have y4 : w4.heap.size < w'.heap.size := by omega)); (try (have y5 : w5.heap.size < w'.heap.size := by omega)); (try (have y6 : w6.heap.size < w'.heap.size := by omega)); (try (have x1 : w1.heap.size + 1 < w'.heap.size := by omega)); (try (have x2 : w2.heap.size + 1 < w'.heap.size := by omega)); (try (have x3 : w3.heap.size + 1 < w'.heap.size := by omega)); (try (have x4 : w4.heap.size + 1 < w'.heap.size := by omega)); (try (have x5 : w5.heap.size + 1 < w'.heap.size := by omega)); (try (have x6 : w6.heap.size + 1 < w'.heap.size := by omega)); (try (have y7 : w7.heap.size < w'.heap.size := by omega)); (try (have y8 : w8.heap.size < w'.heap.size := by omega)); (try (have y9 : w9.heap.size < w'.heap.size := by omega)); (try (have z10 : w1.heap.size < w'.heap.size + 1 := by omega)); (try (have z20 : w2.heap.size < w'.heap.size + 1 := by omega)); (try (have z30 : w3.heap.size < w'.heap.size + 1 := by omega)); (try (have z40 : w4.heap.size < w'.heap.size + 1 := by omega)); (try (have z50 : w5.heap.size < w'.heap.size + 1 := by omega)); (try (have z60 : w6.heap.size < w'.heap.size + 1 := by omega)); (try (have z70 : w7.heap.size < w'.heap.size + 1 := by omega)); (try (have z80 : w8.heap.size < w'.heap.size + 1 := by omega))) | (go_at_call 13; ((with_reducible refine (S1.out _).mono ?_); rintro e w' ⟨rfl, hb⟩); (try replace hb := below_undrew hb); (try replace hb := below_undrewN hb); obtain ⟨hcell, hfroz⟩ := bcell hb; have hz := hb.size; (try simp at hz); (try (have z6 := Nat.lt_of_lt_of_le z7 hz)); (try (have z7 := Nat.lt_of_lt_of_le z8 hz)); (try (have z8 := Nat.lt_of_lt_of_le z9 hz)); (try (have z9 := Nat.lt_of_lt_of_le (Nat.lt_succ_self _) hz)); (try (have z0 : w.heap.size < w'.heap.size := by omega)); (try (have z1 : w.heap.size + 1 < w'.heap.size := by omega)); (try (have z2 : w.heap.size + 1 + 1 < w'.heap.size := by omega)); (try (have z3 : w.heap.size + 1 + 1 + 1 < w'.heap.size := by omega)); (try (have y1 : w1.heap.size < w'.heap.size := by omega)); (try (have y2 : w2.heap.size < w'.heap.size := by omega)); (try (have y3 : w3.heap.size < w'.heap.size := by omega)); (try (have y4 : w4.heap.size < w'.heap.size := by omega)); (try (have y5 : w5.heap.size < w'.heap.size := by omega)); (try (have y6 : w6.heap.size < w'.heap.size := by omega)); (try (have x1 : w1.heap.size + 1 < w'.heap.size := by omega)); (try (have x2 : w2.heap.size + 1 < w'.heap.size := by omega)); (try (have x3 : w3.heap.size + 1 < w'.heap.size := by omega)); (try (have x4 : w4.heap.size + 1 < w'.heap.size := by omega)); (try (have x5 : w5.heap.size + 1 < w'.heap.size := by omega)); (try (have x6 : w6.heap.size + 1 < w'.heap.size := by omega)); (try (have y7 : w7.heap.size < w'.heap.size := by omega)); (try (have y8 : w8.heap.size < w'.heap.size := by omega)); (try (have y9 : w9.heap.size < w'.heap.size := by omega)); (try (have z10 : w1.heap.size < w'.heap.size + 1 := by omega)); (try (have z20 : w2.heap.size < w'.heap.size + 1 := by omega)); (try (have z30 : w3.heap.size < w'.heap.size + 1 := by omega)); (try (have z40 : w4.heap.size < w'.heap.size + 1 := by omega)); (try (have z50 : w5.heap.size < w'.heap.size + 1 := by omega)); (try (have z60 : w6.heap.size < w'.heap.size + 1 := by omega)); (try (have z70 : w7.heap.size < w'.heap.size + 1 := by omega)); (try (have z80 : w8.heap.size < w'.heap.size + 1 := by omega)); obtain ⟨w2, rfl⟩ : ∃ v, v = w' := ⟨_, rfl⟩) | (go_at_call 14; ((with_reducible refine (C1.out _).mono ?_); rintro e w' ⟨rfl, hb⟩); (try replace hb := below_undrew hb); (try replace hb := below_undrewN hb); obtain ⟨hcell, hfroz⟩ := bcell hb; have hz := hb.size; (try simp at hz); (try (have z6 := Nat.lt_of_lt_of_le z7 hz)); (try (have z7 := Nat.lt_of_lt_of_le z8 hz)); (try (have z8 := Nat.lt_of_lt_of_le z9 hz)); (try (have z9 := Nat.lt_of_lt_of_le (Nat.lt_succ_self _) hz)); (try (have z0 : w.heap.size < w'.heap.size := by omega)); (try (have z1 : w.heap.size + 1 < w'.heap.size := by omega)); (try (have z2 : w.heap.size + 1 + 1 < w'.heap.size := by omega)); (try (have z3 : w.heap.size + 1 + 1 + 1 < w'.heap.size := by omega)); (try (have y1 : w1.heap.size < w'.heap.size := by omega)); (try (have y2 : w2.heap.size < w'.heap.size := by omega)); (try (have y3 : w3.heap.size < w'.heap.size := by omega)); (try (have y4 : w4.heap.size < w'.heap.size := by omega)); (try (have y5 : w5.heap.size < w'.heap.size := by omega)); (try (have y6 : w6.heap.size < w'.heap.size := by omega)); (try (have x1 : w1.heap.size + 1 < w'.heap.size := by omega)); (try (have x2 : w2.heap.size + 1 < w'.heap.size := by omega)); (try (have x3 : w3.heap.size + 1 < w'.heap.size := by omega)); (try (have x4 : w4.heap.size + 1 < w'.heap.size := by omega)); (try (have x5 : w5.heap.size + 1 < w'.heap.size := by omega)); (try (have x6 : w6.heap.size + 1 < w'.heap.size := by omega)); (try (have y7 : w7.heap.size < w'.heap.size := by omega)); (try (have y8 : w8.heap.size < w'.heap.size := by omega)); (try (have y9 : w9.heap.size < w'.heap.size := by omega)); (try (have z10 : w1.heap.size < w'.heap.size + 1 := by omega)); (try (have z20 : w2.heap.size < w'.heap.size + 1 := by omega)); (try (have z30 : w3.heap.size < w'.heap.size + 1 := by omega)); (try (have z40 : w4.heap.size < w'.heap.size + 1 := by omega)); (try (have z50 : w5.heap.size < w'.heap.size + 1 := by omega)); (try (have z60 : w6.heap.size < w'.heap.size + 1 := by omega)); (try (have z70 : w7.heap.size < w'.heap.size + 1 := by omega)); (try (have z80 : w8.heap.size < w'.heap.size + 1 := by omega)); obtain ⟨w3, rfl⟩ : ∃ v, v = w' := ⟨_, rfl⟩) | (go_at_call 27; ((with_reducible refine (A1.out _).mono ?_); rintro e w' ⟨rfl, hb⟩); (try replace hb := below_undrew hb); (try replace hb := below_undrewN hb); obtain ⟨hcell, hfroz⟩ := bcell hb; have hz := hb.size; (try simp at hz); (try (have z6 := Nat.lt_of_lt_of_le z7 hz)); (try (have z7 := Nat.lt_of_lt_of_le z8 hz)); (try (have z8 := Nat.lt_of_lt_of_le z9 hz)); (try (have z9 := Nat.lt_of_lt_of_le (Nat.lt_succ_self _) hz)); (try (have z0 : w.heap.size < w'.heap.size := by omega)); (try (have z1 : w.heap.size + 1 < w'.heap.size := by omega)); (try (have z2 : w.heap.size + 1 + 1 < w'.heap.size := by omega)); (try (have z3 : w.heap.size + 1 + 1 + 1 < w'.heap.size := by omega)); (try (have y1 : w1.heap.size < w'.heap.size := by omega)); (try (have y2 : w2.heap.size < w'.heap.size := by omega)); (try (have y3 : w3.heap.size < w'.heap.size := by omega)); (try (have y4 : w4.heap.size < w'.heap.size := by omega)); (try (have y5 : w5.heap.size < w'.heap.size := by omega)); (try (have y6 : w6.heap.size < w'.heap.size := by omega)); (try (have x1 : w1.heap.size + 1 < w'.heap.size := by omega)); (try (have x2 : w2.heap.size + 1 < w'.heap.size := by omega)); (try (have x3 : w3.heap.size + 1 < w'.heap.size := by omega)); (try (have x4 : w4.heap.size + 1 < w'.heap.size := by omega)); (try (have x5 : w5.heap.size + 1 < w'.heap.size := by omega)); (try (have x6 : w6.heap.size + 1 < w'.heap.size := by omega)); (try (have y7 : w7.heap.size < w'.heap.size := by omega)); (try (have y8 : w8.heap.size < w'.heap.size := by omega)); (try (have y9 : w9.heap.size < w'.heap.size := by omega)); (try (have z10 : w1.heap.size < w'.heap.size + 1 := by omega)); (try (have z20 : w2.heap.size < w'.heap.size + 1 := by omega)); (try (have z30 : w3.heap.size < w'.heap.size + 1 := by omega)); (try (have z40 : w4.heap.size < w'.heap.size + 1 := by omega)); (try (have z50 : w5.heap.size < w'.heap.size + 1 := by omega)); (try (have z60 : w6.heap.size < w'.heap.size + 1 := by omega)); (try (have z70 : w7.heap.size < w'.heap.size + 1 := by omega)); (try (have z80 : w8.heap.size < w'.heap.size + 1 := by omega)); obtain ⟨w4, rfl⟩ : ∃ v, v = w' := ⟨_, rfl⟩) | (go_at_call 27; ((with_reducible refine (A2.out _).mono ?_); rintro e w' ⟨rfl, hb⟩); (try replace hb := below_undrew hb); (try replace hb := below_undrewN hb); obtain ⟨hcell, hfroz⟩ := bcell hb; have hz := hb.size; (try simp at hz); (try (have z6 := Nat.lt_of_lt_of_le z7 hz)); (try (have z7 := Nat.lt_of_lt_of_le z8 hz)); (try (have z8 := Nat.lt_of_lt_of_le z9 hz)); (try (have z9 := Nat.lt_of_lt_of_le (Nat.lt_succ_self _) hz)); (try (have z0 : w.heap.size < w'.heap.size := by omega)); (try (have z1 : w.heap.size + 1 < w'.heap.size := by omega)); (try (have z2 : w.heap.size + 1 + 1 < w'.heap.size := by omega)); (try (have z3 : w.heap.size + 1 + 1 + 1 < w'.heap.size := by omega)); (try (have y1 : w1.heap.size < w'.heap.size := by omega)); (try (have y2 : w2.heap.size < w'.heap.size := by omega)); (try (have y3 : w3.heap.size < w'.heap.size := by omega)); (try (have y4 : w4.heap.size < w'.heap.size := by omega)); (try (have y5 : w5.heap.size < w'.heap.size := by omega)); (try (have y6 : w6.heap.size < w'.heap.size := by omega)); (try (have x1 : w1.heap.size + 1 < w'.heap.size := by omega)); (try (have x2 : w2.heap.size + 1 < w'.heap.size := by omega)); (try (have x3 : w3.heap.size + 1 < w'.heap.size := by omega)); (try (have x4 : w4.heap.size + 1 < w'.heap.size := by omega)); (try (have x5 : w5.heap.size + 1 < w'.heap.size := by omega)); (try (have x6 : w6.heap.size + 1 < w'.heap.size := by omega)); (try (have y7 : w7.heap.size < w'.heap.size := by omega)); (try (have y8 : w8.heap.size < w'.heap.size := by omega)); (try (have y9 : w9.heap.size < w'.heap.size := by omega)); (try (have z10 : w1.heap.size < w'.heap.size + 1 := by omega)); (try (have z20 : w2.heap.size < w'.heap.size + 1 := by omega)); (try (have z30 : w3.heap.size < w'.heap.size + 1 := by omega)); (try (have z40 : w4.heap.size < w'.heap.size + 1 := by omega)); (try (have z50 : w5.heap.size < w'.heap.size + 1 := by omega)); (try (have z60 : w6.heap.size < w'.heap.size + 1 := by omega)); (try (have z70 : w7.heap.size < w'.heap.size + 1 := by omega)); (try (have z80 : w8.heap.size < w'.heap.size + 1 := by omega)); obtain ⟨w5, rfl⟩ : ∃ v, v = w' := ⟨_, rfl⟩) | (go_at_call 21; have hq := HU1; clear hq; ((with_reducible refine (ON.out _).mono ?_); rintro e w' ⟨VA, Vn, Vc, Vb, VA2, Vn2, Vc2, Vb2, rfl, hu0, hb⟩); have HU2 := hidden hu0; clear hu0; (try replace hb := below_undrew hb); (try replace hb := below_undrewN hb); obtain ⟨hcell, hfroz⟩ := bcell hb; have hz := hb.size; (try simp at hz); (try (have z6 := Nat.lt_of_lt_of_le z7 hz)); (try (have z7 := Nat.lt_of_lt_of_le z8 hz)); (try (have z8 := Nat.lt_of_lt_of_le z9 hz)); (try (have z9 := Nat.lt_of_lt_of_le (Nat.lt_succ_self _) hz)); (try (have z0 : w.heap.size < w'.heap.size := by omega)); (try (have z1 : w.heap.size + 1 < w'.heap.size := by omega)); (try (have z2 : w.heap.size + 1 + 1 < w'.heap.size := by omega)); (try (have z3 : w.heap.size + 1 + 1 + 1 < w'.heap.size := by omega)); (try (have y1 : w1.heap.size < w'.heap.size := by omega)); (try (have y2 : w2.heap.size < w'.heap.size := by omega)); (try (have y3 : w3.heap.size < w'.heap.size := by omega)); (try (have y4 : w4.heap.size < w'.heap.size := by omega)); (try (have y5 : w5.heap.size < w'.heap.size := by omega)); (try (have y6 : w6.heap.size < w'.heap.size := by omega)); (try (have x1 : w1.heap.size + 1 < w'.heap.size := by omega)); (try (have x2 : w2.heap.size + 1 < w'.heap.size := by omega)); (try (have x3 : w3.heap.size + 1 < w'.heap.size := by omega)); (try (have x4 : w4.heap.size + 1 < w'.heap.size := by omega)); (try (have x5 : w5.heap.size + 1 < w'.heap.size := by omega)); (try (have x6 : w6.heap.size + 1 < w'.heap.size := by omega)); (try (have y7 : w7.heap.size < w'.heap.size := by omega)); (try (have y8 : w8.heap.size < w'.heap.size := by omega)); (try (have y9 : w9.heap.size < w'.heap.size := by omega)); (try (have z10 : w1.heap.size < w'.heap.size + 1 := by omega)); (try (have z20 : w2.heap.size < w'.heap.size + 1 := by omega)); (try (have z30 : w3.heap.size < w'.heap.size + 1 := by omega)); (try (have z40 : w4.heap.size < w'.heap.size + 1 := by omega)); (try (have z50 : w5.heap.size < w'.heap.size + 1 := by omega)); (try (have z60 : w6.heap.size < w'.heap.size + 1 := by omega)); (try (have z70 : w7.heap.size < w'.heap.size + 1 := by omega)); (try (have z80 : w8.heap.size < w'.heap.size + 1 := by omega)); obtain ⟨w7, rfl⟩ : ∃ v, v = w' := ⟨_, rfl⟩) | (go_at_call 21; ((with_reducible refine (ON.out _).mono ?_); rintro e w' ⟨WA, Wn, Wc, Wb, WA2, Wn2, Wc2, Wb2, rfl, hu0, hb⟩); have HU1 := hidden hu0; clear hu0; (try replace hb := below_undrew hb); (try replace hb := below_undrewN hb); obtain ⟨hcell, hfroz⟩ := bcell hb; have hz := hb.size; (try simp at hz); (try (have z6 := Nat.lt_of_lt_of_le z7 hz)); (try (have z7 := Nat.lt_of_lt_of_le z8 hz)); (try (have z8 := Nat.lt_of_lt_of_le z9 hz)); (try (have z9 := Nat.lt_of_lt_of_le (Nat.lt_succ_self _) hz)); (try (have z0 : w.heap.size < w'.heap.size := by omega)); (try (have z1 : w.heap.size + 1 < w'.heap.size := by omega)); (try (have z2 : w.heap.size + 1 + 1 < w'.heap.size := by omega)); (try (have z3 : w.heap.size + 1 + 1 + 1 < w'.heap.size := by omega)); (try (have y1 : w1.heap.size < w'.heap.size := by omega)); (try (have y2 : w2.heap.size < w'.heap.size := by omega)); (try (have y3 : w3.heap.size < w'.heap.size := by omega)); (try (have y4 : w4.heap.size < w'.heap.size := by omega)); (try (have y5 : w5.heap.size < w'.heap.size := by omega)); (try (have y6 : w6.heap.size < w'.heap.size := by omega)); (try (have x1 : w1.heap.size + 1 < w'.heap.size := by omega)); (try (have x2 : w2.heap.size + 1 < w'.heap.size := by omega)); (try (have x3 : w3.heap.size + 1 < w'.heap.size := by omega)); (try (have x4 : w4.heap.size + 1 < w'.heap.size := by omega)); (try (have x5 : w5.heap.size + 1 < w'.heap.size := by omega)); (try (have x6 : w6.heap.size + 1 < w'.heap.size := by omega)); (try (have y7 : w7.heap.size < w'.heap.size := by omega)); (try (have y8 : w8.heap.size < w'.heap.size := by omega)); (try (have y9 : w9.heap.size < w'.heap.size := by omega)); (try (have z10 : w1.heap.size < w'.heap.size + 1 := by omega)); (try (have z20 : w2.heap.size < w'.heap.size + 1 := by omega)); (try (have z30 : w3.heap.size < w'.heap.size + 1 := by omega)); (try (have z40 : w4.heap.size < w'.heap.size + 1 := by omega)); (try (have z50 : w5.heap.size < w'.heap.size + 1 := by omega)); (try (have z60 : w6.heap.size < w'.heap.size + 1 := by omega)); (try (have z70 : w7.heap.size < w'.heap.size + 1 := by omega)); (try (have z80 : w8.heap.size < w'.heap.size + 1 := by omega)); obtain ⟨w6, rfl⟩ : ∃ v, v = w' := ⟨_, rfl⟩) | (go_at_call 23; ((with_reducible refine (TU.out _ _ _ (HU1.out.below ?bb) HU2.out).mono ?_); (case bb => (repeat (first | (with_reducible exact Below.refl _ _) | (with_reducible refine Below.setCell ?_ (by (first | (simp; done) | (simp; omega) | omega)) _) | (with_reducible refine bl_alloc ?_ _) | (with_reducible refine bl_drewN ?_) | (with_reducible refine bl_drew ?_) | (with_reducible refine bl_step (by assumption) ?_))); done); rintro e w' ⟨UA, Un, Uc, Ub, UA2, Un2, Uc2, Ub2, rfl, hu0, hb⟩); have HU := hidden hu0; clear hu0; (try replace hb := below_undrew hb); (try replace hb := below_undrewN hb); obtain ⟨hcell, hfroz⟩ := bcell hb; have hz := hb.size; (try simp at hz); (try (have z6 := Nat.lt_of_lt_of_le z7 hz)); (try (have z7 := Nat.lt_of_lt_of_le z8 hz)); (try (have z8 := Nat.lt_of_lt_of_le z9 hz)); (try (have z9 := Nat.lt_of_lt_of_le (Nat.lt_succ_self _) hz)); (try (have z0 : w.heap.size < w'.heap.size := by omega)); (try (have z1 : w.heap.size + 1 < w'.heap.size := by omega)); (try (have z2 : w.heap.size + 1 + 1 < w'.heap.size := by omega)); (try (have z3 : w.heap.size + 1 + 1 + 1 < w'.heap.size := by omega)); (try (have y1 : w1.heap.size < w'.heap.size := by omega)); (try (have y2 : w2.heap.size < w'.heap.size := by omega)); (try (have y3 : w3.heap.size < w'.heap.size := by omega)); (try (have y4 : w4.heap.size < w'.heap.size := by omega)); (try (have y5 : w5.heap.size < w'.heap.size := by omega)); (try (have y6 : w6.heap.size < w'.heap.size := by omega)); (try (have x1 : w1.heap.size + 1 < w'.heap.size := by omega)); (try (have x2 : w2.heap.size + 1 < w'.heap.size := by omega)); (try (have x3 : w3.heap.size + 1 < w'.heap.size := by omega)); (try (have x4 : w4.heap.size + 1 < w'.heap.size := by omega)); (try (have x5 : w5.heap.size + 1 < w'.heap.size := by omega)); (try (have x6 : w6.heap.size + 1 < w'.heap.size := by omega)); (try (have y7 : w7.heap.size < w'.heap.size := by omega)); (try (have y8 : w8.heap.size < w'.heap.size := by omega)); (try (have y9 : w9.heap.size < w'.heap.size := by omega)); (try (have z10 : w1.heap.size < w'.heap.size + 1 := by omega)); (try (have z20 : w2.heap.size < w'.heap.size + 1 := by omega)); (try (have z30 : w3.heap.size < w'.heap.size + 1 := by omega)); (try (have z40 : w4.heap.size < w'.heap.size + 1 := by omega)); (try (have z50 : w5.heap.size < w'.heap.size + 1 := by omega)); (try (have z60 : w6.heap.size < w'.heap.size + 1 := by omega)); (try (have z70 : w7.heap.size < w'.heap.size + 1 := by omega)); (try (have z80 : w8.heap.size < w'.heap.size + 1 := by omega)); obtain ⟨w8, rfl⟩ : ∃ v, v = w' := ⟨_, rfl⟩))
  refine name_code ?_
  intro w' hb
  have HV := hidden (HU.out.below (bl_step hb (by (repeat (first | (with_reducible exact Below.refl _ _) | (with_reducible refine Below.setCell ?_ (by (first | (simp; done) | (simp; omega) | omega)) _) | (with_reducible refine bl_alloc ?_ _) | (with_reducible refine bl_drewN ?_) | (with_reducible refine bl_drew ?_) | (with_reducible refine bl_step (by assumption) ?_))))))
  have hw9 : Below w.heap.size w w' := bl_step hb (by (repeat (first | (with_reducible exact Below.refl _ _) | (with_reducible refine Below.setCell ?_ (by (first | (simp; done) | (simp; omega) | omega)) _) | (with_reducible refine bl_alloc ?_ _) | (with_reducible refine bl_drewN ?_) | (with_reducible refine bl_drew ?_) | (with_reducible refine bl_step (by assumption) ?_))))
  (try replace hb := below_undrew hb); (try replace hb := below_undrewN hb); obtain ⟨hcell, hfroz⟩ := bcell hb; have hz := hb.size; (try simp at hz); (try (have z6 := Nat.lt_of_lt_of_le z7 hz)); (try (have z7 := Nat.lt_of_lt_of_le z8 hz)); (try (have z8 := Nat.lt_of_lt_of_le z9 hz)); (try (have z9 := Nat.lt_of_lt_of_le (Nat.lt_succ_self _) hz)); (try (have z0 : w.heap.size < w'.heap.size := by omega)); (try (have z1 : w.heap.size + 1 < w'.heap.size := by omega)); (try (have z2 : w.heap.size + 1 + 1 < w'.heap.size := by omega)); (try (have z3 : w.heap.size + 1 + 1 + 1 < w'.heap.size := by omega)); (try (have y1 : w1.heap.size < w'.heap.size := by omega)); (try (have y2 : w2.heap.size < w'.heap.size := by omega)); (try (have y3 : w3.heap.size < w'.heap.size := by omega)); (try (have y4 : w4.heap.size < w'.heap.size := by omega)); (try (have y5 : w5.heap.size < w'.heap.size := by omega)); (try (have y6 : w6.heap.size < w'.heap.size := by omega)); (try (have x1 : w1.heap.size + 1 < w'.heap.size := by omega)); (try (have x2 : w2.heap.size + 1 < w'.heap.size := by omega)); (try (have x3 : w3.heap.size + 1 < w'.heap.size := by omega)); (try (have x4 : w4.heap.size + 1 < w'.heap.size := by omega)); (try (have x5 : w5.heap.size + 1 < w'.heap.size := by omega)); (try (have x6 : w6.heap.size + 1 < w'.heap.size := by omega)); (try (have y7 : w7.heap.size < w'.heap.size := by omega)); (try (have y8 : w8.heap.size < w'.heap.size := by omega)); (try (have y9 : w9.heap.size < w'.heap.size := by omega)); (try (have z10 : w1.heap.size < w'.heap.size + 1 := by omega)); (try (have z20 : w2.heap.size < w'.heap.size + 1 := by omega)); (try (have z30 : w3.heap.size < w'.heap.size + 1 := by omega)); (try (have z40 : w4.heap.size < w'.heap.size + 1 := by omega)); (try (have z50 : w5.heap.size < w'.heap.size + 1 := by omega)); (try (have z60 : w6.heap.size < w'.heap.size + 1 := by omega)); (try (have z70 : w7.heap.size < w'.heap.size + 1 := by omega)); (try (have z80 : w8.heap.size < w'.heap.size + 1 := by omega))
  have s0_ : w'.cell? ⟨w2.heap.size, 0, none⟩ = some (.int .i64 s1) := by simp [go_sem, *]
  have s1_ : w'.cell? ⟨w2.heap.size, 1, none⟩ = some (.int .i64 s2) := by simp [go_sem, *]
  have c0_ : w'.cell? ⟨w3.heap.size, 0, none⟩ = some (.int .i64 c1) := by simp [go_sem, *]
  have c1_ : w'.cell? ⟨w3.heap.size, 1, none⟩ = some (.int .i64 c2) := by simp [go_sem, *]
  have h0_ : w'.cell? ⟨w4.heap.size, 0, none⟩ = some (.int .i64 h1) := by simp [go_sem, *]
  have h1_ : w'.cell? ⟨w4.heap.size, 1, none⟩ = some (.int .i64 h2) := by simp [go_sem, *]
  have d0_ : w'.cell? ⟨w5.heap.size, 0, none⟩ = some (.int .i64 d1) := by simp [go_sem, *]
  have d1_ : w'.cell? ⟨w5.heap.size, 1, none⟩ = some (.int .i64 d2) := by simp [go_sem, *]
  have uu0 : w'.cell? ⟨w8.heap.size, 0, none⟩ = some (.slice UA Un Uc) := by simp [go_sem, *]
  have uu1 : w'.cell? ⟨w8.heap.size, 1, none⟩ = some (.bool Ub) := by simp [go_sem, *]
  have uu2 : w'.cell? ⟨w8.heap.size, 2, none⟩ = some (.slice UA2 Un2 Uc2) := by simp [go_sem, *]
  have uu3 : w'.cell? ⟨w8.heap.size, 3, none⟩ = some (.bool Ub2) := by simp [go_sem, *]
  clear hcell hfroz hz HU HU1 HU2
  obtain ⟨w9, rfl⟩ : ∃ v, v = w' := ⟨_, rfl⟩
  refine wp_region_inv (fun a0 LL aa vv => ∃ (l0 l1 l2 l3 l4 l5 l6 l7 l8 l9 l10 l11 l12 l13 : Bool) (uu : World) (v1 v3 v4 v6 v8 v9 v10 : Value), LL = #[l0, l1, l2, l3, l4, l5, l6, l7, l8, l9, l10, l11, l12, l13] ∧ aa = { a0 with tmps := (a0.tmps.toList.take 62 ++ ([cond l0 (.agg #[.int .i64 (s1), .int .i64 (s2)]) (undef), cond l1 (v1) (undef), cond l2 (.agg #[.int .i64 (s1), .int .i64 (s2)]) (undef), cond l3 (v3) (undef), cond l4 (v4) (undef), cond l5 (.agg #[.int .i64 (c1), .int .i64 (c2)]) (undef), cond l6 (v6) (undef), cond l7 (.agg #[.int .i64 (c1), .int .i64 (c2)]) (undef), cond l8 (v8) (undef), cond l9 (v9) (undef), cond l10 (v10) (undef), cond l11 (.agg #[.slice UA Un Uc, .bool Ub, .slice UA2 Un2 Uc2, .bool Ub2]) (undef), cond l12 (.bool true) (undef), cond l13 (.bool false) (undef)] ++ a0.tmps.toList.drop 76)).toArray } ∧ Below w9.heap.size w9 uu ∧ (l1 = true → BoxV uu (s1) (s2) v1) ∧ (l3 = true → BoxV uu (s1) (s2) v3) ∧ (l4 = true → BoxV uu (L1) (H1) v4) ∧ (l6 = true → BoxV uu (c1) (c2) v6) ∧ (l8 = true → BoxV uu (c1) (c2) v8) ∧ (l9 = true → BoxV uu (L2) (H2) v9) ∧ (l10 = true → BoxV uu (L3) (H3) v10) ∧ vv = uu) (by kernel_rfl) (by kernel_rfl) ?h0 ?hsize ?hdone ?hstep
  case h0 =>
    refine ⟨false, false, false, false, false, false, false, false, false, false, false, false, false, false, _, undef, undef, undef, undef, undef, undef, undef, rfl, ?_, by (repeat (first | exact Below.refl _ _ | refine bl_drewN ?_ | refine bl_drew ?_ | refine bl_alloc ?_ _ | refine Below.setCell ?_ (by (first | (simp; done) | (simp; omega) | omega)) _ | refine bl_step (by assumption) ?_)), (fun h => by cases h), (fun h => by cases h), (fun h => by cases h), (fun h => by cases h), (fun h => by cases h), (fun h => by cases h), (fun h => by cases h), rfl⟩
    kernel_rfl
  case hsize =>
    intro LL aa vv h
    obtain ⟨l0, h⟩ := h
    obtain ⟨l1, h⟩ := h
    obtain ⟨l2, h⟩ := h
    obtain ⟨l3, h⟩ := h
    obtain ⟨l4, h⟩ := h
    obtain ⟨l5, h⟩ := h
    obtain ⟨l6, h⟩ := h
    obtain ⟨l7, h⟩ := h
    obtain ⟨l8, h⟩ := h
    obtain ⟨l9, h⟩ := h
    obtain ⟨l10, h⟩ := h
    obtain ⟨l11, h⟩ := h
    obtain ⟨l12, h⟩ := h
    obtain ⟨l13, h⟩ := h
    obtain ⟨uu, h⟩ := h
    obtain ⟨v1, h⟩ := h
    obtain ⟨v3, h⟩ := h
    obtain ⟨v4, h⟩ := h
    obtain ⟨v6, h⟩ := h
    obtain ⟨v8, h⟩ := h
    obtain ⟨v9, h⟩ := h
    obtain ⟨v10, h⟩ := h
    obtain ⟨hL, _⟩ := h
    rw [hL]
    rfl
  case hstep =>
    intro LL aa vv h
    obtain ⟨l0, h⟩ := h
    obtain ⟨l1, h⟩ := h
    obtain ⟨l2, h⟩ := h
    obtain ⟨l3, h⟩ := h
    obtain ⟨l4, h⟩ := h
    obtain ⟨l5, h⟩ := h
    obtain ⟨l6, h⟩ := h
    obtain ⟨l7, h⟩ := h
    obtain ⟨l8, h⟩ := h
    obtain ⟨l9, h⟩ := h
    obtain ⟨l10, h⟩ := h
    obtain ⟨l11, h⟩ := h
    obtain ⟨l12, h⟩ := h
    obtain ⟨l13, h⟩ := h
    obtain ⟨uu, h⟩ := h
    obtain ⟨v1, h⟩ := h
    obtain ⟨v3, h⟩ := h
    obtain ⟨v4, h⟩ := h
    obtain ⟨v6, h⟩ := h
    obtain ⟨v8, h⟩ := h
    obtain ⟨v9, h⟩ := h
    obtain ⟨v10, h⟩ := h
    obtain ⟨hL, h⟩ := h
    obtain ⟨ha, h⟩ := h
    obtain ⟨hu, h⟩ := h
    obtain ⟨hx1, h⟩ := h
    obtain ⟨hx3, h⟩ := h
    obtain ⟨hx4, h⟩ := h
    obtain ⟨hx6, h⟩ := h
    obtain ⟨hx8, h⟩ := h
    obtain ⟨hx9, h⟩ := h
    obtain ⟨hx10, hv⟩ := h
    simp only [List.take_succ_cons, List.take_zero, List.cons_append, List.nil_append, List.drop_succ_cons, List.drop_zero] at ha
    subst hL
    subst ha
    refine ⟨?s0, ?s1, ?s2, ?s3, ?s4, ?s5, ?s6, ?s7, ?s8, ?s9, ?s10, ?s11, ?s12, ?s13, trivial⟩
    case s0 =>
      intro ff gg KK hK
      have f0 : l0 = false := ff
      subst hv
      clear ff gg
      subst f0
      simp only [cond_false]
      have j_s0_ := cell_later hu s0_
      have j_s1_ := cell_later hu s1_
      go_simp
      exact hK _ _ ⟨true, l1, l2, l3, l4, l5, l6, l7, l8, l9, l10, l11, l12, l13, _, v1, v3, v4, v6, v8, v9, v10, rfl, (by kernel_rfl), hu, hx1, hx3, hx4, hx6, hx8, hx9, hx10, rfl⟩
    case s1 =>
      intro ff gg KK hK
      have f0 : l1 = false := ff
      subst hv
      have t0 : l0 = true := gg ⟨0, .data⟩ (by simp) (by rfl)
      clear ff gg
      subst t0
      subst f0
      simp only [cond_true, cond_false]
      go_simp
      go_at_call 24
      with_reducible refine (Os.out _).mono ?_
      rintro e w' ⟨vn, rfl, hv, hb⟩
      exact hK _ _ ⟨true, true, l2, l3, l4, l5, l6, l7, l8, l9, l10, l11, l12, l13, _, vn, v3, v4, v6, v8, v9, v10, rfl, (by kernel_rfl), bl_step hb hu, (fun _ => hv), (fun t => (hx3 t).below hb), (fun t => (hx4 t).below hb), (fun t => (hx6 t).below hb), (fun t => (hx8 t).below hb), (fun t => (hx9 t).below hb), (fun t => (hx10 t).below hb), rfl⟩
    case s2 =>
      intro ff gg KK hK
      have f0 : l2 = false := ff
      subst hv
      clear ff gg
      subst f0
      simp only [cond_false]
      have j_s0_ := cell_later hu s0_
      have j_s1_ := cell_later hu s1_
      go_simp
      exact hK _ _ ⟨l0, l1, true, l3, l4, l5, l6, l7, l8, l9, l10, l11, l12, l13, _, v1, v3, v4, v6, v8, v9, v10, rfl, (by kernel_rfl), hu, hx1, hx3, hx4, hx6, hx8, hx9, hx10, rfl⟩
    case s3 =>
      intro ff gg KK hK
      have f0 : l3 = false := ff
      subst hv
      have t2 : l2 = true := gg ⟨2, .data⟩ (by simp) (by rfl)
      have t1 : l1 = true := gg ⟨1, .chain⟩ (by simp) (by rfl)
      clear ff gg
      subst t2 t1
      subst f0
      simp only [cond_true, cond_false]
      go_simp
      go_at_call 24
      with_reducible refine (Os.out _).mono ?_
      rintro e w' ⟨vn, rfl, hv, hb⟩
      exact hK _ _ ⟨l0, true, true, true, l4, l5, l6, l7, l8, l9, l10, l11, l12, l13, _, v1, vn, v4, v6, v8, v9, v10, rfl, (by kernel_rfl), bl_step hb hu, (fun t => (hx1 t).below hb), (fun _ => hv), (fun t => (hx4 t).below hb), (fun t => (hx6 t).below hb), (fun t => (hx8 t).below hb), (fun t => (hx9 t).below hb), (fun t => (hx10 t).below hb), rfl⟩
    case s4 =>
      intro ff gg KK hK
      have f0 : l4 = false := ff
      subst hv
      have t1 : l1 = true := gg ⟨1, .data⟩ (by simp) (by rfl)
      have t3 : l3 = true := gg ⟨3, .data⟩ (by simp) (by rfl)
      clear ff gg
      subst t1 t3
      subst f0
      simp only [cond_true, cond_false]
      go_simp
      go_at_call 23
      with_reducible refine (T1.out _ _ _ (hx1 rfl) (hx3 rfl)).mono ?_
      rintro e w' ⟨vn, rfl, hv, hb⟩
      exact hK _ _ ⟨l0, true, l2, true, true, l5, l6, l7, l8, l9, l10, l11, l12, l13, _, v1, v3, vn, v6, v8, v9, v10, rfl, (by kernel_rfl), bl_step hb hu, (fun t => (hx1 t).below hb), (fun t => (hx3 t).below hb), (fun _ => hv), (fun t => (hx6 t).below hb), (fun t => (hx8 t).below hb), (fun t => (hx9 t).below hb), (fun t => (hx10 t).below hb), rfl⟩
    case s5 =>
      intro ff gg KK hK
      have f0 : l5 = false := ff
      subst hv
      clear ff gg
      subst f0
      simp only [cond_false]
      have j_c0_ := cell_later hu c0_
      have j_c1_ := cell_later hu c1_
      go_simp
      exact hK _ _ ⟨l0, l1, l2, l3, l4, true, l6, l7, l8, l9, l10, l11, l12, l13, _, v1, v3, v4, v6, v8, v9, v10, rfl, (by kernel_rfl), hu, hx1, hx3, hx4, hx6, hx8, hx9, hx10, rfl⟩
    case s6 =>
      intro ff gg KK hK
      have f0 : l6 = false := ff
      subst hv
      have t5 : l5 = true := gg ⟨5, .data⟩ (by simp) (by rfl)
      have t4 : l4 = true := gg ⟨4, .chain⟩ (by simp) (by rfl)
      clear ff gg
      subst t5 t4
      subst f0
      simp only [cond_true, cond_false]
      go_simp
      go_at_call 24
      with_reducible refine (Oc.out _).mono ?_
      rintro e w' ⟨vn, rfl, hv, hb⟩
      exact hK _ _ ⟨l0, l1, l2, l3, true, true, true, l7, l8, l9, l10, l11, l12, l13, _, v1, v3, v4, vn, v8, v9, v10, rfl, (by kernel_rfl), bl_step hb hu, (fun t => (hx1 t).below hb), (fun t => (hx3 t).below hb), (fun t => (hx4 t).below hb), (fun _ => hv), (fun t => (hx8 t).below hb), (fun t => (hx9 t).below hb), (fun t => (hx10 t).below hb), rfl⟩
    case s7 =>
      intro ff gg KK hK
      have f0 : l7 = false := ff
      subst hv
      clear ff gg
      subst f0
      simp only [cond_false]
      have j_c0_ := cell_later hu c0_
      have j_c1_ := cell_later hu c1_
      go_simp
      exact hK _ _ ⟨l0, l1, l2, l3, l4, l5, l6, true, l8, l9, l10, l11, l12, l13, _, v1, v3, v4, v6, v8, v9, v10, rfl, (by kernel_rfl), hu, hx1, hx3, hx4, hx6, hx8, hx9, hx10, rfl⟩
    case s8 =>
      intro ff gg KK hK
      have f0 : l8 = false := ff
      subst hv
      have t7 : l7 = true := gg ⟨7, .data⟩ (by simp) (by rfl)
      have t6 : l6 = true := gg ⟨6, .chain⟩ (by simp) (by rfl)
      clear ff gg
      subst t7 t6
      subst f0
      simp only [cond_true, cond_false]
      go_simp
      go_at_call 24
      with_reducible refine (Oc.out _).mono ?_
      rintro e w' ⟨vn, rfl, hv, hb⟩
      exact hK _ _ ⟨l0, l1, l2, l3, l4, l5, true, true, true, l9, l10, l11, l12, l13, _, v1, v3, v4, v6, vn, v9, v10, rfl, (by kernel_rfl), bl_step hb hu, (fun t => (hx1 t).below hb), (fun t => (hx3 t).below hb), (fun t => (hx4 t).below hb), (fun t => (hx6 t).below hb), (fun _ => hv), (fun t => (hx9 t).below hb), (fun t => (hx10 t).below hb), rfl⟩
    case s9 =>
      intro ff gg KK hK
      have f0 : l9 = false := ff
      subst hv
      have t6 : l6 = true := gg ⟨6, .data⟩ (by simp) (by rfl)
      have t8 : l8 = true := gg ⟨8, .data⟩ (by simp) (by rfl)
      clear ff gg
      subst t6 t8
      subst f0
      simp only [cond_true, cond_false]
      go_simp
      go_at_call 23
      with_reducible refine (T2.out _ _ _ (hx6 rfl) (hx8 rfl)).mono ?_
      rintro e w' ⟨vn, rfl, hv, hb⟩
      exact hK _ _ ⟨l0, l1, l2, l3, l4, l5, true, l7, true, true, l10, l11, l12, l13, _, v1, v3, v4, v6, v8, vn, v10, rfl, (by kernel_rfl), bl_step hb hu, (fun t => (hx1 t).below hb), (fun t => (hx3 t).below hb), (fun t => (hx4 t).below hb), (fun t => (hx6 t).below hb), (fun t => (hx8 t).below hb), (fun _ => hv), (fun t => (hx10 t).below hb), rfl⟩
    case s10 =>
      intro ff gg KK hK
      have f0 : l10 = false := ff
      subst hv
      have t4 : l4 = true := gg ⟨4, .data⟩ (by simp) (by rfl)
      have t9 : l9 = true := gg ⟨9, .data⟩ (by simp) (by rfl)
      clear ff gg
      subst t4 t9
      subst f0
      simp only [cond_true, cond_false]
      go_simp
      go_at_call 25
      with_reducible refine (PL.out _ _ _ (hx4 rfl) (hx9 rfl)).mono ?_
      rintro e w' ⟨vn, rfl, hv, hb⟩
      exact hK _ _ ⟨l0, l1, l2, l3, true, l5, l6, l7, l8, true, true, l11, l12, l13, _, v1, v3, v4, v6, v8, v9, vn, rfl, (by kernel_rfl), bl_step hb hu, (fun t => (hx1 t).below hb), (fun t => (hx3 t).below hb), (fun t => (hx4 t).below hb), (fun t => (hx6 t).below hb), (fun t => (hx8 t).below hb), (fun t => (hx9 t).below hb), (fun _ => hv), rfl⟩
    case s11 =>
      intro ff gg KK hK
      have f0 : l11 = false := ff
      subst hv
      clear ff gg
      subst f0
      simp only [cond_false]
      have j_uu0 := cell_later hu uu0
      have j_uu1 := cell_later hu uu1
      have j_uu2 := cell_later hu uu2
      have j_uu3 := cell_later hu uu3
      go_simp
      exact hK _ _ ⟨l0, l1, l2, l3, l4, l5, l6, l7, l8, l9, l10, true, l12, l13, _, v1, v3, v4, v6, v8, v9, v10, rfl, (by kernel_rfl), hu, hx1, hx3, hx4, hx6, hx8, hx9, hx10, rfl⟩
    case s12 =>
      intro ff gg KK hK
      have f0 : l12 = false := ff
      subst hv
      have t10 : l10 = true := gg ⟨10, .data⟩ (by simp) (by rfl)
      have t11 : l11 = true := gg ⟨11, .data⟩ (by simp) (by rfl)
      clear ff gg
      subst t10 t11
      subst f0
      simp only [cond_true, cond_false]
      go_simp
      go_at_call 22
      with_reducible refine (M1.out _ _ _ (hx10 rfl) (HV.out.below hu)).mono ?_
      rintro e w' ⟨rfl, hb⟩
      exact hK _ _ ⟨l0, l1, l2, l3, l4, l5, l6, l7, l8, l9, true, true, true, l13, _, v1, v3, v4, v6, v8, v9, v10, rfl, (by kernel_rfl), bl_step hb hu, (fun t => (hx1 t).below hb), (fun t => (hx3 t).below hb), (fun t => (hx4 t).below hb), (fun t => (hx6 t).below hb), (fun t => (hx8 t).below hb), (fun t => (hx9 t).below hb), (fun t => (hx10 t).below hb), rfl⟩
    case s13 =>
      intro ff gg KK hK
      have f0 : l13 = false := ff
      subst hv
      have t12 : l12 = true := gg ⟨12, .data⟩ (by simp) (by rfl)
      clear ff gg
      subst t12
      subst f0
      simp only [cond_true, cond_false]
      go_simp
      exact hK _ _ ⟨l0, l1, l2, l3, l4, l5, l6, l7, l8, l9, l10, l11, true, true, _, v1, v3, v4, v6, v8, v9, v10, rfl, (by kernel_rfl), hu, hx1, hx3, hx4, hx6, hx8, hx9, hx10, rfl⟩
  case hdone =>
    intro LL aa vv h hd
    obtain ⟨l0, h⟩ := h
    obtain ⟨l1, h⟩ := h
    obtain ⟨l2, h⟩ := h
    obtain ⟨l3, h⟩ := h
    obtain ⟨l4, h⟩ := h
    obtain ⟨l5, h⟩ := h
    obtain ⟨l6, h⟩ := h
    obtain ⟨l7, h⟩ := h
    obtain ⟨l8, h⟩ := h
    obtain ⟨l9, h⟩ := h
    obtain ⟨l10, h⟩ := h
    obtain ⟨l11, h⟩ := h
    obtain ⟨l12, h⟩ := h
    obtain ⟨l13, h⟩ := h
    obtain ⟨uu, h⟩ := h
    obtain ⟨v1, h⟩ := h
    obtain ⟨v3, h⟩ := h
    obtain ⟨v4, h⟩ := h
    obtain ⟨v6, h⟩ := h
    obtain ⟨v8, h⟩ := h
    obtain ⟨v9, h⟩ := h
    obtain ⟨v10, h⟩ := h
    obtain ⟨hL, h⟩ := h
    obtain ⟨ha, h⟩ := h
    obtain ⟨hu, h⟩ := h
    obtain ⟨hx1, h⟩ := h
    obtain ⟨hx3, h⟩ := h
    obtain ⟨hx4, h⟩ := h
    obtain ⟨hx6, h⟩ := h
    obtain ⟨hx8, h⟩ := h
    obtain ⟨hx9, h⟩ := h
    obtain ⟨hx10, hv⟩ := h
    rw [hL] at hd
    have t0 : l0 = true := hd 0 (by decide)
    have t1 : l1 = true := hd 1 (by decide)
    have t2 : l2 = true := hd 2 (by decide)
    have t3 : l3 = true := hd 3 (by decide)
    have t4 : l4 = true := hd 4 (by decide)
    have t5 : l5 = true := hd 5 (by decide)
    have t6 : l6 = true := hd 6 (by decide)
    have t7 : l7 = true := hd 7 (by decide)
    have t8 : l8 = true := hd 8 (by decide)
    have t9 : l9 = true := hd 9 (by decide)
    have t10 : l10 = true := hd 10 (by decide)
    have t11 : l11 = true := hd 11 (by decide)
    have t12 : l12 = true := hd 12 (by decide)
    have t13 : l13 = true := hd 13 (by decide)
    clear hd hL
    subst t0 t1 t2 t3 t4 t5 t6 t7 t8 t9 t10 t11 t12 t13
    simp only [cond_true, List.take_succ_cons, List.take_zero, List.cons_append, List.nil_append, List.drop_succ_cons, List.drop_zero] at ha
    subst ha
    subst hv
    replace hx1 := hx1 rfl
    replace hx3 := hx3 rfl
    replace hx4 := hx4 rfl
    replace hx6 := hx6 rfl
    replace hx8 := hx8 rfl
    replace hx9 := hx9 rfl
    replace hx10 := hx10 rfl
    clear hx1 hx3 hx4 hx6 hx8 hx9 hx10
    have hw10 : Below w.heap.size w vv := bl_step hu hw9
    replace s0_ := cell_later hu s0_
    replace s1_ := cell_later hu s1_
    replace c0_ := cell_later hu c0_
    replace c1_ := cell_later hu c1_
    replace h0_ := cell_later hu h0_
    replace h1_ := cell_later hu h1_
    replace d0_ := cell_later hu d0_
    replace d1_ := cell_later hu d1_
    replace uu0 := cell_later hu uu0
    replace uu1 := cell_later hu uu1
    replace uu2 := cell_later hu uu2
    replace uu3 := cell_later hu uu3
    clear hu hw9 HV
    obtain ⟨X1, rfl⟩ : ∃ v, v = vv := ⟨_, rfl⟩
    go_wp2
    refine wp_region_inv (fun a0 LL aa vv => ∃ (l0 l1 l2 l3 l4 l5 l6 l7 l8 l9 l10 l11 l12 l13 l14 l15 l16 l17 l18 l19 l20 l21 : Bool) (uu : World) (v0 v2 v3 v4 v6 v7 v11 v12 v13 v15 v17 v18 : Value), LL = #[l0, l1, l2, l3, l4, l5, l6, l7, l8, l9, l10, l11, l12, l13, l14, l15, l16, l17, l18, l19, l20, l21] ∧ aa = { a0 with tmps := ((a0.tmps.toList.set 2 (cond l21 (.bool true) (.bool false))).take 76 ++ ([cond l0 (v0) (undef), cond l1 (.agg #[.int .i64 (h1), .int .i64 (h2)]) (undef), cond l2 (v2) (undef), cond l3 (v3) (undef), cond l4 (v4) (undef), cond l5 (.agg #[.int .i64 (c1), .int .i64 (c2)]) (undef), cond l6 (v6) (undef), cond l7 (v7) (undef), cond l8 (.bool true) (undef), cond l9 (.bool true) (undef), cond l10 (.agg #[.int .i64 (d1), .int .i64 (d2)]) (undef), cond l11 (v11) (undef), cond l12 (v12) (undef), cond l13 (v13) (undef), cond l14 (.agg #[.int .i64 (s1), .int .i64 (s2)]) (undef), cond l15 (v15) (undef), cond l16 (.agg #[.int .i64 (s1), .int .i64 (s2)]) (undef), cond l17 (v17) (undef), cond l18 (v18) (undef), cond l19 (.bool true) (undef), cond l20 (.bool true) (undef)] ++ a0.tmps.toList.drop 97)).toArray } ∧ Below X1.heap.size X1 uu ∧ (l0 = true → BoxV uu (2) (2) v0) ∧ (l2 = true → BoxV uu (h1) (h2) v2) ∧ (l3 = true → BoxV uu (L4) (H4) v3) ∧ (l4 = true → BoxV uu (1073741824) (1073741824) v4) ∧ (l6 = true → BoxV uu (c1) (c2) v6) ∧ (l7 = true → BoxV uu (L5) (H5) v7) ∧ (l11 = true → BoxV uu (d1) (d2) v11) ∧ (l12 = true → BoxV uu (1073741824) (1073741824) v12) ∧ (l13 = true → BoxV uu (L6) (H6) v13) ∧ (l15 = true → BoxV uu (s1) (s2) v15) ∧ (l17 = true → BoxV uu (s1) (s2) v17) ∧ (l18 = true → BoxV uu (L1) (H1) v18) ∧ vv = uu) (by kernel_rfl) (by kernel_rfl) ?h0 ?hsize ?hdone ?hstep
    case h0 =>
      refine ⟨false, false, false, false, false, false, false, false, false, false, false, false, false, false, false, false, false, false, false, false, false, false, _, undef, undef, undef, undef, undef, undef, undef, undef, undef, undef, undef, undef, rfl, ?_, by (repeat (first | exact Below.refl _ _ | refine bl_drewN ?_ | refine bl_drew ?_ | refine bl_alloc ?_ _ | refine Below.setCell ?_ (by (first | (simp; done) | (simp; omega) | omega)) _ | refine bl_step (by assumption) ?_)), (fun h => by cases h), (fun h => by cases h), (fun h => by cases h), (fun h => by cases h), (fun h => by cases h), (fun h => by cases h), (fun h => by cases h), (fun h => by cases h), (fun h => by cases h), (fun h => by cases h), (fun h => by cases h), (fun h => by cases h), rfl⟩
      kernel_rfl
    case hsize =>
      intro LL aa vv h
      obtain ⟨l0, h⟩ := h
      obtain ⟨l1, h⟩ := h
      obtain ⟨l2, h⟩ := h
      obtain ⟨l3, h⟩ := h
      obtain ⟨l4, h⟩ := h
      obtain ⟨l5, h⟩ := h
      obtain ⟨l6, h⟩ := h
      obtain ⟨l7, h⟩ := h
      obtain ⟨l8, h⟩ := h
      obtain ⟨l9, h⟩ := h
      obtain ⟨l10, h⟩ := h
      obtain ⟨l11, h⟩ := h
      obtain ⟨l12, h⟩ := h
      obtain ⟨l13, h⟩ := h
      obtain ⟨l14, h⟩ := h
      obtain ⟨l15, h⟩ := h
      obtain ⟨l16, h⟩ := h
      obtain ⟨l17, h⟩ := h
      obtain ⟨l18, h⟩ := h
      obtain ⟨l19, h⟩ := h
      obtain ⟨l20, h⟩ := h
      obtain ⟨l21, h⟩ := h
      obtain ⟨uu, h⟩ := h
      obtain ⟨v0, h⟩ := h
      obtain ⟨v2, h⟩ := h
      obtain ⟨v3, h⟩ := h
      obtain ⟨v4, h⟩ := h
      obtain ⟨v6, h⟩ := h
      obtain ⟨v7, h⟩ := h
      obtain ⟨v11, h⟩ := h
      obtain ⟨v12, h⟩ := h
      obtain ⟨v13, h⟩ := h
      obtain ⟨v15, h⟩ := h
      obtain ⟨v17, h⟩ := h
      obtain ⟨v18, h⟩ := h
      obtain ⟨hL, _⟩ := h
      rw [hL]
      rfl
    case hstep =>
      intro LL aa vv h
      obtain ⟨l0, h⟩ := h
      obtain ⟨l1, h⟩ := h
      obtain ⟨l2, h⟩ := h
      obtain ⟨l3, h⟩ := h
      obtain ⟨l4, h⟩ := h
      obtain ⟨l5, h⟩ := h
      obtain ⟨l6, h⟩ := h
      obtain ⟨l7, h⟩ := h
      obtain ⟨l8, h⟩ := h
      obtain ⟨l9, h⟩ := h
      obtain ⟨l10, h⟩ := h
      obtain ⟨l11, h⟩ := h
      obtain ⟨l12, h⟩ := h
      obtain ⟨l13, h⟩ := h
      obtain ⟨l14, h⟩ := h
      obtain ⟨l15, h⟩ := h
      obtain ⟨l16, h⟩ := h
      obtain ⟨l17, h⟩ := h
      obtain ⟨l18, h⟩ := h
      obtain ⟨l19, h⟩ := h
      obtain ⟨l20, h⟩ := h
      obtain ⟨l21, h⟩ := h
      obtain ⟨uu, h⟩ := h
      obtain ⟨v0, h⟩ := h
      obtain ⟨v2, h⟩ := h
      obtain ⟨v3, h⟩ := h
      obtain ⟨v4, h⟩ := h
      obtain ⟨v6, h⟩ := h
      obtain ⟨v7, h⟩ := h
      obtain ⟨v11, h⟩ := h
      obtain ⟨v12, h⟩ := h
      obtain ⟨v13, h⟩ := h
      obtain ⟨v15, h⟩ := h
      obtain ⟨v17, h⟩ := h
      obtain ⟨v18, h⟩ := h
      obtain ⟨hL, h⟩ := h
      obtain ⟨ha, h⟩ := h
      obtain ⟨hu, h⟩ := h
      obtain ⟨hx0, h⟩ := h
      obtain ⟨hx2, h⟩ := h
      obtain ⟨hx3, h⟩ := h
      obtain ⟨hx4, h⟩ := h
      obtain ⟨hx6, h⟩ := h
      obtain ⟨hx7, h⟩ := h
      obtain ⟨hx11, h⟩ := h
      obtain ⟨hx12, h⟩ := h
      obtain ⟨hx13, h⟩ := h
      obtain ⟨hx15, h⟩ := h
      obtain ⟨hx17, h⟩ := h
      obtain ⟨hx18, hv⟩ := h
      simp only [List.take_succ_cons, List.take_zero, List.cons_append, List.nil_append, List.drop_succ_cons, List.drop_zero, List.set_cons_zero, List.set_cons_succ] at ha
      subst hL
      subst ha
      refine ⟨?s0, ?s1, ?s2, ?s3, ?s4, ?s5, ?s6, ?s7, ?s8, ?s9, ?s10, ?s11, ?s12, ?s13, ?s14, ?s15, ?s16, ?s17, ?s18, ?s19, ?s20, ?s21, trivial⟩
      case s0 =>
        intro ff gg KK hK
        have f0 : l0 = false := ff
        subst hv
        clear ff gg
        subst f0
        simp only [cond_false]
        go_simp
        go_at_call 21
        with_reducible refine (OT.out _).mono ?_
        rintro e w' ⟨vn, rfl, hv, hb⟩
        exact hK _ _ ⟨true, l1, l2, l3, l4, l5, l6, l7, l8, l9, l10, l11, l12, l13, l14, l15, l16, l17, l18, l19, l20, l21, _, vn, v2, v3, v4, v6, v7, v11, v12, v13, v15, v17, v18, rfl, (by kernel_rfl), bl_step hb hu, (fun _ => hv), (fun t => (hx2 t).below hb), (fun t => (hx3 t).below hb), (fun t => (hx4 t).below hb), (fun t => (hx6 t).below hb), (fun t => (hx7 t).below hb), (fun t => (hx11 t).below hb), (fun t => (hx12 t).below hb), (fun t => (hx13 t).below hb), (fun t => (hx15 t).below hb), (fun t => (hx17 t).below hb), (fun t => (hx18 t).below hb), rfl⟩
      case s1 =>
        intro ff gg KK hK
        have f0 : l1 = false := ff
        subst hv
        clear ff gg
        subst f0
        simp only [cond_false]
        have j_h0_ := cell_later hu h0_
        have j_h1_ := cell_later hu h1_
        go_simp
        exact hK _ _ ⟨l0, true, l2, l3, l4, l5, l6, l7, l8, l9, l10, l11, l12, l13, l14, l15, l16, l17, l18, l19, l20, l21, _, v0, v2, v3, v4, v6, v7, v11, v12, v13, v15, v17, v18, rfl, (by kernel_rfl), hu, hx0, hx2, hx3, hx4, hx6, hx7, hx11, hx12, hx13, hx15, hx17, hx18, rfl⟩
      case s2 =>
        intro ff gg KK hK
        have f0 : l2 = false := ff
        subst hv
        have t1 : l1 = true := gg ⟨1, .data⟩ (by simp) (by rfl)
        have t0 : l0 = true := gg ⟨0, .chain⟩ (by simp) (by rfl)
        clear ff gg
        subst t1 t0
        subst f0
        simp only [cond_true, cond_false]
        go_simp
        go_at_call 24
        with_reducible refine (Oh.out _).mono ?_
        rintro e w' ⟨vn, rfl, hv, hb⟩
        exact hK _ _ ⟨true, true, true, l3, l4, l5, l6, l7, l8, l9, l10, l11, l12, l13, l14, l15, l16, l17, l18, l19, l20, l21, _, v0, vn, v3, v4, v6, v7, v11, v12, v13, v15, v17, v18, rfl, (by kernel_rfl), bl_step hb hu, (fun t => (hx0 t).below hb), (fun _ => hv), (fun t => (hx3 t).below hb), (fun t => (hx4 t).below hb), (fun t => (hx6 t).below hb), (fun t => (hx7 t).below hb), (fun t => (hx11 t).below hb), (fun t => (hx12 t).below hb), (fun t => (hx13 t).below hb), (fun t => (hx15 t).below hb), (fun t => (hx17 t).below hb), (fun t => (hx18 t).below hb), rfl⟩
      case s3 =>
        intro ff gg KK hK
        have f0 : l3 = false := ff
        subst hv
        have t0 : l0 = true := gg ⟨0, .data⟩ (by simp) (by rfl)
        have t2 : l2 = true := gg ⟨2, .data⟩ (by simp) (by rfl)
        clear ff gg
        subst t0 t2
        subst f0
        simp only [cond_true, cond_false]
        go_simp
        go_at_call 23
        with_reducible refine (T3.out _ _ _ (hx0 rfl) (hx2 rfl)).mono ?_
        rintro e w' ⟨vn, rfl, hv, hb⟩
        exact hK _ _ ⟨true, l1, true, true, l4, l5, l6, l7, l8, l9, l10, l11, l12, l13, l14, l15, l16, l17, l18, l19, l20, l21, _, v0, v2, vn, v4, v6, v7, v11, v12, v13, v15, v17, v18, rfl, (by kernel_rfl), bl_step hb hu, (fun t => (hx0 t).below hb), (fun t => (hx2 t).below hb), (fun _ => hv), (fun t => (hx4 t).below hb), (fun t => (hx6 t).below hb), (fun t => (hx7 t).below hb), (fun t => (hx11 t).below hb), (fun t => (hx12 t).below hb), (fun t => (hx13 t).below hb), (fun t => (hx15 t).below hb), (fun t => (hx17 t).below hb), (fun t => (hx18 t).below hb), rfl⟩
      case s4 =>
        intro ff gg KK hK
        have f0 : l4 = false := ff
        subst hv
        have t3 : l3 = true := gg ⟨3, .chain⟩ (by simp) (by rfl)
        clear ff gg
        subst t3
        subst f0
        simp only [cond_true, cond_false]
        go_simp
        go_at_call 21
        with_reducible refine (OV.out _).mono ?_
        rintro e w' ⟨vn, rfl, hv, hb⟩
        exact hK _ _ ⟨l0, l1, l2, true, true, l5, l6, l7, l8, l9, l10, l11, l12, l13, l14, l15, l16, l17, l18, l19, l20, l21, _, v0, v2, v3, vn, v6, v7, v11, v12, v13, v15, v17, v18, rfl, (by kernel_rfl), bl_step hb hu, (fun t => (hx0 t).below hb), (fun t => (hx2 t).below hb), (fun t => (hx3 t).below hb), (fun _ => hv), (fun t => (hx6 t).below hb), (fun t => (hx7 t).below hb), (fun t => (hx11 t).below hb), (fun t => (hx12 t).below hb), (fun t => (hx13 t).below hb), (fun t => (hx15 t).below hb), (fun t => (hx17 t).below hb), (fun t => (hx18 t).below hb), rfl⟩
      case s5 =>
        intro ff gg KK hK
        have f0 : l5 = false := ff
        subst hv
        clear ff gg
        subst f0
        simp only [cond_false]
        have j_c0_ := cell_later hu c0_
        have j_c1_ := cell_later hu c1_
        go_simp
        exact hK _ _ ⟨l0, l1, l2, l3, l4, true, l6, l7, l8, l9, l10, l11, l12, l13, l14, l15, l16, l17, l18, l19, l20, l21, _, v0, v2, v3, v4, v6, v7, v11, v12, v13, v15, v17, v18, rfl, (by kernel_rfl), hu, hx0, hx2, hx3, hx4, hx6, hx7, hx11, hx12, hx13, hx15, hx17, hx18, rfl⟩
      case s6 =>
        intro ff gg KK hK
        have f0 : l6 = false := ff
        subst hv
        have t5 : l5 = true := gg ⟨5, .data⟩ (by simp) (by rfl)
        have t4 : l4 = true := gg ⟨4, .chain⟩ (by simp) (by rfl)
        clear ff gg
        subst t5 t4
        subst f0
        simp only [cond_true, cond_false]
        go_simp
        go_at_call 24
        with_reducible refine (Oc.out _).mono ?_
        rintro e w' ⟨vn, rfl, hv, hb⟩
        exact hK _ _ ⟨l0, l1, l2, l3, true, true, true, l7, l8, l9, l10, l11, l12, l13, l14, l15, l16, l17, l18, l19, l20, l21, _, v0, v2, v3, v4, vn, v7, v11, v12, v13, v15, v17, v18, rfl, (by kernel_rfl), bl_step hb hu, (fun t => (hx0 t).below hb), (fun t => (hx2 t).below hb), (fun t => (hx3 t).below hb), (fun t => (hx4 t).below hb), (fun _ => hv), (fun t => (hx7 t).below hb), (fun t => (hx11 t).below hb), (fun t => (hx12 t).below hb), (fun t => (hx13 t).below hb), (fun t => (hx15 t).below hb), (fun t => (hx17 t).below hb), (fun t => (hx18 t).below hb), rfl⟩
      case s7 =>
        intro ff gg KK hK
        have f0 : l7 = false := ff
        subst hv
        have t4 : l4 = true := gg ⟨4, .data⟩ (by simp) (by rfl)
        have t6 : l6 = true := gg ⟨6, .data⟩ (by simp) (by rfl)
        clear ff gg
        subst t4 t6
        subst f0
        simp only [cond_true, cond_false]
        go_simp
        go_at_call 26
        with_reducible refine (MI.out _ _ _ (hx4 rfl) (hx6 rfl)).mono ?_
        rintro e w' ⟨vn, rfl, hv, hb⟩
        exact hK _ _ ⟨l0, l1, l2, l3, true, l5, true, true, l8, l9, l10, l11, l12, l13, l14, l15, l16, l17, l18, l19, l20, l21, _, v0, v2, v3, v4, v6, vn, v11, v12, v13, v15, v17, v18, rfl, (by kernel_rfl), bl_step hb hu, (fun t => (hx0 t).below hb), (fun t => (hx2 t).below hb), (fun t => (hx3 t).below hb), (fun t => (hx4 t).below hb), (fun t => (hx6 t).below hb), (fun _ => hv), (fun t => (hx11 t).below hb), (fun t => (hx12 t).below hb), (fun t => (hx13 t).below hb), (fun t => (hx15 t).below hb), (fun t => (hx17 t).below hb), (fun t => (hx18 t).below hb), rfl⟩
      case s8 =>
        intro ff gg KK hK
        have f0 : l8 = false := ff
        subst hv
        have t3 : l3 = true := gg ⟨3, .data⟩ (by simp) (by rfl)
        have t7 : l7 = true := gg ⟨7, .data⟩ (by simp) (by rfl)
        clear ff gg
        subst t3 t7
        subst f0
        simp only [cond_true, cond_false]
        go_simp
        go_at_call 22
        with_reducible refine (M2.out _ _ _ (hx3 rfl) (hx7 rfl)).mono ?_
        rintro e w' ⟨rfl, hb⟩
        exact hK _ _ ⟨l0, l1, l2, true, l4, l5, l6, true, true, l9, l10, l11, l12, l13, l14, l15, l16, l17, l18, l19, l20, l21, _, v0, v2, v3, v4, v6, v7, v11, v12, v13, v15, v17, v18, rfl, (by kernel_rfl), bl_step hb hu, (fun t => (hx0 t).below hb), (fun t => (hx2 t).below hb), (fun t => (hx3 t).below hb), (fun t => (hx4 t).below hb), (fun t => (hx6 t).below hb), (fun t => (hx7 t).below hb), (fun t => (hx11 t).below hb), (fun t => (hx12 t).below hb), (fun t => (hx13 t).below hb), (fun t => (hx15 t).below hb), (fun t => (hx17 t).below hb), (fun t => (hx18 t).below hb), rfl⟩
      case s9 =>
        intro ff gg KK hK
        have f0 : l9 = false := ff
        subst hv
        have t8 : l8 = true := gg ⟨8, .data⟩ (by simp) (by rfl)
        clear ff gg
        subst t8
        subst f0
        simp only [cond_true, cond_false]
        go_simp
        exact hK _ _ ⟨l0, l1, l2, l3, l4, l5, l6, l7, true, true, l10, l11, l12, l13, l14, l15, l16, l17, l18, l19, l20, l21, _, v0, v2, v3, v4, v6, v7, v11, v12, v13, v15, v17, v18, rfl, (by kernel_rfl), hu, hx0, hx2, hx3, hx4, hx6, hx7, hx11, hx12, hx13, hx15, hx17, hx18, rfl⟩
      case s10 =>
        intro ff gg KK hK
        have f0 : l10 = false := ff
        subst hv
        have t9 : l9 = true := gg ⟨9, .guard⟩ (by simp) (by rfl)
        clear ff gg
        subst t9
        subst f0
        simp only [cond_true, cond_false]
        have j_d0_ := cell_later hu d0_
        have j_d1_ := cell_later hu d1_
        go_simp
        exact hK _ _ ⟨l0, l1, l2, l3, l4, l5, l6, l7, l8, true, true, l11, l12, l13, l14, l15, l16, l17, l18, l19, l20, l21, _, v0, v2, v3, v4, v6, v7, v11, v12, v13, v15, v17, v18, rfl, (by kernel_rfl), hu, hx0, hx2, hx3, hx4, hx6, hx7, hx11, hx12, hx13, hx15, hx17, hx18, rfl⟩
      case s11 =>
        intro ff gg KK hK
        have f0 : l11 = false := ff
        subst hv
        have t10 : l10 = true := gg ⟨10, .data⟩ (by simp) (by rfl)
        have t9 : l9 = true := gg ⟨9, .chain⟩ (by simp) (by rfl)
        clear ff gg
        subst t10 t9
        subst f0
        simp only [cond_true, cond_false]
        go_simp
        go_at_call 24
        with_reducible refine (Od.out _).mono ?_
        rintro e w' ⟨vn, rfl, hv, hb⟩
        exact hK _ _ ⟨l0, l1, l2, l3, l4, l5, l6, l7, l8, true, true, true, l12, l13, l14, l15, l16, l17, l18, l19, l20, l21, _, v0, v2, v3, v4, v6, v7, vn, v12, v13, v15, v17, v18, rfl, (by kernel_rfl), bl_step hb hu, (fun t => (hx0 t).below hb), (fun t => (hx2 t).below hb), (fun t => (hx3 t).below hb), (fun t => (hx4 t).below hb), (fun t => (hx6 t).below hb), (fun t => (hx7 t).below hb), (fun _ => hv), (fun t => (hx12 t).below hb), (fun t => (hx13 t).below hb), (fun t => (hx15 t).below hb), (fun t => (hx17 t).below hb), (fun t => (hx18 t).below hb), rfl⟩
      case s12 =>
        intro ff gg KK hK
        have f0 : l12 = false := ff
        subst hv
        have t11 : l11 = true := gg ⟨11, .chain⟩ (by simp) (by rfl)
        have t9 : l9 = true := gg ⟨9, .guard⟩ (by simp) (by rfl)
        clear ff gg
        subst t11 t9
        subst f0
        simp only [cond_true, cond_false]
        go_simp
        go_at_call 21
        with_reducible refine (OV.out _).mono ?_
        rintro e w' ⟨vn, rfl, hv, hb⟩
        exact hK _ _ ⟨l0, l1, l2, l3, l4, l5, l6, l7, l8, true, l10, true, true, l13, l14, l15, l16, l17, l18, l19, l20, l21, _, v0, v2, v3, v4, v6, v7, v11, vn, v13, v15, v17, v18, rfl, (by kernel_rfl), bl_step hb hu, (fun t => (hx0 t).below hb), (fun t => (hx2 t).below hb), (fun t => (hx3 t).below hb), (fun t => (hx4 t).below hb), (fun t => (hx6 t).below hb), (fun t => (hx7 t).below hb), (fun t => (hx11 t).below hb), (fun _ => hv), (fun t => (hx13 t).below hb), (fun t => (hx15 t).below hb), (fun t => (hx17 t).below hb), (fun t => (hx18 t).below hb), rfl⟩
      case s13 =>
        intro ff gg KK hK
        have f0 : l13 = false := ff
        subst hv
        have t11 : l11 = true := gg ⟨11, .data⟩ (by simp) (by rfl)
        have t12 : l12 = true := gg ⟨12, .data⟩ (by simp) (by rfl)
        have t9 : l9 = true := gg ⟨9, .guard⟩ (by simp) (by rfl)
        clear ff gg
        subst t11 t12 t9
        subst f0
        simp only [cond_true, cond_false]
        go_simp
        go_at_call 23
        with_reducible refine (T4.out _ _ _ (hx11 rfl) (hx12 rfl)).mono ?_
        rintro e w' ⟨vn, rfl, hv, hb⟩
        exact hK _ _ ⟨l0, l1, l2, l3, l4, l5, l6, l7, l8, true, l10, true, true, true, l14, l15, l16, l17, l18, l19, l20, l21, _, v0, v2, v3, v4, v6, v7, v11, v12, vn, v15, v17, v18, rfl, (by kernel_rfl), bl_step hb hu, (fun t => (hx0 t).below hb), (fun t => (hx2 t).below hb), (fun t => (hx3 t).below hb), (fun t => (hx4 t).below hb), (fun t => (hx6 t).below hb), (fun t => (hx7 t).below hb), (fun t => (hx11 t).below hb), (fun t => (hx12 t).below hb), (fun _ => hv), (fun t => (hx15 t).below hb), (fun t => (hx17 t).below hb), (fun t => (hx18 t).below hb), rfl⟩
      case s14 =>
        intro ff gg KK hK
        have f0 : l14 = false := ff
        subst hv
        have t9 : l9 = true := gg ⟨9, .guard⟩ (by simp) (by rfl)
        clear ff gg
        subst t9
        subst f0
        simp only [cond_true, cond_false]
        have j_s0_ := cell_later hu s0_
        have j_s1_ := cell_later hu s1_
        go_simp
        exact hK _ _ ⟨l0, l1, l2, l3, l4, l5, l6, l7, l8, true, l10, l11, l12, l13, true, l15, l16, l17, l18, l19, l20, l21, _, v0, v2, v3, v4, v6, v7, v11, v12, v13, v15, v17, v18, rfl, (by kernel_rfl), hu, hx0, hx2, hx3, hx4, hx6, hx7, hx11, hx12, hx13, hx15, hx17, hx18, rfl⟩
      case s15 =>
        intro ff gg KK hK
        have f0 : l15 = false := ff
        subst hv
        have t14 : l14 = true := gg ⟨14, .data⟩ (by simp) (by rfl)
        have t13 : l13 = true := gg ⟨13, .chain⟩ (by simp) (by rfl)
        have t9 : l9 = true := gg ⟨9, .guard⟩ (by simp) (by rfl)
        clear ff gg
        subst t14 t13 t9
        subst f0
        simp only [cond_true, cond_false]
        go_simp
        go_at_call 24
        with_reducible refine (Os.out _).mono ?_
        rintro e w' ⟨vn, rfl, hv, hb⟩
        exact hK _ _ ⟨l0, l1, l2, l3, l4, l5, l6, l7, l8, true, l10, l11, l12, true, true, true, l16, l17, l18, l19, l20, l21, _, v0, v2, v3, v4, v6, v7, v11, v12, v13, vn, v17, v18, rfl, (by kernel_rfl), bl_step hb hu, (fun t => (hx0 t).below hb), (fun t => (hx2 t).below hb), (fun t => (hx3 t).below hb), (fun t => (hx4 t).below hb), (fun t => (hx6 t).below hb), (fun t => (hx7 t).below hb), (fun t => (hx11 t).below hb), (fun t => (hx12 t).below hb), (fun t => (hx13 t).below hb), (fun _ => hv), (fun t => (hx17 t).below hb), (fun t => (hx18 t).below hb), rfl⟩
      case s16 =>
        intro ff gg KK hK
        have f0 : l16 = false := ff
        subst hv
        have t9 : l9 = true := gg ⟨9, .guard⟩ (by simp) (by rfl)
        clear ff gg
        subst t9
        subst f0
        simp only [cond_true, cond_false]
        have j_s0_ := cell_later hu s0_
        have j_s1_ := cell_later hu s1_
        go_simp
        exact hK _ _ ⟨l0, l1, l2, l3, l4, l5, l6, l7, l8, true, l10, l11, l12, l13, l14, l15, true, l17, l18, l19, l20, l21, _, v0, v2, v3, v4, v6, v7, v11, v12, v13, v15, v17, v18, rfl, (by kernel_rfl), hu, hx0, hx2, hx3, hx4, hx6, hx7, hx11, hx12, hx13, hx15, hx17, hx18, rfl⟩
      case s17 =>
        intro ff gg KK hK
        have f0 : l17 = false := ff
        subst hv
        have t16 : l16 = true := gg ⟨16, .data⟩ (by simp) (by rfl)
        have t15 : l15 = true := gg ⟨15, .chain⟩ (by simp) (by rfl)
        have t9 : l9 = true := gg ⟨9, .guard⟩ (by simp) (by rfl)
        clear ff gg
        subst t16 t15 t9
        subst f0
        simp only [cond_true, cond_false]
        go_simp
        go_at_call 24
        with_reducible refine (Os.out _).mono ?_
        rintro e w' ⟨vn, rfl, hv, hb⟩
        exact hK _ _ ⟨l0, l1, l2, l3, l4, l5, l6, l7, l8, true, l10, l11, l12, l13, l14, true, true, true, l18, l19, l20, l21, _, v0, v2, v3, v4, v6, v7, v11, v12, v13, v15, vn, v18, rfl, (by kernel_rfl), bl_step hb hu, (fun t => (hx0 t).below hb), (fun t => (hx2 t).below hb), (fun t => (hx3 t).below hb), (fun t => (hx4 t).below hb), (fun t => (hx6 t).below hb), (fun t => (hx7 t).below hb), (fun t => (hx11 t).below hb), (fun t => (hx12 t).below hb), (fun t => (hx13 t).below hb), (fun t => (hx15 t).below hb), (fun _ => hv), (fun t => (hx18 t).below hb), rfl⟩
      case s18 =>
        intro ff gg KK hK
        have f0 : l18 = false := ff
        subst hv
        have t15 : l15 = true := gg ⟨15, .data⟩ (by simp) (by rfl)
        have t17 : l17 = true := gg ⟨17, .data⟩ (by simp) (by rfl)
        have t9 : l9 = true := gg ⟨9, .guard⟩ (by simp) (by rfl)
        clear ff gg
        subst t15 t17 t9
        subst f0
        simp only [cond_true, cond_false]
        go_simp
        go_at_call 23
        with_reducible refine (T1.out _ _ _ (hx15 rfl) (hx17 rfl)).mono ?_
        rintro e w' ⟨vn, rfl, hv, hb⟩
        exact hK _ _ ⟨l0, l1, l2, l3, l4, l5, l6, l7, l8, true, l10, l11, l12, l13, l14, true, l16, true, true, l19, l20, l21, _, v0, v2, v3, v4, v6, v7, v11, v12, v13, v15, v17, vn, rfl, (by kernel_rfl), bl_step hb hu, (fun t => (hx0 t).below hb), (fun t => (hx2 t).below hb), (fun t => (hx3 t).below hb), (fun t => (hx4 t).below hb), (fun t => (hx6 t).below hb), (fun t => (hx7 t).below hb), (fun t => (hx11 t).below hb), (fun t => (hx12 t).below hb), (fun t => (hx13 t).below hb), (fun t => (hx15 t).below hb), (fun t => (hx17 t).below hb), (fun _ => hv), rfl⟩
      case s19 =>
        intro ff gg KK hK
        have f0 : l19 = false := ff
        subst hv
        have t13 : l13 = true := gg ⟨13, .data⟩ (by simp) (by rfl)
        have t18 : l18 = true := gg ⟨18, .data⟩ (by simp) (by rfl)
        have t9 : l9 = true := gg ⟨9, .guard⟩ (by simp) (by rfl)
        clear ff gg
        subst t13 t18 t9
        subst f0
        simp only [cond_true, cond_false]
        go_simp
        go_at_call 22
        with_reducible refine (M3.out _ _ _ (hx13 rfl) (hx18 rfl)).mono ?_
        rintro e w' ⟨rfl, hb⟩
        exact hK _ _ ⟨l0, l1, l2, l3, l4, l5, l6, l7, l8, true, l10, l11, l12, true, l14, l15, l16, l17, true, true, l20, l21, _, v0, v2, v3, v4, v6, v7, v11, v12, v13, v15, v17, v18, rfl, (by kernel_rfl), bl_step hb hu, (fun t => (hx0 t).below hb), (fun t => (hx2 t).below hb), (fun t => (hx3 t).below hb), (fun t => (hx4 t).below hb), (fun t => (hx6 t).below hb), (fun t => (hx7 t).below hb), (fun t => (hx11 t).below hb), (fun t => (hx12 t).below hb), (fun t => (hx13 t).below hb), (fun t => (hx15 t).below hb), (fun t => (hx17 t).below hb), (fun t => (hx18 t).below hb), rfl⟩
      case s20 =>
        intro ff gg KK hK
        have f0 : l20 = false := ff
        subst hv
        have t9 : l9 = true := gg ⟨9, .data⟩ (by simp) (by rfl)
        have t19 : l19 = true := gg ⟨19, .data⟩ (by simp) (by rfl)
        clear ff gg
        subst t9 t19
        subst f0
        simp only [cond_true, cond_false]
        go_simp
        exact hK _ _ ⟨l0, l1, l2, l3, l4, l5, l6, l7, l8, true, l10, l11, l12, l13, l14, l15, l16, l17, l18, true, true, l21, _, v0, v2, v3, v4, v6, v7, v11, v12, v13, v15, v17, v18, rfl, (by kernel_rfl), hu, hx0, hx2, hx3, hx4, hx6, hx7, hx11, hx12, hx13, hx15, hx17, hx18, rfl⟩
      case s21 =>
        intro ff gg KK hK
        have f0 : l21 = false := ff
        subst hv
        have t20 : l20 = true := gg ⟨20, .data⟩ (by simp) (by rfl)
        clear ff gg
        subst t20
        subst f0
        simp only [cond_true, cond_false]
        go_simp
        exact hK _ _ ⟨l0, l1, l2, l3, l4, l5, l6, l7, l8, l9, l10, l11, l12, l13, l14, l15, l16, l17, l18, l19, true, true, _, v0, v2, v3, v4, v6, v7, v11, v12, v13, v15, v17, v18, rfl, (by kernel_rfl), hu, hx0, hx2, hx3, hx4, hx6, hx7, hx11, hx12, hx13, hx15, hx17, hx18, rfl⟩
    case hdone =>
      intro LL aa vv h hd
      obtain ⟨l0, h⟩ := h
      obtain ⟨l1, h⟩ := h
      obtain ⟨l2, h⟩ := h
      obtain ⟨l3, h⟩ := h
      obtain ⟨l4, h⟩ := h
      obtain ⟨l5, h⟩ := h
      obtain ⟨l6, h⟩ := h
      obtain ⟨l7, h⟩ := h
      obtain ⟨l8, h⟩ := h
      obtain ⟨l9, h⟩ := h
      obtain ⟨l10, h⟩ := h
      obtain ⟨l11, h⟩ := h
      obtain ⟨l12, h⟩ := h
      obtain ⟨l13, h⟩ := h
      obtain ⟨l14, h⟩ := h
      obtain ⟨l15, h⟩ := h
      obtain ⟨l16, h⟩ := h
      obtain ⟨l17, h⟩ := h
      obtain ⟨l18, h⟩ := h
      obtain ⟨l19, h⟩ := h
      obtain ⟨l20, h⟩ := h
      obtain ⟨l21, h⟩ := h
      obtain ⟨uu, h⟩ := h
      obtain ⟨v0, h⟩ := h
      obtain ⟨v2, h⟩ := h
      obtain ⟨v3, h⟩ := h
      obtain ⟨v4, h⟩ := h
      obtain ⟨v6, h⟩ := h
      obtain ⟨v7, h⟩ := h
      obtain ⟨v11, h⟩ := h
      obtain ⟨v12, h⟩ := h
      obtain ⟨v13, h⟩ := h
      obtain ⟨v15, h⟩ := h
      obtain ⟨v17, h⟩ := h
      obtain ⟨v18, h⟩ := h
      obtain ⟨hL, h⟩ := h
      obtain ⟨ha, h⟩ := h
      obtain ⟨hu, h⟩ := h
      obtain ⟨hx0, h⟩ := h
      obtain ⟨hx2, h⟩ := h
      obtain ⟨hx3, h⟩ := h
      obtain ⟨hx4, h⟩ := h
      obtain ⟨hx6, h⟩ := h
      obtain ⟨hx7, h⟩ := h
      obtain ⟨hx11, h⟩ := h
      obtain ⟨hx12, h⟩ := h
      obtain ⟨hx13, h⟩ := h
      obtain ⟨hx15, h⟩ := h
      obtain ⟨hx17, h⟩ := h
      obtain ⟨hx18, hv⟩ := h
      rw [hL] at hd
      have t0 : l0 = true := hd 0 (by decide)
      have t1 : l1 = true := hd 1 (by decide)
      have t2 : l2 = true := hd 2 (by decide)
      have t3 : l3 = true := hd 3 (by decide)
      have t4 : l4 = true := hd 4 (by decide)
      have t5 : l5 = true := hd 5 (by decide)
      have t6 : l6 = true := hd 6 (by decide)
      have t7 : l7 = true := hd 7 (by decide)
      have t8 : l8 = true := hd 8 (by decide)
      have t9 : l9 = true := hd 9 (by decide)
      have t10 : l10 = true := hd 10 (by decide)
      have t11 : l11 = true := hd 11 (by decide)
      have t12 : l12 = true := hd 12 (by decide)
      have t13 : l13 = true := hd 13 (by decide)
      have t14 : l14 = true := hd 14 (by decide)
      have t15 : l15 = true := hd 15 (by decide)
      have t16 : l16 = true := hd 16 (by decide)
      have t17 : l17 = true := hd 17 (by decide)
      have t18 : l18 = true := hd 18 (by decide)
      have t19 : l19 = true := hd 19 (by decide)
      have t20 : l20 = true := hd 20 (by decide)
      have t21 : l21 = true := hd 21 (by decide)
      clear hd hL
      subst t0 t1 t2 t3 t4 t5 t6 t7 t8 t9 t10 t11 t12 t13 t14 t15 t16 t17 t18 t19 t20 t21
      simp only [cond_true, List.take_succ_cons, List.take_zero, List.cons_append, List.nil_append, List.drop_succ_cons, List.drop_zero, List.set_cons_zero, List.set_cons_succ] at ha
      subst ha
      subst hv
      replace hx0 := hx0 rfl
      replace hx2 := hx2 rfl
      replace hx3 := hx3 rfl
      replace hx4 := hx4 rfl
      replace hx6 := hx6 rfl
      replace hx7 := hx7 rfl
      replace hx11 := hx11 rfl
      replace hx12 := hx12 rfl
      replace hx13 := hx13 rfl
      replace hx15 := hx15 rfl
      replace hx17 := hx17 rfl
      replace hx18 := hx18 rfl
      clear hx0 hx2 hx3 hx4 hx6 hx7 hx11 hx12 hx13 hx15 hx17 hx18
      have hw11 : Below w.heap.size w vv := bl_step hu hw10
      go_wp2
      go_ret
      exact ⟨rfl, by (repeat (first | (with_reducible exact Below.refl _ _) | (with_reducible refine Below.setCell ?_ (by (first | (simp; done) | (simp; omega) | omega)) _) | (with_reducible refine bl_alloc ?_ _) | (with_reducible refine bl_drewN ?_) | (with_reducible refine bl_drew ?_) | (with_reducible refine bl_step (by assumption) ?_)))⟩

theorem hav_le (n : Int) : 2 * havLo n n ≤ 1073741824 + -bLo (n + 5400000) ∧ 1073741824 + -bHi (n + 5400000) ≤ 2 * havHi n n ∧ 2 * havLo n n ≤ 1073741824 - bHi (n + 5400000) ∧ 1073741824 - bLo (n + 5400000) ≤ 2 * havHi n n ∧ 0 ≤ havLo n n ∧ havLo n n ≤ havHi n n ∧ havHi n n ≤ 1073741824 := by
  have e := enc_point (n + 5400000)
  have b := b_bd (n + 5400000)
  unfold havLo havHi
  rw [e.1, e.2]
  omega
theorem two_mn (x y : Int) (h : x ≤ y) : mnF (2 * x) (2 * y) (2 * x) (2 * y) 4 = 2 * x ∧ mxF (2 * x) (2 * y) (2 * x) (2 * y) 4 = 2 * y := by
  simp only [mnF, mxF]; omega
theorem unit_eq : mnF ((1073741824 : Int) * 1073741824) (1073741824 * 1073741824) (1073741824 * 1073741824) (1073741824 * 1073741824) 4 = 1073741824 * 1073741824 ∧ mxF ((1073741824 : Int) * 1073741824) (1073741824 * 1073741824) (1073741824 * 1073741824) (1073741824 * 1073741824) 4 = 1073741824 * 1073741824 := by
  simp only [mnF, mxF]; omega
theorem two_bd : (-1073741824 ≤ (2 : Int) ∧ (2 : Int) ≤ 1073741824) ∧ -1073741824 ≤ (2 : Int) ∧ (2 : Int) ≤ 1073741824 := by omega
theorem havb_bd (n : Int) : (-1073741824 ≤ havLo n n ∧ havLo n n ≤ 1073741824) ∧ -1073741824 ≤ havHi n n ∧ havHi n n ≤ 1073741824 := by have := hav_le n; omega
theorem pw18_of {x : Int} (h0 : -2147483648 ≤ x) (h1 : x ≤ 2147483648) : x.natAbs < pw 18 := by
  have e : pw 18 = pw 2 * pw 16 := pw_add 2 16
  have p : 0 < pw 16 := pw_pos 16
  have e2 : pw 2 = 72057594037927936 := by decide
  rw [e, e2]
  have : 72057594037927936 * 1 ≤ 72057594037927936 * pw 16 := Nat.mul_le_mul_left _ p
  omega

theorem squares_walk (n : Int) (w : World) (_bn : -9223372036854775808 ≤ n ∧ n ≤ 9223372036854775807) :
    Calls Try.prog 11 #[.int .i64 n] w fun e w' => e = .returned (.bool true) ∧ Below w.heap.size w w' := by
  by_cases g1 : n < -274877906944
  · exact squares_out1 n w g1
  by_cases g2 : 274877906944 < n
  · exact squares_out2 n w g1 g2
  have S : Hid (∀ w, Calls Try.prog 13 #[.agg #[.int .i64 (n), .int .i64 (n)]] w fun e w' => e = .returned (.tuple #[.agg #[.int .i64 (bLo n), .int .i64 (bHi n)], .int .i64 (0)]) ∧ Below w.heap.size w w') := hidden fun w => by
    have S := sin_ok n n w (arcV_mk (by omega))
    rw [(enc_point n).1, (enc_point n).2] at S
    exact S
  have C : Hid (∀ w, Calls Try.prog 14 #[.agg #[.int .i64 (n), .int .i64 (n)]] w fun e w' => e = .returned (.tuple #[.agg #[.int .i64 (bLo (n + 5400000)), .int .i64 (bHi (n + 5400000))], .int .i64 (0)]) ∧ Below w.heap.size w w') := hidden fun w => by
    have S := cos_ok n n w (arcV_mk (by omega))
    rw [(enc_point (n + 5400000)).1, (enc_point (n + 5400000)).2] at S
    exact S
  have q := squares_box n
  have h := hav_le n
  have h2 := hav_le (2 * n)
  have dd := double_box n (havLo (2 * n) (2 * n)) (havHi (2 * n) (2 * n)) h2.2.2.1 h2.2.2.2.1
  have u1 := unit_mn _ _ h2.2.2.2.2.2.1
  have u2 := two_mn _ _ h.2.2.2.2.2.1
  have u0 := unit_eq
  refine squares_in n _ _ _ _ _ _ _ _ _ _ _ _ _ _ _ _ _ _ _ _ _ _ w (by omega) (by omega) S C (hidden fun w => hav_ok n n w (arcV_mk (by omega))) (hidden fun w => hav_ok (2 * n) (2 * n) w (arcV_mk (by omega)))
    (hidden fun w => (one_v _ w (by omega) (by omega)).mono fun _ _ => boxX_of) (hidden fun w => one_v _ w (by omega) (by omega)) (hidden fun w => one_v _ w (by omega) (by omega))
    (hidden fun w u v g h => (((times_b one_bd one_bd).out w u v g h).mono fun _ _ => boxX_of)) (of_b (bl_bd _)) (of_b (bl_bd _)) (of_b (havb_bd _)) (of_b (havb_bd _))
    (times_b (bl_bd _) (bl_bd _)) (times_b (bl_bd _) (bl_bd _)) (hidden fun w u v g h => plus_v u v _ _ _ _ w g h (lt_pw20 (mn_pw18 (bl_bd _) (bl_bd _)).1) (lt_pw20 (mn_pw18 (bl_bd _) (bl_bd _)).2) (lt_pw20 (mn_pw18 (bl_bd _) (bl_bd _)).1) (lt_pw20 (mn_pw18 (bl_bd _) (bl_bd _)).2))
    (hidden fun w u v g h => meet_v u v _ _ _ _ w g h (add18_30 (mn_pw18 (bl_bd _) (bl_bd _)).1 (mn_pw18 (bl_bd _) (bl_bd _)).1) (add18_30 (mn_pw18 (bl_bd _) (bl_bd _)).2 (mn_pw18 (bl_bd _) (bl_bd _)).2) (lt18_30 (mn_pw18 one_bd one_bd).1) (lt18_30 (mn_pw18 one_bd one_bd).2) (by rw [u0.2]; exact q.1) (by rw [u0.1]; exact q.2))
    (times_b two_bd (havb_bd _)) (hidden fun w u v g h => minus_v u v _ _ _ _ w g h (lt_pw20 (pw18_of (by omega) (by omega))) (lt_pw20 (pw18_of (by omega) (by omega))) (lt_pw20 (pw18_of (by have := bl_bd (n + 5400000); omega) (by have := bl_bd (n + 5400000); omega))) (lt_pw20 (pw18_of (by have := bl_bd (n + 5400000); omega) (by have := bl_bd (n + 5400000); omega))))
    (hidden fun w u v g k => meet_v u v _ _ _ _ w g k (lt18_30 (mn_pw18 two_bd (havb_bd _)).1) (lt18_30 (mn_pw18 two_bd (havb_bd _)).2) (lt18_30 (pw18_of (by have := bl_bd (n + 5400000); omega) (by have := bl_bd (n + 5400000); omega))) (lt18_30 (pw18_of (by have := bl_bd (n + 5400000); omega) (by have := bl_bd (n + 5400000); omega))) (by rw [u2.1]; exact h.1) (by rw [u2.2]; exact h.2.1))
    (times_b (havb_bd _) one_bd) (hidden fun w u v g h => meet_v u v _ _ _ _ w g h (lt18_30 (mn_pw18 (havb_bd _) one_bd).1) (lt18_30 (mn_pw18 (havb_bd _) one_bd).2) (lt18_30 (mn_pw18 (bl_bd _) (bl_bd _)).1) (lt18_30 (mn_pw18 (bl_bd _) (bl_bd _)).2) (by rw [u1.1]; exact dd.1) (by rw [u1.2]; exact dd.2))

end Go.Proofs.Ytoagcbamlnhkhaa
