/- The statement that the formulas for sums hold. -/
import Derived.Test.YtoagcbamlnhkhaaLaw6
import Derived.Test.YtoagcbamlnhkhaaNl
import Derived.Test.YtoagcbamlnhkhaaInv
import Derived.Test.YtoagcbamlnhkhaaSumL
namespace Go.Proofs.Ytoagcbamlnhkhaa
open Go.RowKit Rot

theorem sums_out1 (a b : Int) (w : World) (h1 : a < -274877906944) :
    Calls Try.prog 6 #[.int .i64 a, .int .i64 b] w fun e w' => e = .returned (.bool true) ∧ Below w.heap.size w w' := by
  go_enter Try.func6, Try.ntmps6
  go_wp2_with (go_at_call 12; ((with_reducible refine (awake6_is _).mono ?_); rintro e w' ⟨rfl, hb⟩); (try replace hb := below_undrew hb); (try replace hb := below_undrewN hb); obtain ⟨hcell, hfroz⟩ := bcell hb; have hz := hb.size; (try simp at hz); (try (have z6 := Nat.lt_of_lt_of_le z7 hz)); (try (have z7 := Nat.lt_of_lt_of_le z8 hz)); (try (have z8 := Nat.lt_of_lt_of_le z9 hz)); (try (have z9 := Nat.lt_of_lt_of_le (Nat.lt_succ_self _) hz)); (try (have z0 : w.heap.size < w'.heap.size := by omega)); (try (have z1 : w.heap.size + 1 < w'.heap.size := by omega)); (try (have z2 : w.heap.size + 1 + 1 < w'.heap.size := by omega)); (try (have z3 : w.heap.size + 1 + 1 + 1 < w'.heap.size := by omega)); (try (have y1 : w1.heap.size < w'.heap.size := by omega)); (try (have y2 : w2.heap.size < w'.heap.size := by omega)); (try (have y3 : w3.heap.size < w'.heap.size := by omega)); (try (have y4 : w4.heap.size < w'.heap.size := by omega)); (try (have y5 : w5.heap.size < w'.heap.size := by omega)); (try (have y6 : w6.heap.size < w'.heap.size := by omega)); (try (have x1 : w1.heap.size + 1 < w'.heap.size := by omega)); (try (have x2 : w2.heap.size + 1 < w'.heap.size := by omega)); (try (have x3 : w3.heap.size + 1 < w'.heap.size := by omega)); (try (have x4 : w4.heap.size + 1 < w'.heap.size := by omega)); (try (have x5 : w5.heap.size + 1 < w'.heap.size := by omega)); (try (have x6 : w6.heap.size + 1 < w'.heap.size := by omega)); (try (have y7 : w7.heap.size < w'.heap.size := by omega)); (try (have y8 : w8.heap.size < w'.heap.size := by omega)); (try (have y9 : w9.heap.size < w'.heap.size := by omega)); (try (have z10 : w1.heap.size < w'.heap.size + 1 := by omega)); (try (have z20 : w2.heap.size < w'.heap.size + 1 := by omega)); (try (have z30 : w3.heap.size < w'.heap.size + 1 := by omega)); (try (have z40 : w4.heap.size < w'.heap.size + 1 := by omega)); (try (have z50 : w5.heap.size < w'.heap.size + 1 := by omega)); (try (have z60 : w6.heap.size < w'.heap.size + 1 := by omega)); (try (have z70 : w7.heap.size < w'.heap.size + 1 := by omega)); (try (have z80 : w8.heap.size < w'.heap.size + 1 := by omega)))
  go_ret
  exact ⟨by first | rfl | (refine ret_bool ?_; simp; omega), by (repeat (first | exact Below.refl _ _ | refine bl_drewN ?_ | refine bl_drew ?_ | refine bl_alloc ?_ _ | refine Below.setCell ?_ (by (first | (simp; done) | (simp; omega) | omega)) _ | refine bl_step (by assumption) ?_))⟩

theorem sums_out2 (a b : Int) (w : World) (h1 : ¬ a < -274877906944) (h2 : 274877906944 < a) :
    Calls Try.prog 6 #[.int .i64 a, .int .i64 b] w fun e w' => e = .returned (.bool true) ∧ Below w.heap.size w w' := by
  go_enter Try.func6, Try.ntmps6
  go_wp2_with (go_at_call 12; ((with_reducible refine (awake6_is _).mono ?_); rintro e w' ⟨rfl, hb⟩); (try replace hb := below_undrew hb); (try replace hb := below_undrewN hb); obtain ⟨hcell, hfroz⟩ := bcell hb; have hz := hb.size; (try simp at hz); (try (have z6 := Nat.lt_of_lt_of_le z7 hz)); (try (have z7 := Nat.lt_of_lt_of_le z8 hz)); (try (have z8 := Nat.lt_of_lt_of_le z9 hz)); (try (have z9 := Nat.lt_of_lt_of_le (Nat.lt_succ_self _) hz)); (try (have z0 : w.heap.size < w'.heap.size := by omega)); (try (have z1 : w.heap.size + 1 < w'.heap.size := by omega)); (try (have z2 : w.heap.size + 1 + 1 < w'.heap.size := by omega)); (try (have z3 : w.heap.size + 1 + 1 + 1 < w'.heap.size := by omega)); (try (have y1 : w1.heap.size < w'.heap.size := by omega)); (try (have y2 : w2.heap.size < w'.heap.size := by omega)); (try (have y3 : w3.heap.size < w'.heap.size := by omega)); (try (have y4 : w4.heap.size < w'.heap.size := by omega)); (try (have y5 : w5.heap.size < w'.heap.size := by omega)); (try (have y6 : w6.heap.size < w'.heap.size := by omega)); (try (have x1 : w1.heap.size + 1 < w'.heap.size := by omega)); (try (have x2 : w2.heap.size + 1 < w'.heap.size := by omega)); (try (have x3 : w3.heap.size + 1 < w'.heap.size := by omega)); (try (have x4 : w4.heap.size + 1 < w'.heap.size := by omega)); (try (have x5 : w5.heap.size + 1 < w'.heap.size := by omega)); (try (have x6 : w6.heap.size + 1 < w'.heap.size := by omega)); (try (have y7 : w7.heap.size < w'.heap.size := by omega)); (try (have y8 : w8.heap.size < w'.heap.size := by omega)); (try (have y9 : w9.heap.size < w'.heap.size := by omega)); (try (have z10 : w1.heap.size < w'.heap.size + 1 := by omega)); (try (have z20 : w2.heap.size < w'.heap.size + 1 := by omega)); (try (have z30 : w3.heap.size < w'.heap.size + 1 := by omega)); (try (have z40 : w4.heap.size < w'.heap.size + 1 := by omega)); (try (have z50 : w5.heap.size < w'.heap.size + 1 := by omega)); (try (have z60 : w6.heap.size < w'.heap.size + 1 := by omega)); (try (have z70 : w7.heap.size < w'.heap.size + 1 := by omega)); (try (have z80 : w8.heap.size < w'.heap.size + 1 := by omega)))
  go_ret
  exact ⟨by first | rfl | (refine ret_bool ?_; simp; omega), by (repeat (first | exact Below.refl _ _ | refine bl_drewN ?_ | refine bl_drew ?_ | refine bl_alloc ?_ _ | refine Below.setCell ?_ (by (first | (simp; done) | (simp; omega) | omega)) _ | refine bl_step (by assumption) ?_))⟩

theorem sums_out3 (a b : Int) (w : World) (h1 : ¬ a < -274877906944) (h2 : ¬ 274877906944 < a) (h3 : b < -274877906944) :
    Calls Try.prog 6 #[.int .i64 a, .int .i64 b] w fun e w' => e = .returned (.bool true) ∧ Below w.heap.size w w' := by
  go_enter Try.func6, Try.ntmps6
  go_wp2_with (go_at_call 12; ((with_reducible refine (awake6_is _).mono ?_); rintro e w' ⟨rfl, hb⟩); (try replace hb := below_undrew hb); (try replace hb := below_undrewN hb); obtain ⟨hcell, hfroz⟩ := bcell hb; have hz := hb.size; (try simp at hz); (try (have z6 := Nat.lt_of_lt_of_le z7 hz)); (try (have z7 := Nat.lt_of_lt_of_le z8 hz)); (try (have z8 := Nat.lt_of_lt_of_le z9 hz)); (try (have z9 := Nat.lt_of_lt_of_le (Nat.lt_succ_self _) hz)); (try (have z0 : w.heap.size < w'.heap.size := by omega)); (try (have z1 : w.heap.size + 1 < w'.heap.size := by omega)); (try (have z2 : w.heap.size + 1 + 1 < w'.heap.size := by omega)); (try (have z3 : w.heap.size + 1 + 1 + 1 < w'.heap.size := by omega)); (try (have y1 : w1.heap.size < w'.heap.size := by omega)); (try (have y2 : w2.heap.size < w'.heap.size := by omega)); (try (have y3 : w3.heap.size < w'.heap.size := by omega)); (try (have y4 : w4.heap.size < w'.heap.size := by omega)); (try (have y5 : w5.heap.size < w'.heap.size := by omega)); (try (have y6 : w6.heap.size < w'.heap.size := by omega)); (try (have x1 : w1.heap.size + 1 < w'.heap.size := by omega)); (try (have x2 : w2.heap.size + 1 < w'.heap.size := by omega)); (try (have x3 : w3.heap.size + 1 < w'.heap.size := by omega)); (try (have x4 : w4.heap.size + 1 < w'.heap.size := by omega)); (try (have x5 : w5.heap.size + 1 < w'.heap.size := by omega)); (try (have x6 : w6.heap.size + 1 < w'.heap.size := by omega)); (try (have y7 : w7.heap.size < w'.heap.size := by omega)); (try (have y8 : w8.heap.size < w'.heap.size := by omega)); (try (have y9 : w9.heap.size < w'.heap.size := by omega)); (try (have z10 : w1.heap.size < w'.heap.size + 1 := by omega)); (try (have z20 : w2.heap.size < w'.heap.size + 1 := by omega)); (try (have z30 : w3.heap.size < w'.heap.size + 1 := by omega)); (try (have z40 : w4.heap.size < w'.heap.size + 1 := by omega)); (try (have z50 : w5.heap.size < w'.heap.size + 1 := by omega)); (try (have z60 : w6.heap.size < w'.heap.size + 1 := by omega)); (try (have z70 : w7.heap.size < w'.heap.size + 1 := by omega)); (try (have z80 : w8.heap.size < w'.heap.size + 1 := by omega)))
  go_ret
  exact ⟨by first | rfl | (refine ret_bool ?_; simp; omega), by (repeat (first | exact Below.refl _ _ | refine bl_drewN ?_ | refine bl_drew ?_ | refine bl_alloc ?_ _ | refine Below.setCell ?_ (by (first | (simp; done) | (simp; omega) | omega)) _ | refine bl_step (by assumption) ?_))⟩

theorem sums_out4 (a b : Int) (w : World) (h1 : ¬ a < -274877906944) (h2 : ¬ 274877906944 < a) (h3 : ¬ b < -274877906944) (h4 : 274877906944 < b) :
    Calls Try.prog 6 #[.int .i64 a, .int .i64 b] w fun e w' => e = .returned (.bool true) ∧ Below w.heap.size w w' := by
  go_enter Try.func6, Try.ntmps6
  go_wp2_with (go_at_call 12; ((with_reducible refine (awake6_is _).mono ?_); rintro e w' ⟨rfl, hb⟩); (try replace hb := below_undrew hb); (try replace hb := below_undrewN hb); obtain ⟨hcell, hfroz⟩ := bcell hb; have hz := hb.size; (try simp at hz); (try (have z6 := Nat.lt_of_lt_of_le z7 hz)); (try (have z7 := Nat.lt_of_lt_of_le z8 hz)); (try (have z8 := Nat.lt_of_lt_of_le z9 hz)); (try (have z9 := Nat.lt_of_lt_of_le (Nat.lt_succ_self _) hz)); (try (have z0 : w.heap.size < w'.heap.size := by omega)); (try (have z1 : w.heap.size + 1 < w'.heap.size := by omega)); (try (have z2 : w.heap.size + 1 + 1 < w'.heap.size := by omega)); (try (have z3 : w.heap.size + 1 + 1 + 1 < w'.heap.size := by omega)); (try (have y1 : w1.heap.size < w'.heap.size := by omega)); (try (have y2 : w2.heap.size < w'.heap.size := by omega)); (try (have y3 : w3.heap.size < w'.heap.size := by omega)); (try (have y4 : w4.heap.size < w'.heap.size := by omega)); (try (have y5 : w5.heap.size < w'.heap.size := by omega)); (try (have y6 : w6.heap.size < w'.heap.size := by omega)); (try (have x1 : w1.heap.size + 1 < w'.heap.size := by omega)); (try (have x2 : w2.heap.size + 1 < w'.heap.size := by omega)); (try (have x3 : w3.heap.size + 1 < w'.heap.size := by omega)); (try (have x4 : w4.heap.size + 1 < w'.heap.size := by omega)); (try (have x5 : w5.heap.size + 1 < w'.heap.size := by omega)); (try (have x6 : w6.heap.size + 1 < w'.heap.size := by omega)); (try (have y7 : w7.heap.size < w'.heap.size := by omega)); (try (have y8 : w8.heap.size < w'.heap.size := by omega)); (try (have y9 : w9.heap.size < w'.heap.size := by omega)); (try (have z10 : w1.heap.size < w'.heap.size + 1 := by omega)); (try (have z20 : w2.heap.size < w'.heap.size + 1 := by omega)); (try (have z30 : w3.heap.size < w'.heap.size + 1 := by omega)); (try (have z40 : w4.heap.size < w'.heap.size + 1 := by omega)); (try (have z50 : w5.heap.size < w'.heap.size + 1 := by omega)); (try (have z60 : w6.heap.size < w'.heap.size + 1 := by omega)); (try (have z70 : w7.heap.size < w'.heap.size + 1 := by omega)); (try (have z80 : w8.heap.size < w'.heap.size + 1 := by omega)))
  go_ret
  exact ⟨by first | rfl | (refine ret_bool ?_; simp; omega), by (repeat (first | exact Below.refl _ _ | refine bl_drewN ?_ | refine bl_drew ?_ | refine bl_alloc ?_ _ | refine Below.setCell ?_ (by (first | (simp; done) | (simp; omega) | omega)) _ | refine bl_step (by assumption) ?_))⟩

set_option maxRecDepth 100000 in
set_option maxHeartbeats 16000000 in
theorem sums_in (a b s1 s2 c1 c2 t1 t2 d1 d2 p1 p2 q1 q2 L1 H1 L2 H2 L3 H3 L4 H4 L5 H5 L6 H6 L7 H7 L8 H8 : Int) (w : World) (a0 : -274877906944 ≤ a) (a1 : a ≤ 274877906944) (b0 : -274877906944 ≤ b) (b1 : b ≤ 274877906944)
    (S1 : Hid (∀ w, Calls Try.prog 13 #[.agg #[.int .i64 (a), .int .i64 (a)]] w fun e w' => e = .returned (.tuple #[.agg #[.int .i64 (s1), .int .i64 (s2)], .int .i64 (0)]) ∧ Below w.heap.size w w'))
    (C1 : Hid (∀ w, Calls Try.prog 14 #[.agg #[.int .i64 (a), .int .i64 (a)]] w fun e w' => e = .returned (.tuple #[.agg #[.int .i64 (c1), .int .i64 (c2)], .int .i64 (0)]) ∧ Below w.heap.size w w'))
    (S2 : Hid (∀ w, Calls Try.prog 13 #[.agg #[.int .i64 (b), .int .i64 (b)]] w fun e w' => e = .returned (.tuple #[.agg #[.int .i64 (t1), .int .i64 (t2)], .int .i64 (0)]) ∧ Below w.heap.size w w'))
    (C2 : Hid (∀ w, Calls Try.prog 14 #[.agg #[.int .i64 (b), .int .i64 (b)]] w fun e w' => e = .returned (.tuple #[.agg #[.int .i64 (d1), .int .i64 (d2)], .int .i64 (0)]) ∧ Below w.heap.size w w'))
    (S3 : Hid (∀ w, Calls Try.prog 13 #[.agg #[.int .i64 (a + b), .int .i64 (a + b)]] w fun e w' => e = .returned (.tuple #[.agg #[.int .i64 (p1), .int .i64 (p2)], .int .i64 (0)]) ∧ Below w.heap.size w w'))
    (C3 : Hid (∀ w, Calls Try.prog 14 #[.agg #[.int .i64 (a + b), .int .i64 (a + b)]] w fun e w' => e = .returned (.tuple #[.agg #[.int .i64 (q1), .int .i64 (q2)], .int .i64 (0)]) ∧ Below w.heap.size w w'))
    (ON : Hid (∀ w, Calls Try.prog 21 #[.int .i64 1073741824] w (BoxX w 1073741824 1073741824)))
    (Osa : Hid (∀ w, Calls Try.prog 24 #[.agg #[.int .i64 (s1), .int .i64 (s2)]] w (BoxR w (s1) (s2))))
    (Oca : Hid (∀ w, Calls Try.prog 24 #[.agg #[.int .i64 (c1), .int .i64 (c2)]] w (BoxR w (c1) (c2))))
    (Osb : Hid (∀ w, Calls Try.prog 24 #[.agg #[.int .i64 (t1), .int .i64 (t2)]] w (BoxR w (t1) (t2))))
    (Ocb : Hid (∀ w, Calls Try.prog 24 #[.agg #[.int .i64 (d1), .int .i64 (d2)]] w (BoxR w (d1) (d2))))
    (Oss : Hid (∀ w, Calls Try.prog 24 #[.agg #[.int .i64 (p1), .int .i64 (p2)]] w (BoxR w (p1) (p2))))
    (Occ : Hid (∀ w, Calls Try.prog 24 #[.agg #[.int .i64 (q1), .int .i64 (q2)]] w (BoxR w (q1) (q2))))
    (T1 : Hid (∀ w (u0 : Value) (u1 : Value), BoxV w (p1) (p2) u0 → BoxV w (1073741824) (1073741824) u1 → Calls Try.prog 23 #[u0, u1] w (BoxR w (L1) (H1))))
    (T2 : Hid (∀ w (u0 : Value) (u1 : Value), BoxV w (s1) (s2) u0 → BoxV w (d1) (d2) u1 → Calls Try.prog 23 #[u0, u1] w (BoxR w (L2) (H2))))
    (T3 : Hid (∀ w (u0 : Value) (u1 : Value), BoxV w (c1) (c2) u0 → BoxV w (t1) (t2) u1 → Calls Try.prog 23 #[u0, u1] w (BoxR w (L3) (H3))))
    (PL : Hid (∀ w (u0 : Value) (u1 : Value), BoxV w (L2) (H2) u0 → BoxV w (L3) (H3) u1 → Calls Try.prog 25 #[u0, u1] w (BoxR w (L4) (H4))))
    (M1 : Hid (∀ w (u0 : Value) (u1 : Value), BoxV w (L1) (H1) u0 → BoxV w (L4) (H4) u1 → Calls Try.prog 22 #[u0, u1] w (fun e w' => e = .returned (.bool true) ∧ Below w.heap.size w w')))
    (T4 : Hid (∀ w (u0 : Value) (u1 : Value), BoxV w (q1) (q2) u0 → BoxV w (1073741824) (1073741824) u1 → Calls Try.prog 23 #[u0, u1] w (BoxR w (L5) (H5))))
    (T5 : Hid (∀ w (u0 : Value) (u1 : Value), BoxV w (c1) (c2) u0 → BoxV w (d1) (d2) u1 → Calls Try.prog 23 #[u0, u1] w (BoxR w (L6) (H6))))
    (T6 : Hid (∀ w (u0 : Value) (u1 : Value), BoxV w (s1) (s2) u0 → BoxV w (t1) (t2) u1 → Calls Try.prog 23 #[u0, u1] w (BoxR w (L7) (H7))))
    (MI : Hid (∀ w (u0 : Value) (u1 : Value), BoxV w (L6) (H6) u0 → BoxV w (L7) (H7) u1 → Calls Try.prog 26 #[u0, u1] w (BoxR w (L8) (H8))))
    (M2 : Hid (∀ w (u0 : Value) (u1 : Value), BoxV w (L5) (H5) u0 → BoxV w (L8) (H8) u1 → Calls Try.prog 22 #[u0, u1] w (fun e w' => e = .returned (.bool true) ∧ Below w.heap.size w w'))) :
    Calls Try.prog 6 #[.int .i64 a, .int .i64 b] w fun e w' => e = .returned (.bool true) ∧ Below w.heap.size w w' := by
  go_enter Try.func6, Try.ntmps6
  go_wp2_with (first | (go_at_call 12; ((with_reducible refine (awake6_is _).mono ?_); rintro e w' ⟨rfl, hb⟩); (try replace hb := below_undrew hb); (try replace hb := below_undrewN hb); obtain ⟨hcell, hfroz⟩ := bcell hb; have hz := hb.size; (try simp at hz); (try (have z6 := Nat.lt_of_lt_of_le z7 hz)); (try (have z7 := Nat.lt_of_lt_of_le z8 hz)); (try (have z8 := Nat.lt_of_lt_of_le z9 hz)); (try (have z9 := Nat.lt_of_lt_of_le (Nat.lt_succ_self _) hz)); (try (have z0 : w.heap.size < w'.heap.size := by omega)); (try (have z1 : w.heap.size + 1 < w'.heap.size := by omega)); (try (have z2 : w.heap.size + 1 + 1 < w'.heap.size := by omega)); (try (have z3 : w.heap.size + 1 + 1 + 1 < w'.heap.size := by omega)); (try (have y1 : w1.heap.size < w'.heap.size := by omega)); (try (have y2 : w2.heap.size < w'.heap.size := by omega)); (try (have y3 : w3.heap.size < w'.heap.size := by omega)); (try (have y4 : w4.heap.size < w'.heap.size := by omega)); (try (have y5 : w5.heap.size < w'.heap.size := by omega)); (try (have y6 : w6.heap.size < w'.heap.size := by omega)); (try (have x1 : w1.heap.size + 1 < w'.heap.size := by omega)); (try (have x2 : w2.heap.size + 1 < w'.heap.size := by omega)); (try (have x3 : w3.heap.size + 1 < w'.heap.size := by omega)); (try (have x4 : w4.heap.size + 1 < w'.heap.size := by omega)); (try (have x5 : w5.heap.size + 1 < w'.heap.size := by omega)); (try (have x6 : w6.heap.size + 1 < w'.heap.size := by omega)); (try (have y7 : w7.heap.size < w'.heap.size := by omega)); (try (have y8 : w8.heap.size < w'.heap.size := by omega)); (try (have y9 : w9.heap.size < w'.heap.size := by omega)); (try (have z10 : w1.heap.size < w'.heap.size + 1 := by omega)); (try (have z20 : w2.heap.size < w'.heap.size + 1 := by omega)); (try (have z30 : w3.heap.size < w'.heap.size + 1 := by omega)); (try (have z40 : w4.heap.size < w'.heap.size + 1 := by omega)); (try (have z50 : w5.heap.size < w'.heap.size + 1 := by omega)); (try (have z60 : w6.heap.size < w'.heap.size + 1 := by omega)); (try (have z70 : w7.heap.size < w'.heap.size + 1 := by omega)); (try (have z80 : w8.heap.size < w'.heap.size + 1 := by omega))) | (go_at_call 20; ((with_reducible refine (at_any _ _).mono ?_); rintro e w' ⟨rfl, hb⟩); (try replace hb := below_undrew hb); (try replace hb := below_undrewN hb); obtain ⟨hcell, hfroz⟩ := bcell hb; have hz := hb.size; (try simp at hz); (try (have z6 := Nat.lt_of_lt_of_le z7 hz)); (try (have z7 := Nat.lt_of_lt_of_le z8 hz)); (try (have z8 := Nat.lt_of_lt_of_le z9 hz)); (try (have z9 := Nat.lt_of_lt_of_le (Nat.lt_succ_self _) hz)); (try (have z0 : w.heap.size < w'.heap.size := by omega)); (try (have z1 : w.heap.size + 1 < w'.heap.size := by omega)); (try (have z2 : w.heap.size + 1 + 1 < w'.heap.size := by omega)); (try (have z3 : w.heap.size + 1 + 1 + 1 < w'.heap.size := by omega)); (try (have y1 : w1.heap.size < w'.heap.size := by omega)); (try (have y2 : w2.heap.size < w'.heap.size := by omega)); (try (have y3 : w3.heap.size < w'.heap.size := by omega)); (try (have y4 : w4.heap.size < w'.heap.size := by omega)); (try (have y5 : w5.heap.size < w'.heap.size := by omega)); (try (have y6 : w6.heap.size < w'.heap.size := by omega)); (try (have x1 : w1.heap.size + 1 < w'.heap.size := by omega)); (try (have x2 : w2.heap.size + 1 < w'.heap.size := by omega)); (try (have x3 : w3.heap.size + 1 < w'.heap.size := by omega)); (try (have x4 : w4.heap.size + 1 < w'.heap.size := by omega)); (try (have x5 : w5.heap.size + 1 < w'.heap.size := by omega)); (try (have x6 : w6.heap.size + 1 < w'.heap.size := by omega)); (try (have y7 : w7.heap.size < w'.heap.size := by omega)); (try (have y8 : w8.heap.size < w'.heap.size := by omega)); (try (have y9 : w9.heap.size < w'.heap.size := by omega)); (try (have z10 : w1.heap.size < w'.heap.size + 1 := by omega)); (try (have z20 : w2.heap.size < w'.heap.size + 1 := by omega)); (try (have z30 : w3.heap.size < w'.heap.size + 1 := by omega)); (try (have z40 : w4.heap.size < w'.heap.size + 1 := by omega)); (try (have z50 : w5.heap.size < w'.heap.size + 1 := by omega)); (try (have z60 : w6.heap.size < w'.heap.size + 1 := by omega)); (try (have z70 : w7.heap.size < w'.heap.size + 1 := by omega)); (try (have z80 : w8.heap.size < w'.heap.size + 1 := by omega))) | (go_at_call 13; ((with_reducible refine (S1.out _).mono ?_); rintro e w' ⟨rfl, hb⟩); (try replace hb := below_undrew hb); (try replace hb := below_undrewN hb); obtain ⟨hcell, hfroz⟩ := bcell hb; have hz := hb.size; (try simp at hz); (try (have z6 := Nat.lt_of_lt_of_le z7 hz)); (try (have z7 := Nat.lt_of_lt_of_le z8 hz)); (try (have z8 := Nat.lt_of_lt_of_le z9 hz)); (try (have z9 := Nat.lt_of_lt_of_le (Nat.lt_succ_self _) hz)); (try (have z0 : w.heap.size < w'.heap.size := by omega)); (try (have z1 : w.heap.size + 1 < w'.heap.size := by omega)); (try (have z2 : w.heap.size + 1 + 1 < w'.heap.size := by omega)); (try (have z3 : w.heap.size + 1 + 1 + 1 < w'.heap.size := by omega)); (try (have y1 : w1.heap.size < w'.heap.size := by omega)); (try (have y2 : w2.heap.size < w'.heap.size := by omega)); (try (have y3 : w3.heap.size < w'.heap.size := by omega)); (try (have y4 : w4.heap.size < w'.heap.size := by omega)); (try (have y5 : w5.heap.size < w'.heap.size := by omega)); (try (have y6 : w6.heap.size < w'.heap.size := by omega)); (try (have x1 : w1.heap.size + 1 < w'.heap.size := by omega)); (try (have x2 : w2.heap.size + 1 < w'.heap.size := by omega)); (try (have x3 : w3.heap.size + 1 < w'.heap.size := by omega)); (try (have x4 : w4.heap.size + 1 < w'.heap.size := by omega)); (try (have x5 : w5.heap.size + 1 < w'.heap.size := by omega)); (try (have x6 : w6.heap.size + 1 < w'.heap.size := by omega)); (try (have y7 : w7.heap.size < w'.heap.size := by omega)); (try (have y8 : w8.heap.size < w'.heap.size := by omega)); (try (have y9 : w9.heap.size < w'.heap.size := by omega)); (try (have z10 : w1.heap.size < w'.heap.size + 1 := by omega)); (try (have z20 : w2.heap.size < w'.heap.size + 1 := by omega)); (try (have z30 : w3.heap.size < w'.heap.size + 1 := by omega)); (try (have z40 : w4.heap.size < w'.heap.size + 1 := by omega)); (try (have z50 : w5.heap.size < w'.heap.size + 1 := by omega)); (try (have z60 : w6.heap.size < w'.heap.size + 1 := by omega)); (try (have z70 : w7.heap.size < w'.heap.size + 1 := by omega)); (try (have z80 : w8.heap.size < w'.heap.size + 1 := by omega)); obtain ⟨w2, rfl⟩ : ∃ v, v = w' := ⟨_, rfl⟩) | (go_at_call 14; ((with_reducible refine (C1.out _).mono ?_); rintro e w' ⟨rfl, hb⟩); (try replace hb := below_undrew hb); (try replace hb := below_undrewN hb); obtain ⟨hcell, hfroz⟩ := bcell hb; have hz := hb.size; (try simp at hz); (try (have z6 := Nat.lt_of_lt_of_le z7 hz)); (try (have z7 := Nat.lt_of_lt_of_le z8 hz)); (try (have z8 := Nat.lt_of_lt_of_le z9 hz)); (try (have z9 := Nat.lt_of_lt_of_le (Nat.lt_succ_self _) hz)); (try (have z0 : w.heap.size < w'.heap.size := by omega)); (try (have z1 : w.heap.size + 1 < w'.heap.size := by omega)); (try (have z2 : w.heap.size + 1 + 1 < w'.heap.size := by omega)); (try (have z3 : w.heap.size + 1 + 1 + 1 < w'.heap.size := by omega)); (try (have y1 : w1.heap.size < w'.heap.size := by omega)); (try (have y2 : w2.heap.size < w'.heap.size := by omega)); (try (have y3 : w3.heap.size < w'.heap.size := by omega)); (try (have y4 : w4.heap.size < w'.heap.size := by omega)); (try (have y5 : w5.heap.size < w'.heap.size := by omega)); (try (have y6 : w6.heap.size < w'.heap.size := by omega)); (try (have x1 : w1.heap.size + 1 < w'.heap.size := by omega)); (try (have x2 : w2.heap.size + 1 < w'.heap.size := by omega)); (try (have x3 : w3.heap.size + 1 < w'.heap.size := by omega)); (try (have x4 : w4.heap.size + 1 < w'.heap.size := by omega)); (try (have x5 : w5.heap.size + 1 < w'.heap.size := by omega)); (try (have x6 : w6.heap.size + 1 < w'.heap.size := by omega)); (try (have y7 : w7.heap.size < w'.heap.size := by omega)); (try (have y8 : w8.heap.size < w'.heap.size := by omega)); (try (have y9 : w9.heap.size < w'.heap.size := by omega)); (try (have z10 : w1.heap.size < w'.heap.size + 1 := by omega)); (try (have z20 : w2.heap.size < w'.heap.size + 1 := by omega)); (try (have z30 : w3.heap.size < w'.heap.size + 1 := by omega)); (try (have z40 : w4.heap.size < w'.heap.size + 1 := by omega)); (try (have z50 : w5.heap.size < w'.heap.size + 1 := by omega)); (try (have z60 : w6.heap.size < w'.heap.size + 1 := by omega)); (try (have z70 : w7.heap.size < w'.heap.size + 1 := by omega)); (try (have z80 : w8.heap.size < w'.heap.size + 1 := by omega)); obtain ⟨w3, rfl⟩ : ∃ v, v = w' := ⟨_, rfl⟩) | (go_at_call 13; ((with_reducible refine (S2.out _).mono ?_); rintro e w' ⟨rfl, hb⟩); (try replace hb := below_undrew hb); (try replace hb := below_undrewN hb); obtain ⟨hcell, hfroz⟩ := bcell hb; have hz := hb.size; (try simp at hz); (try (have z6 := Nat.lt_of_lt_of_le z7 hz)); (try (have z7 := Nat.lt_of_lt_of_le z8 hz)); (try (have z8 := Nat.lt_of_lt_of_le z9 hz)); (try (have z9 := Nat.lt_of_lt_of_le (Nat.lt_succ_self _) hz)); (try (have z0 : w.heap.size < w'.heap.size := by omega)); (try (have z1 : w.heap.size + 1 < w'.heap.size := by omega)); (try (have z2 : w.heap.size + 1 + 1 < w'.heap.size := by omega)); (try (have z3 : w.heap.size + 1 + 1 + 1 < w'.heap.size := by omega)); (try (have y1 : w1.heap.size < w'.heap.size := by omega)); (try (have y2 : w2.heap.size < w'.heap.size := by omega)); (try (have y3 : w3.heap.size < w'.heap.size := by omega)); (try (have y4 : w4.heap.size < w'.heap.size := by omega)); (try (have y5 : w5.heap.size < w'.heap.size := by omega)); (try (have y6 : w6.heap.size < w'.heap.size := by omega)); (try (have x1 : w1.heap.size + 1 < w'.heap.size := by omega)); (try (have x2 : w2.heap.size + 1 < w'.heap.size := by omega)); (try (have x3 : w3.heap.size + 1 < w'.heap.size := by omega)); (try (have x4 : w4.heap.size + 1 < w'.heap.size := by omega)); (try (have x5 : w5.heap.size + 1 < w'.heap.size := by omega)); (try (have x6 : w6.heap.size + 1 < w'.heap.size := by omega)); (try (have y7 : w7.heap.size < w'.heap.size := by omega)); (try (have y8 : w8.heap.size < w'.heap.size := by omega)); (try (have y9 : w9.heap.size < w'.heap.size := by omega)); (try (have z10 : w1.heap.size < w'.heap.size + 1 := by omega)); (try (have z20 : w2.heap.size < w'.heap.size + 1 := by omega)); (try (have z30 : w3.heap.size < w'.heap.size + 1 := by omega)); (try (have z40 : w4.heap.size < w'.heap.size + 1 := by omega)); (try (have z50 : w5.heap.size < w'.heap.size + 1 := by omega)); (try (have z60 : w6.heap.size < w'.heap.size + 1 := by omega)); (try (have z70 : w7.heap.size < w'.heap.size + 1 := by omega)); (try (have z80 : w8.heap.size < w'.heap.size + 1 := by omega)); obtain ⟨w4, rfl⟩ : ∃ v, v = w' := ⟨_, rfl⟩) | (go_at_call 14; ((with_reducible refine (C2.out _).mono ?_); rintro e w' ⟨rfl, hb⟩); (try replace hb := below_undrew hb); (try replace hb := below_undrewN hb); obtain ⟨hcell, hfroz⟩ := bcell hb; have hz := hb.size; (try simp at hz); (try (have z6 := Nat.lt_of_lt_of_le z7 hz)); (try (have z7 := Nat.lt_of_lt_of_le z8 hz)); (try (have z8 := Nat.lt_of_lt_of_le z9 hz)); (try (have z9 := Nat.lt_of_lt_of_le (Nat.lt_succ_self _) hz)); (try (have z0 : w.heap.size < w'.heap.size := by omega)); (try (have z1 : w.heap.size + 1 < w'.heap.size := by omega)); (try (have z2 : w.heap.size + 1 + 1 < w'.heap.size := by omega)); (try (have z3 : w.heap.size + 1 + 1 + 1 < w'.heap.size := by omega)); (try (have y1 : w1.heap.size < w'.heap.size := by omega)); (try (have y2 : w2.heap.size < w'.heap.size := by omega)); (try (have y3 : w3.heap.size < w'.heap.size := by omega)); (try (have y4 : w4.heap.size < w'.heap.size := by omega)); (try (have y5 : w5.heap.size < w'.heap.size := by omega)); (try (have y6 : w6.heap.size < w'.heap.size := by omega)); (try (have x1 : w1.heap.size + 1 < w'.heap.size := by omega)); (try (have x2 : w2.heap.size + 1 < w'.heap.size := by omega)); (try (have x3 : w3.heap.size + 1 < w'.heap.size := by omega)); (try (have x4 : w4.heap.size + 1 < w'.heap.size := by omega)); (try (have x5 : w5.heap.size + 1 < w'.heap.size := by omega)); (try (have x6 : w6.heap.size + 1 < w'.heap.size := by omega)); (try (have y7 : w7.heap.size < w'.heap.size := by omega)); (try (have y8 : w8.heap.size < w'.heap.size := by omega)); (try (have y9 : w9.heap.size < w'.heap.size := by omega)); (try (have z10 : w1.heap.size < w'.heap.size + 1 := by omega)); (try (have z20 : w2.heap.size < w'.heap.size + 1 := by omega)); (try (have z30 : w3.heap.size < w'.heap.size + 1 := by omega)); (try (have z40 : w4.heap.size < w'.heap.size + 1 := by omega)); (try (have z50 : w5.heap.size < w'.heap.size + 1 := by omega)); (try (have z60 : w6.heap.size < w'.heap.size + 1 := by omega)); (try (have z70 : w7.heap.size < w'.heap.size + 1 := by omega)); (try (have z80 : w8.heap.size < w'.heap.size + 1 := by omega)); obtain ⟨w5, rfl⟩ : ∃ v, v = w' := ⟨_, rfl⟩) | (go_at_call 13; ((with_reducible refine (S3.out _).mono ?_); rintro e w' ⟨rfl, hb⟩); (try replace hb := below_undrew hb); (try replace hb := below_undrewN hb); obtain ⟨hcell, hfroz⟩ := bcell hb; have hz := hb.size; (try simp at hz); (try (have z6 := Nat.lt_of_lt_of_le z7 hz)); (try (have z7 := Nat.lt_of_lt_of_le z8 hz)); (try (have z8 := Nat.lt_of_lt_of_le z9 hz)); (try (have z9 := Nat.lt_of_lt_of_le (Nat.lt_succ_self _) hz)); (try (have z0 : w.heap.size < w'.heap.size := by omega)); (try (have z1 : w.heap.size + 1 < w'.heap.size := by omega)); (try (have z2 : w.heap.size + 1 + 1 < w'.heap.size := by omega)); (try (have z3 : w.heap.size + 1 + 1 + 1 < w'.heap.size := by omega)); (try (have y1 : w1.heap.size < w'.heap.size := by omega)); (try (have y2 : w2.heap.size < w'.heap.size := by omega)); (try (have y3 : w3.heap.size < w'.heap.size := by omega)); (try (have y4 : w4.heap.size < w'.heap.size := by omega)); (try (have y5 : w5.heap.size < w'.heap.size := by omega)); (try (have y6 : w6.heap.size < w'.heap.size := by omega)); (try (have x1 : w1.heap.size + 1 < w'.heap.size := by omega)); (try (have x2 : w2.heap.size + 1 < w'.heap.size := by omega)); (try (have x3 : w3.heap.size + 1 < w'.heap.size := by omega)); (try (have x4 : w4.heap.size + 1 < w'.heap.size := by omega)); (try (have x5 : w5.heap.size + 1 < w'.heap.size := by omega)); (try (have x6 : w6.heap.size + 1 < w'.heap.size := by omega)); (try (have y7 : w7.heap.size < w'.heap.size := by omega)); (try (have y8 : w8.heap.size < w'.heap.size := by omega)); (try (have y9 : w9.heap.size < w'.heap.size := by omega)); (try (have z10 : w1.heap.size < w'.heap.size + 1 := by omega)); (try (have z20 : w2.heap.size < w'.heap.size + 1 := by omega)); (try (have z30 : w3.heap.size < w'.heap.size + 1 := by omega)); (try (have z40 : w4.heap.size < w'.heap.size + 1 := by omega)); (try (have z50 : w5.heap.size < w'.heap.size + 1 := by omega)); (try (have z60 : w6.heap.size < w'.heap.size + 1 := by omega)); (try (have z70 : w7.heap.size < w'.heap.size + 1 := by omega)); (try (have z80 : w8.heap.size < w'.heap.size + 1 := by omega)); obtain ⟨w6, rfl⟩ : ∃ v, v = w' := ⟨_, rfl⟩) | (go_at_call 14; ((with_reducible refine (C3.out _).mono ?_); rintro e w' ⟨rfl, hb⟩); (try replace hb := below_undrew hb); (try replace hb := below_undrewN hb); obtain ⟨hcell, hfroz⟩ := bcell hb; have hz := hb.size; (try simp at hz); (try (have z6 := Nat.lt_of_lt_of_le z7 hz)); (try (have z7 := Nat.lt_of_lt_of_le z8 hz)); (try (have z8 := Nat.lt_of_lt_of_le z9 hz)); (try (have z9 := Nat.lt_of_lt_of_le (Nat.lt_succ_self _) hz)); (try (have z0 : w.heap.size < w'.heap.size := by omega)); (try (have z1 : w.heap.size + 1 < w'.heap.size := by omega)); (try (have z2 : w.heap.size + 1 + 1 < w'.heap.size := by omega)); (try (have z3 : w.heap.size + 1 + 1 + 1 < w'.heap.size := by omega)); (try (have y1 : w1.heap.size < w'.heap.size := by omega)); (try (have y2 : w2.heap.size < w'.heap.size := by omega)); (try (have y3 : w3.heap.size < w'.heap.size := by omega)); (try (have y4 : w4.heap.size < w'.heap.size := by omega)); (try (have y5 : w5.heap.size < w'.heap.size := by omega)); (try (have y6 : w6.heap.size < w'.heap.size := by omega)); (try (have x1 : w1.heap.size + 1 < w'.heap.size := by omega)); (try (have x2 : w2.heap.size + 1 < w'.heap.size := by omega)); (try (have x3 : w3.heap.size + 1 < w'.heap.size := by omega)); (try (have x4 : w4.heap.size + 1 < w'.heap.size := by omega)); (try (have x5 : w5.heap.size + 1 < w'.heap.size := by omega)); (try (have x6 : w6.heap.size + 1 < w'.heap.size := by omega)); (try (have y7 : w7.heap.size < w'.heap.size := by omega)); (try (have y8 : w8.heap.size < w'.heap.size := by omega)); (try (have y9 : w9.heap.size < w'.heap.size := by omega)); (try (have z10 : w1.heap.size < w'.heap.size + 1 := by omega)); (try (have z20 : w2.heap.size < w'.heap.size + 1 := by omega)); (try (have z30 : w3.heap.size < w'.heap.size + 1 := by omega)); (try (have z40 : w4.heap.size < w'.heap.size + 1 := by omega)); (try (have z50 : w5.heap.size < w'.heap.size + 1 := by omega)); (try (have z60 : w6.heap.size < w'.heap.size + 1 := by omega)); (try (have z70 : w7.heap.size < w'.heap.size + 1 := by omega)); (try (have z80 : w8.heap.size < w'.heap.size + 1 := by omega)); obtain ⟨w7, rfl⟩ : ∃ v, v = w' := ⟨_, rfl⟩) | (go_at_call 21; ((with_reducible refine (ON.out _).mono ?_); rintro e w' ⟨UA, Un, Uc, Ub, UA2, Un2, Uc2, Ub2, rfl, hu0, hb⟩); have HU := hidden hu0; clear hu0; (try replace hb := below_undrew hb); (try replace hb := below_undrewN hb); obtain ⟨hcell, hfroz⟩ := bcell hb; have hz := hb.size; (try simp at hz); (try (have z6 := Nat.lt_of_lt_of_le z7 hz)); (try (have z7 := Nat.lt_of_lt_of_le z8 hz)); (try (have z8 := Nat.lt_of_lt_of_le z9 hz)); (try (have z9 := Nat.lt_of_lt_of_le (Nat.lt_succ_self _) hz)); (try (have z0 : w.heap.size < w'.heap.size := by omega)); (try (have z1 : w.heap.size + 1 < w'.heap.size := by omega)); (try (have z2 : w.heap.size + 1 + 1 < w'.heap.size := by omega)); (try (have z3 : w.heap.size + 1 + 1 + 1 < w'.heap.size := by omega)); (try (have y1 : w1.heap.size < w'.heap.size := by omega)); (try (have y2 : w2.heap.size < w'.heap.size := by omega)); (try (have y3 : w3.heap.size < w'.heap.size := by omega)); (try (have y4 : w4.heap.size < w'.heap.size := by omega)); (try (have y5 : w5.heap.size < w'.heap.size := by omega)); (try (have y6 : w6.heap.size < w'.heap.size := by omega)); (try (have x1 : w1.heap.size + 1 < w'.heap.size := by omega)); (try (have x2 : w2.heap.size + 1 < w'.heap.size := by omega)); (try (have x3 : w3.heap.size + 1 < w'.heap.size := by omega)); (try (have x4 : w4.heap.size + 1 < w'.heap.size := by omega)); (try (have x5 : w5.heap.size + 1 < w'.heap.size := by omega)); (try (have x6 : w6.heap.size + 1 < w'.heap.size := by omega)); (try (have y7 : w7.heap.size < w'.heap.size := by omega)); (try (have y8 : w8.heap.size < w'.heap.size := by omega)); (try (have y9 : w9.heap.size < w'.heap.size := by omega)); (try (have z10 : w1.heap.size < w'.heap.size + 1 := by omega)); (try (have z20 : w2.heap.size < w'.heap.size + 1 := by omega)); (try (have z30 : w3.heap.size < w'.heap.size + 1 := by omega)); (try (have z40 : w4.heap.size < w'.heap.size + 1 := by omega)); (try (have z50 : w5.heap.size < w'.heap.size + 1 := by omega)); (try (have z60 : w6.heap.size < w'.heap.size + 1 := by omega)); (try (have z70 : w7.heap.size < w'.heap.size + 1 := by omega)); (try (have z80 : w8.heap.size < w'.heap.size + 1 := by omega)); obtain ⟨w8, rfl⟩ : ∃ v, v = w' := ⟨_, rfl⟩))
  refine name_code ?_
  intro w' hb
  have HV := hidden (HU.out.below (bl_step hb (by (repeat (first | (with_reducible exact Below.refl _ _) | (with_reducible refine Below.setCell ?_ (by (first | (simp; done) | (simp; omega) | omega)) _) | (with_reducible refine bl_alloc ?_ _) | (with_reducible refine bl_drewN ?_) | (with_reducible refine bl_drew ?_) | (with_reducible refine bl_step (by assumption) ?_))))))
  have hw9 : Below w.heap.size w w' := bl_step hb (by (repeat (first | (with_reducible exact Below.refl _ _) | (with_reducible refine Below.setCell ?_ (by (first | (simp; done) | (simp; omega) | omega)) _) | (with_reducible refine bl_alloc ?_ _) | (with_reducible refine bl_drewN ?_) | (with_reducible refine bl_drew ?_) | (with_reducible refine bl_step (by assumption) ?_))))
  (try replace hb := below_undrew hb); (try replace hb := below_undrewN hb); obtain ⟨hcell, hfroz⟩ := bcell hb; have hz := hb.size; (try simp at hz); (try (have z6 := Nat.lt_of_lt_of_le z7 hz)); (try (have z7 := Nat.lt_of_lt_of_le z8 hz)); (try (have z8 := Nat.lt_of_lt_of_le z9 hz)); (try (have z9 := Nat.lt_of_lt_of_le (Nat.lt_succ_self _) hz)); (try (have z0 : w.heap.size < w'.heap.size := by omega)); (try (have z1 : w.heap.size + 1 < w'.heap.size := by omega)); (try (have z2 : w.heap.size + 1 + 1 < w'.heap.size := by omega)); (try (have z3 : w.heap.size + 1 + 1 + 1 < w'.heap.size := by omega)); (try (have y1 : w1.heap.size < w'.heap.size := by omega)); (try (have y2 : w2.heap.size < w'.heap.size := by omega)); (try (have y3 : w3.heap.size < w'.heap.size := by omega)); (try (have y4 : w4.heap.size < w'.heap.size := by omega)); (try (have y5 : w5.heap.size < w'.heap.size := by omega)); (try (have y6 : w6.heap.size < w'.heap.size := by omega)); (try (have x1 : w1.heap.size + 1 < w'.heap.size := by omega)); (try (have x2 : w2.heap.size + 1 < w'.heap.size := by omega)); (try (have x3 : w3.heap.size + 1 < w'.heap.size := by omega)); (try (have x4 : w4.heap.size + 1 < w'.heap.size := by omega)); (try (have x5 : w5.heap.size + 1 < w'.heap.size := by omega)); (try (have x6 : w6.heap.size + 1 < w'.heap.size := by omega)); (try (have y7 : w7.heap.size < w'.heap.size := by omega)); (try (have y8 : w8.heap.size < w'.heap.size := by omega)); (try (have y9 : w9.heap.size < w'.heap.size := by omega)); (try (have z10 : w1.heap.size < w'.heap.size + 1 := by omega)); (try (have z20 : w2.heap.size < w'.heap.size + 1 := by omega)); (try (have z30 : w3.heap.size < w'.heap.size + 1 := by omega)); (try (have z40 : w4.heap.size < w'.heap.size + 1 := by omega)); (try (have z50 : w5.heap.size < w'.heap.size + 1 := by omega)); (try (have z60 : w6.heap.size < w'.heap.size + 1 := by omega)); (try (have z70 : w7.heap.size < w'.heap.size + 1 := by omega)); (try (have z80 : w8.heap.size < w'.heap.size + 1 := by omega))
  have sa0 : w'.cell? ⟨w2.heap.size, 0, none⟩ = some (.int .i64 s1) := by simp [go_sem, *]
  have sa1 : w'.cell? ⟨w2.heap.size, 1, none⟩ = some (.int .i64 s2) := by simp [go_sem, *]
  have ca0 : w'.cell? ⟨w3.heap.size, 0, none⟩ = some (.int .i64 c1) := by simp [go_sem, *]
  have ca1 : w'.cell? ⟨w3.heap.size, 1, none⟩ = some (.int .i64 c2) := by simp [go_sem, *]
  have sb0 : w'.cell? ⟨w4.heap.size, 0, none⟩ = some (.int .i64 t1) := by simp [go_sem, *]
  have sb1 : w'.cell? ⟨w4.heap.size, 1, none⟩ = some (.int .i64 t2) := by simp [go_sem, *]
  have cb0 : w'.cell? ⟨w5.heap.size, 0, none⟩ = some (.int .i64 d1) := by simp [go_sem, *]
  have cb1 : w'.cell? ⟨w5.heap.size, 1, none⟩ = some (.int .i64 d2) := by simp [go_sem, *]
  have ss0 : w'.cell? ⟨w6.heap.size, 0, none⟩ = some (.int .i64 p1) := by simp [go_sem, *]
  have ss1 : w'.cell? ⟨w6.heap.size, 1, none⟩ = some (.int .i64 p2) := by simp [go_sem, *]
  have cc0 : w'.cell? ⟨w7.heap.size, 0, none⟩ = some (.int .i64 q1) := by simp [go_sem, *]
  have cc1 : w'.cell? ⟨w7.heap.size, 1, none⟩ = some (.int .i64 q2) := by simp [go_sem, *]
  have uu0 : w'.cell? ⟨w8.heap.size, 0, none⟩ = some (.slice UA Un Uc) := by simp [go_sem, *]
  have uu1 : w'.cell? ⟨w8.heap.size, 1, none⟩ = some (.bool Ub) := by simp [go_sem, *]
  have uu2 : w'.cell? ⟨w8.heap.size, 2, none⟩ = some (.slice UA2 Un2 Uc2) := by simp [go_sem, *]
  have uu3 : w'.cell? ⟨w8.heap.size, 3, none⟩ = some (.bool Ub2) := by simp [go_sem, *]
  clear hcell hfroz hz HU
  obtain ⟨w9, rfl⟩ : ∃ v, v = w' := ⟨_, rfl⟩
  refine wp_region_inv (fun a0 LL aa vv => ∃ (l0 l1 l2 l3 l4 l5 l6 l7 l8 l9 l10 l11 l12 l13 l14 l15 l16 l17 l18 l19 l20 l21 l22 l23 l24 l25 l26 l27 l28 l29 l30 l31 l32 l33 l34 : Bool) (uu : World) (v1 v3 v5 v7 v8 v10 v12 v13 v14 v18 v20 v22 v24 v25 v27 v29 v30 v31 : Value), LL = #[l0, l1, l2, l3, l4, l5, l6, l7, l8, l9, l10, l11, l12, l13, l14, l15, l16, l17, l18, l19, l20, l21, l22, l23, l24, l25, l26, l27, l28, l29, l30, l31, l32, l33, l34] ∧ aa = { a0 with tmps := ((a0.tmps.toList.set 4 (cond l34 (.bool true) (.bool false))).take 97 ++ ([cond l0 (.agg #[.int .i64 (p1), .int .i64 (p2)]) (undef), cond l1 (v1) (undef), cond l2 (.agg #[.slice UA Un Uc, .bool Ub, .slice UA2 Un2 Uc2, .bool Ub2]) (undef), cond l3 (v3) (undef), cond l4 (.agg #[.int .i64 (s1), .int .i64 (s2)]) (undef), cond l5 (v5) (undef), cond l6 (.agg #[.int .i64 (d1), .int .i64 (d2)]) (undef), cond l7 (v7) (undef), cond l8 (v8) (undef), cond l9 (.agg #[.int .i64 (c1), .int .i64 (c2)]) (undef), cond l10 (v10) (undef), cond l11 (.agg #[.int .i64 (t1), .int .i64 (t2)]) (undef), cond l12 (v12) (undef), cond l13 (v13) (undef), cond l14 (v14) (undef), cond l15 (.bool true) (undef), cond l16 (.bool true) (undef), cond l17 (.agg #[.int .i64 (q1), .int .i64 (q2)]) (undef), cond l18 (v18) (undef), cond l19 (.agg #[.slice UA Un Uc, .bool Ub, .slice UA2 Un2 Uc2, .bool Ub2]) (undef), cond l20 (v20) (undef), cond l21 (.agg #[.int .i64 (c1), .int .i64 (c2)]) (undef), cond l22 (v22) (undef), cond l23 (.agg #[.int .i64 (d1), .int .i64 (d2)]) (undef), cond l24 (v24) (undef), cond l25 (v25) (undef), cond l26 (.agg #[.int .i64 (s1), .int .i64 (s2)]) (undef), cond l27 (v27) (undef), cond l28 (.agg #[.int .i64 (t1), .int .i64 (t2)]) (undef), cond l29 (v29) (undef), cond l30 (v30) (undef), cond l31 (v31) (undef), cond l32 (.bool true) (undef), cond l33 (.bool true) (undef)] ++ a0.tmps.toList.drop 131)).toArray } ∧ Below w9.heap.size w9 uu ∧ (l1 = true → BoxV uu (p1) (p2) v1) ∧ (l3 = true → BoxV uu (L1) (H1) v3) ∧ (l5 = true → BoxV uu (s1) (s2) v5) ∧ (l7 = true → BoxV uu (d1) (d2) v7) ∧ (l8 = true → BoxV uu (L2) (H2) v8) ∧ (l10 = true → BoxV uu (c1) (c2) v10) ∧ (l12 = true → BoxV uu (t1) (t2) v12) ∧ (l13 = true → BoxV uu (L3) (H3) v13) ∧ (l14 = true → BoxV uu (L4) (H4) v14) ∧ (l18 = true → BoxV uu (q1) (q2) v18) ∧ (l20 = true → BoxV uu (L5) (H5) v20) ∧ (l22 = true → BoxV uu (c1) (c2) v22) ∧ (l24 = true → BoxV uu (d1) (d2) v24) ∧ (l25 = true → BoxV uu (L6) (H6) v25) ∧ (l27 = true → BoxV uu (s1) (s2) v27) ∧ (l29 = true → BoxV uu (t1) (t2) v29) ∧ (l30 = true → BoxV uu (L7) (H7) v30) ∧ (l31 = true → BoxV uu (L8) (H8) v31) ∧ vv = uu) (by kernel_rfl) (by kernel_rfl) ?h0 ?hsize ?hdone ?hstep
  case h0 =>
    refine ⟨false, false, false, false, false, false, false, false, false, false, false, false, false, false, false, false, false, false, false, false, false, false, false, false, false, false, false, false, false, false, false, false, false, false, false, _, undef, undef, undef, undef, undef, undef, undef, undef, undef, undef, undef, undef, undef, undef, undef, undef, undef, undef, rfl, ?_, by (repeat (first | exact Below.refl _ _ | refine bl_drewN ?_ | refine bl_drew ?_ | refine bl_alloc ?_ _ | refine Below.setCell ?_ (by (first | (simp; done) | (simp; omega) | omega)) _ | refine bl_step (by assumption) ?_)), (fun h => by cases h), (fun h => by cases h), (fun h => by cases h), (fun h => by cases h), (fun h => by cases h), (fun h => by cases h), (fun h => by cases h), (fun h => by cases h), (fun h => by cases h), (fun h => by cases h), (fun h => by cases h), (fun h => by cases h), (fun h => by cases h), (fun h => by cases h), (fun h => by cases h), (fun h => by cases h), (fun h => by cases h), (fun h => by cases h), rfl⟩
    kernel_rfl
  case hsize =>
    intro LL aa vv h
    obtain ⟨l0, h⟩ := h
    obtain ⟨l1, h⟩ := h
    obtain ⟨l2, h⟩ := h
    obtain ⟨l3, h⟩ := h
    obtain ⟨l4, h⟩ := h
    obtain ⟨l5, h⟩ := h
    obtain ⟨l6, h⟩ := h
    obtain ⟨l7, h⟩ := h
    obtain ⟨l8, h⟩ := h
    obtain ⟨l9, h⟩ := h
    obtain ⟨l10, h⟩ := h
    obtain ⟨l11, h⟩ := h
    obtain ⟨l12, h⟩ := h
    obtain ⟨l13, h⟩ := h
    obtain ⟨l14, h⟩ := h
    obtain ⟨l15, h⟩ := h
    obtain ⟨l16, h⟩ := h
    obtain ⟨l17, h⟩ := h
    obtain ⟨l18, h⟩ := h
    obtain ⟨l19, h⟩ := h
    obtain ⟨l20, h⟩ := h
    obtain ⟨l21, h⟩ := h
    obtain ⟨l22, h⟩ := h
    obtain ⟨l23, h⟩ := h
    obtain ⟨l24, h⟩ := h
    obtain ⟨l25, h⟩ := h
    obtain ⟨l26, h⟩ := h
    obtain ⟨l27, h⟩ := h
    obtain ⟨l28, h⟩ := h
    obtain ⟨l29, h⟩ := h
    obtain ⟨l30, h⟩ := h
    obtain ⟨l31, h⟩ := h
    obtain ⟨l32, h⟩ := h
    obtain ⟨l33, h⟩ := h
    obtain ⟨l34, h⟩ := h
    obtain ⟨uu, h⟩ := h
    obtain ⟨v1, h⟩ := h
    obtain ⟨v3, h⟩ := h
    obtain ⟨v5, h⟩ := h
    obtain ⟨v7, h⟩ := h
    obtain ⟨v8, h⟩ := h
    obtain ⟨v10, h⟩ := h
    obtain ⟨v12, h⟩ := h
    obtain ⟨v13, h⟩ := h
    obtain ⟨v14, h⟩ := h
    obtain ⟨v18, h⟩ := h
    obtain ⟨v20, h⟩ := h
    obtain ⟨v22, h⟩ := h
    obtain ⟨v24, h⟩ := h
    obtain ⟨v25, h⟩ := h
    obtain ⟨v27, h⟩ := h
    obtain ⟨v29, h⟩ := h
    obtain ⟨v30, h⟩ := h
    obtain ⟨v31, h⟩ := h
    obtain ⟨hL, _⟩ := h
    rw [hL]
    rfl
  case hstep =>
    intro LL aa vv h
    obtain ⟨l0, h⟩ := h
    obtain ⟨l1, h⟩ := h
    obtain ⟨l2, h⟩ := h
    obtain ⟨l3, h⟩ := h
    obtain ⟨l4, h⟩ := h
    obtain ⟨l5, h⟩ := h
    obtain ⟨l6, h⟩ := h
    obtain ⟨l7, h⟩ := h
    obtain ⟨l8, h⟩ := h
    obtain ⟨l9, h⟩ := h
    obtain ⟨l10, h⟩ := h
    obtain ⟨l11, h⟩ := h
    obtain ⟨l12, h⟩ := h
    obtain ⟨l13, h⟩ := h
    obtain ⟨l14, h⟩ := h
    obtain ⟨l15, h⟩ := h
    obtain ⟨l16, h⟩ := h
    obtain ⟨l17, h⟩ := h
    obtain ⟨l18, h⟩ := h
    obtain ⟨l19, h⟩ := h
    obtain ⟨l20, h⟩ := h
    obtain ⟨l21, h⟩ := h
    obtain ⟨l22, h⟩ := h
    obtain ⟨l23, h⟩ := h
    obtain ⟨l24, h⟩ := h
    obtain ⟨l25, h⟩ := h
    obtain ⟨l26, h⟩ := h
    obtain ⟨l27, h⟩ := h
    obtain ⟨l28, h⟩ := h
    obtain ⟨l29, h⟩ := h
    obtain ⟨l30, h⟩ := h
    obtain ⟨l31, h⟩ := h
    obtain ⟨l32, h⟩ := h
    obtain ⟨l33, h⟩ := h
    obtain ⟨l34, h⟩ := h
    obtain ⟨uu, h⟩ := h
    obtain ⟨v1, h⟩ := h
    obtain ⟨v3, h⟩ := h
    obtain ⟨v5, h⟩ := h
    obtain ⟨v7, h⟩ := h
    obtain ⟨v8, h⟩ := h
    obtain ⟨v10, h⟩ := h
    obtain ⟨v12, h⟩ := h
    obtain ⟨v13, h⟩ := h
    obtain ⟨v14, h⟩ := h
    obtain ⟨v18, h⟩ := h
    obtain ⟨v20, h⟩ := h
    obtain ⟨v22, h⟩ := h
    obtain ⟨v24, h⟩ := h
    obtain ⟨v25, h⟩ := h
    obtain ⟨v27, h⟩ := h
    obtain ⟨v29, h⟩ := h
    obtain ⟨v30, h⟩ := h
    obtain ⟨v31, h⟩ := h
    obtain ⟨hL, h⟩ := h
    obtain ⟨ha, h⟩ := h
    obtain ⟨hu, h⟩ := h
    obtain ⟨hx1, h⟩ := h
    obtain ⟨hx3, h⟩ := h
    obtain ⟨hx5, h⟩ := h
    obtain ⟨hx7, h⟩ := h
    obtain ⟨hx8, h⟩ := h
    obtain ⟨hx10, h⟩ := h
    obtain ⟨hx12, h⟩ := h
    obtain ⟨hx13, h⟩ := h
    obtain ⟨hx14, h⟩ := h
    obtain ⟨hx18, h⟩ := h
    obtain ⟨hx20, h⟩ := h
    obtain ⟨hx22, h⟩ := h
    obtain ⟨hx24, h⟩ := h
    obtain ⟨hx25, h⟩ := h
    obtain ⟨hx27, h⟩ := h
    obtain ⟨hx29, h⟩ := h
    obtain ⟨hx30, h⟩ := h
    obtain ⟨hx31, hv⟩ := h
    simp only [List.take_succ_cons, List.take_zero, List.cons_append, List.nil_append, List.drop_succ_cons, List.drop_zero, List.set_cons_zero, List.set_cons_succ] at ha
    subst hL
    subst ha
    refine ⟨?s0, ?s1, ?s2, ?s3, ?s4, ?s5, ?s6, ?s7, ?s8, ?s9, ?s10, ?s11, ?s12, ?s13, ?s14, ?s15, ?s16, ?s17, ?s18, ?s19, ?s20, ?s21, ?s22, ?s23, ?s24, ?s25, ?s26, ?s27, ?s28, ?s29, ?s30, ?s31, ?s32, ?s33, ?s34, trivial⟩
    case s0 =>
      intro ff gg KK hK
      have f0 : l0 = false := ff
      subst hv
      clear ff gg
      subst f0
      simp only [cond_false]
      have j_ss0 := cell_later hu ss0
      have j_ss1 := cell_later hu ss1
      go_simp
      exact hK _ _ ⟨true, l1, l2, l3, l4, l5, l6, l7, l8, l9, l10, l11, l12, l13, l14, l15, l16, l17, l18, l19, l20, l21, l22, l23, l24, l25, l26, l27, l28, l29, l30, l31, l32, l33, l34, _, v1, v3, v5, v7, v8, v10, v12, v13, v14, v18, v20, v22, v24, v25, v27, v29, v30, v31, rfl, (by kernel_rfl), hu, hx1, hx3, hx5, hx7, hx8, hx10, hx12, hx13, hx14, hx18, hx20, hx22, hx24, hx25, hx27, hx29, hx30, hx31, rfl⟩
    case s1 =>
      intro ff gg KK hK
      have f0 : l1 = false := ff
      subst hv
      have t0 : l0 = true := gg ⟨0, .data⟩ (by simp) (by rfl)
      clear ff gg
      subst t0
      subst f0
      simp only [cond_true, cond_false]
      go_simp
      go_at_call 24
      with_reducible refine (Oss.out _).mono ?_
      rintro e w' ⟨vn, rfl, hv, hb⟩
      exact hK _ _ ⟨true, true, l2, l3, l4, l5, l6, l7, l8, l9, l10, l11, l12, l13, l14, l15, l16, l17, l18, l19, l20, l21, l22, l23, l24, l25, l26, l27, l28, l29, l30, l31, l32, l33, l34, _, vn, v3, v5, v7, v8, v10, v12, v13, v14, v18, v20, v22, v24, v25, v27, v29, v30, v31, rfl, (by kernel_rfl), bl_step hb hu, (fun _ => hv), (fun t => (hx3 t).below hb), (fun t => (hx5 t).below hb), (fun t => (hx7 t).below hb), (fun t => (hx8 t).below hb), (fun t => (hx10 t).below hb), (fun t => (hx12 t).below hb), (fun t => (hx13 t).below hb), (fun t => (hx14 t).below hb), (fun t => (hx18 t).below hb), (fun t => (hx20 t).below hb), (fun t => (hx22 t).below hb), (fun t => (hx24 t).below hb), (fun t => (hx25 t).below hb), (fun t => (hx27 t).below hb), (fun t => (hx29 t).below hb), (fun t => (hx30 t).below hb), (fun t => (hx31 t).below hb), rfl⟩
    case s2 =>
      intro ff gg KK hK
      have f0 : l2 = false := ff
      subst hv
      clear ff gg
      subst f0
      simp only [cond_false]
      have j_uu0 := cell_later hu uu0
      have j_uu1 := cell_later hu uu1
      have j_uu2 := cell_later hu uu2
      have j_uu3 := cell_later hu uu3
      go_simp
      exact hK _ _ ⟨l0, l1, true, l3, l4, l5, l6, l7, l8, l9, l10, l11, l12, l13, l14, l15, l16, l17, l18, l19, l20, l21, l22, l23, l24, l25, l26, l27, l28, l29, l30, l31, l32, l33, l34, _, v1, v3, v5, v7, v8, v10, v12, v13, v14, v18, v20, v22, v24, v25, v27, v29, v30, v31, rfl, (by kernel_rfl), hu, hx1, hx3, hx5, hx7, hx8, hx10, hx12, hx13, hx14, hx18, hx20, hx22, hx24, hx25, hx27, hx29, hx30, hx31, rfl⟩
    case s3 =>
      intro ff gg KK hK
      have f0 : l3 = false := ff
      subst hv
      have t1 : l1 = true := gg ⟨1, .data⟩ (by simp) (by rfl)
      have t2 : l2 = true := gg ⟨2, .data⟩ (by simp) (by rfl)
      clear ff gg
      subst t1 t2
      subst f0
      simp only [cond_true, cond_false]
      go_simp
      go_at_call 23
      with_reducible refine (T1.out _ _ _ (hx1 rfl) (HV.out.below hu)).mono ?_
      rintro e w' ⟨vn, rfl, hv, hb⟩
      exact hK _ _ ⟨l0, true, true, true, l4, l5, l6, l7, l8, l9, l10, l11, l12, l13, l14, l15, l16, l17, l18, l19, l20, l21, l22, l23, l24, l25, l26, l27, l28, l29, l30, l31, l32, l33, l34, _, v1, vn, v5, v7, v8, v10, v12, v13, v14, v18, v20, v22, v24, v25, v27, v29, v30, v31, rfl, (by kernel_rfl), bl_step hb hu, (fun t => (hx1 t).below hb), (fun _ => hv), (fun t => (hx5 t).below hb), (fun t => (hx7 t).below hb), (fun t => (hx8 t).below hb), (fun t => (hx10 t).below hb), (fun t => (hx12 t).below hb), (fun t => (hx13 t).below hb), (fun t => (hx14 t).below hb), (fun t => (hx18 t).below hb), (fun t => (hx20 t).below hb), (fun t => (hx22 t).below hb), (fun t => (hx24 t).below hb), (fun t => (hx25 t).below hb), (fun t => (hx27 t).below hb), (fun t => (hx29 t).below hb), (fun t => (hx30 t).below hb), (fun t => (hx31 t).below hb), rfl⟩
    case s4 =>
      intro ff gg KK hK
      have f0 : l4 = false := ff
      subst hv
      clear ff gg
      subst f0
      simp only [cond_false]
      have j_sa0 := cell_later hu sa0
      have j_sa1 := cell_later hu sa1
      go_simp
      exact hK _ _ ⟨l0, l1, l2, l3, true, l5, l6, l7, l8, l9, l10, l11, l12, l13, l14, l15, l16, l17, l18, l19, l20, l21, l22, l23, l24, l25, l26, l27, l28, l29, l30, l31, l32, l33, l34, _, v1, v3, v5, v7, v8, v10, v12, v13, v14, v18, v20, v22, v24, v25, v27, v29, v30, v31, rfl, (by kernel_rfl), hu, hx1, hx3, hx5, hx7, hx8, hx10, hx12, hx13, hx14, hx18, hx20, hx22, hx24, hx25, hx27, hx29, hx30, hx31, rfl⟩
    case s5 =>
      intro ff gg KK hK
      have f0 : l5 = false := ff
      subst hv
      have t4 : l4 = true := gg ⟨4, .data⟩ (by simp) (by rfl)
      have t3 : l3 = true := gg ⟨3, .chain⟩ (by simp) (by rfl)
      clear ff gg
      subst t4 t3
      subst f0
      simp only [cond_true, cond_false]
      go_simp
      go_at_call 24
      with_reducible refine (Osa.out _).mono ?_
      rintro e w' ⟨vn, rfl, hv, hb⟩
      exact hK _ _ ⟨l0, l1, l2, true, true, true, l6, l7, l8, l9, l10, l11, l12, l13, l14, l15, l16, l17, l18, l19, l20, l21, l22, l23, l24, l25, l26, l27, l28, l29, l30, l31, l32, l33, l34, _, v1, v3, vn, v7, v8, v10, v12, v13, v14, v18, v20, v22, v24, v25, v27, v29, v30, v31, rfl, (by kernel_rfl), bl_step hb hu, (fun t => (hx1 t).below hb), (fun t => (hx3 t).below hb), (fun _ => hv), (fun t => (hx7 t).below hb), (fun t => (hx8 t).below hb), (fun t => (hx10 t).below hb), (fun t => (hx12 t).below hb), (fun t => (hx13 t).below hb), (fun t => (hx14 t).below hb), (fun t => (hx18 t).below hb), (fun t => (hx20 t).below hb), (fun t => (hx22 t).below hb), (fun t => (hx24 t).below hb), (fun t => (hx25 t).below hb), (fun t => (hx27 t).below hb), (fun t => (hx29 t).below hb), (fun t => (hx30 t).below hb), (fun t => (hx31 t).below hb), rfl⟩
    case s6 =>
      intro ff gg KK hK
      have f0 : l6 = false := ff
      subst hv
      clear ff gg
      subst f0
      simp only [cond_false]
      have j_cb0 := cell_later hu cb0
      have j_cb1 := cell_later hu cb1
      go_simp
      exact hK _ _ ⟨l0, l1, l2, l3, l4, l5, true, l7, l8, l9, l10, l11, l12, l13, l14, l15, l16, l17, l18, l19, l20, l21, l22, l23, l24, l25, l26, l27, l28, l29, l30, l31, l32, l33, l34, _, v1, v3, v5, v7, v8, v10, v12, v13, v14, v18, v20, v22, v24, v25, v27, v29, v30, v31, rfl, (by kernel_rfl), hu, hx1, hx3, hx5, hx7, hx8, hx10, hx12, hx13, hx14, hx18, hx20, hx22, hx24, hx25, hx27, hx29, hx30, hx31, rfl⟩
    case s7 =>
      intro ff gg KK hK
      have f0 : l7 = false := ff
      subst hv
      have t6 : l6 = true := gg ⟨6, .data⟩ (by simp) (by rfl)
      have t5 : l5 = true := gg ⟨5, .chain⟩ (by simp) (by rfl)
      clear ff gg
      subst t6 t5
      subst f0
      simp only [cond_true, cond_false]
      go_simp
      go_at_call 24
      with_reducible refine (Ocb.out _).mono ?_
      rintro e w' ⟨vn, rfl, hv, hb⟩
      exact hK _ _ ⟨l0, l1, l2, l3, l4, true, true, true, l8, l9, l10, l11, l12, l13, l14, l15, l16, l17, l18, l19, l20, l21, l22, l23, l24, l25, l26, l27, l28, l29, l30, l31, l32, l33, l34, _, v1, v3, v5, vn, v8, v10, v12, v13, v14, v18, v20, v22, v24, v25, v27, v29, v30, v31, rfl, (by kernel_rfl), bl_step hb hu, (fun t => (hx1 t).below hb), (fun t => (hx3 t).below hb), (fun t => (hx5 t).below hb), (fun _ => hv), (fun t => (hx8 t).below hb), (fun t => (hx10 t).below hb), (fun t => (hx12 t).below hb), (fun t => (hx13 t).below hb), (fun t => (hx14 t).below hb), (fun t => (hx18 t).below hb), (fun t => (hx20 t).below hb), (fun t => (hx22 t).below hb), (fun t => (hx24 t).below hb), (fun t => (hx25 t).below hb), (fun t => (hx27 t).below hb), (fun t => (hx29 t).below hb), (fun t => (hx30 t).below hb), (fun t => (hx31 t).below hb), rfl⟩
    case s8 =>
      intro ff gg KK hK
      have f0 : l8 = false := ff
      subst hv
      have t5 : l5 = true := gg ⟨5, .data⟩ (by simp) (by rfl)
      have t7 : l7 = true := gg ⟨7, .data⟩ (by simp) (by rfl)
      clear ff gg
      subst t5 t7
      subst f0
      simp only [cond_true, cond_false]
      go_simp
      go_at_call 23
      with_reducible refine (T2.out _ _ _ (hx5 rfl) (hx7 rfl)).mono ?_
      rintro e w' ⟨vn, rfl, hv, hb⟩
      exact hK _ _ ⟨l0, l1, l2, l3, l4, true, l6, true, true, l9, l10, l11, l12, l13, l14, l15, l16, l17, l18, l19, l20, l21, l22, l23, l24, l25, l26, l27, l28, l29, l30, l31, l32, l33, l34, _, v1, v3, v5, v7, vn, v10, v12, v13, v14, v18, v20, v22, v24, v25, v27, v29, v30, v31, rfl, (by kernel_rfl), bl_step hb hu, (fun t => (hx1 t).below hb), (fun t => (hx3 t).below hb), (fun t => (hx5 t).below hb), (fun t => (hx7 t).below hb), (fun _ => hv), (fun t => (hx10 t).below hb), (fun t => (hx12 t).below hb), (fun t => (hx13 t).below hb), (fun t => (hx14 t).below hb), (fun t => (hx18 t).below hb), (fun t => (hx20 t).below hb), (fun t => (hx22 t).below hb), (fun t => (hx24 t).below hb), (fun t => (hx25 t).below hb), (fun t => (hx27 t).below hb), (fun t => (hx29 t).below hb), (fun t => (hx30 t).below hb), (fun t => (hx31 t).below hb), rfl⟩
    case s9 =>
      intro ff gg KK hK
      have f0 : l9 = false := ff
      subst hv
      clear ff gg
      subst f0
      simp only [cond_false]
      have j_ca0 := cell_later hu ca0
      have j_ca1 := cell_later hu ca1
      go_simp
      exact hK _ _ ⟨l0, l1, l2, l3, l4, l5, l6, l7, l8, true, l10, l11, l12, l13, l14, l15, l16, l17, l18, l19, l20, l21, l22, l23, l24, l25, l26, l27, l28, l29, l30, l31, l32, l33, l34, _, v1, v3, v5, v7, v8, v10, v12, v13, v14, v18, v20, v22, v24, v25, v27, v29, v30, v31, rfl, (by kernel_rfl), hu, hx1, hx3, hx5, hx7, hx8, hx10, hx12, hx13, hx14, hx18, hx20, hx22, hx24, hx25, hx27, hx29, hx30, hx31, rfl⟩
    case s10 =>
      intro ff gg KK hK
      have f0 : l10 = false := ff
      subst hv
      have t9 : l9 = true := gg ⟨9, .data⟩ (by simp) (by rfl)
      have t8 : l8 = true := gg ⟨8, .chain⟩ (by simp) (by rfl)
      clear ff gg
      subst t9 t8
      subst f0
      simp only [cond_true, cond_false]
      go_simp
      go_at_call 24
      with_reducible refine (Oca.out _).mono ?_
      rintro e w' ⟨vn, rfl, hv, hb⟩
      exact hK _ _ ⟨l0, l1, l2, l3, l4, l5, l6, l7, true, true, true, l11, l12, l13, l14, l15, l16, l17, l18, l19, l20, l21, l22, l23, l24, l25, l26, l27, l28, l29, l30, l31, l32, l33, l34, _, v1, v3, v5, v7, v8, vn, v12, v13, v14, v18, v20, v22, v24, v25, v27, v29, v30, v31, rfl, (by kernel_rfl), bl_step hb hu, (fun t => (hx1 t).below hb), (fun t => (hx3 t).below hb), (fun t => (hx5 t).below hb), (fun t => (hx7 t).below hb), (fun t => (hx8 t).below hb), (fun _ => hv), (fun t => (hx12 t).below hb), (fun t => (hx13 t).below hb), (fun t => (hx14 t).below hb), (fun t => (hx18 t).below hb), (fun t => (hx20 t).below hb), (fun t => (hx22 t).below hb), (fun t => (hx24 t).below hb), (fun t => (hx25 t).below hb), (fun t => (hx27 t).below hb), (fun t => (hx29 t).below hb), (fun t => (hx30 t).below hb), (fun t => (hx31 t).below hb), rfl⟩
    case s11 =>
      intro ff gg KK hK
      have f0 : l11 = false := ff
      subst hv
      clear ff gg
      subst f0
      simp only [cond_false]
      have j_sb0 := cell_later hu sb0
      have j_sb1 := cell_later hu sb1
      go_simp
      exact hK _ _ ⟨l0, l1, l2, l3, l4, l5, l6, l7, l8, l9, l10, true, l12, l13, l14, l15, l16, l17, l18, l19, l20, l21, l22, l23, l24, l25, l26, l27, l28, l29, l30, l31, l32, l33, l34, _, v1, v3, v5, v7, v8, v10, v12, v13, v14, v18, v20, v22, v24, v25, v27, v29, v30, v31, rfl, (by kernel_rfl), hu, hx1, hx3, hx5, hx7, hx8, hx10, hx12, hx13, hx14, hx18, hx20, hx22, hx24, hx25, hx27, hx29, hx30, hx31, rfl⟩
    case s12 =>
      intro ff gg KK hK
      have f0 : l12 = false := ff
      subst hv
      have t11 : l11 = true := gg ⟨11, .data⟩ (by simp) (by rfl)
      have t10 : l10 = true := gg ⟨10, .chain⟩ (by simp) (by rfl)
      clear ff gg
      subst t11 t10
      subst f0
      simp only [cond_true, cond_false]
      go_simp
      go_at_call 24
      with_reducible refine (Osb.out _).mono ?_
      rintro e w' ⟨vn, rfl, hv, hb⟩
      exact hK _ _ ⟨l0, l1, l2, l3, l4, l5, l6, l7, l8, l9, true, true, true, l13, l14, l15, l16, l17, l18, l19, l20, l21, l22, l23, l24, l25, l26, l27, l28, l29, l30, l31, l32, l33, l34, _, v1, v3, v5, v7, v8, v10, vn, v13, v14, v18, v20, v22, v24, v25, v27, v29, v30, v31, rfl, (by kernel_rfl), bl_step hb hu, (fun t => (hx1 t).below hb), (fun t => (hx3 t).below hb), (fun t => (hx5 t).below hb), (fun t => (hx7 t).below hb), (fun t => (hx8 t).below hb), (fun t => (hx10 t).below hb), (fun _ => hv), (fun t => (hx13 t).below hb), (fun t => (hx14 t).below hb), (fun t => (hx18 t).below hb), (fun t => (hx20 t).below hb), (fun t => (hx22 t).below hb), (fun t => (hx24 t).below hb), (fun t => (hx25 t).below hb), (fun t => (hx27 t).below hb), (fun t => (hx29 t).below hb), (fun t => (hx30 t).below hb), (fun t => (hx31 t).below hb), rfl⟩
    case s13 =>
      intro ff gg KK hK
      have f0 : l13 = false := ff
      subst hv
      have t10 : l10 = true := gg ⟨10, .data⟩ (by simp) (by rfl)
      have t12 : l12 = true := gg ⟨12, .data⟩ (by simp) (by rfl)
      clear ff gg
      subst t10 t12
      subst f0
      simp only [cond_true, cond_false]
      go_simp
      go_at_call 23
      with_reducible refine (T3.out _ _ _ (hx10 rfl) (hx12 rfl)).mono ?_
      rintro e w' ⟨vn, rfl, hv, hb⟩
      exact hK _ _ ⟨l0, l1, l2, l3, l4, l5, l6, l7, l8, l9, true, l11, true, true, l14, l15, l16, l17, l18, l19, l20, l21, l22, l23, l24, l25, l26, l27, l28, l29, l30, l31, l32, l33, l34, _, v1, v3, v5, v7, v8, v10, v12, vn, v14, v18, v20, v22, v24, v25, v27, v29, v30, v31, rfl, (by kernel_rfl), bl_step hb hu, (fun t => (hx1 t).below hb), (fun t => (hx3 t).below hb), (fun t => (hx5 t).below hb), (fun t => (hx7 t).below hb), (fun t => (hx8 t).below hb), (fun t => (hx10 t).below hb), (fun t => (hx12 t).below hb), (fun _ => hv), (fun t => (hx14 t).below hb), (fun t => (hx18 t).below hb), (fun t => (hx20 t).below hb), (fun t => (hx22 t).below hb), (fun t => (hx24 t).below hb), (fun t => (hx25 t).below hb), (fun t => (hx27 t).below hb), (fun t => (hx29 t).below hb), (fun t => (hx30 t).below hb), (fun t => (hx31 t).below hb), rfl⟩
    case s14 =>
      intro ff gg KK hK
      have f0 : l14 = false := ff
      subst hv
      have t8 : l8 = true := gg ⟨8, .data⟩ (by simp) (by rfl)
      have t13 : l13 = true := gg ⟨13, .data⟩ (by simp) (by rfl)
      clear ff gg
      subst t8 t13
      subst f0
      simp only [cond_true, cond_false]
      go_simp
      go_at_call 25
      with_reducible refine (PL.out _ _ _ (hx8 rfl) (hx13 rfl)).mono ?_
      rintro e w' ⟨vn, rfl, hv, hb⟩
      exact hK _ _ ⟨l0, l1, l2, l3, l4, l5, l6, l7, true, l9, l10, l11, l12, true, true, l15, l16, l17, l18, l19, l20, l21, l22, l23, l24, l25, l26, l27, l28, l29, l30, l31, l32, l33, l34, _, v1, v3, v5, v7, v8, v10, v12, v13, vn, v18, v20, v22, v24, v25, v27, v29, v30, v31, rfl, (by kernel_rfl), bl_step hb hu, (fun t => (hx1 t).below hb), (fun t => (hx3 t).below hb), (fun t => (hx5 t).below hb), (fun t => (hx7 t).below hb), (fun t => (hx8 t).below hb), (fun t => (hx10 t).below hb), (fun t => (hx12 t).below hb), (fun t => (hx13 t).below hb), (fun _ => hv), (fun t => (hx18 t).below hb), (fun t => (hx20 t).below hb), (fun t => (hx22 t).below hb), (fun t => (hx24 t).below hb), (fun t => (hx25 t).below hb), (fun t => (hx27 t).below hb), (fun t => (hx29 t).below hb), (fun t => (hx30 t).below hb), (fun t => (hx31 t).below hb), rfl⟩
    case s15 =>
      intro ff gg KK hK
      have f0 : l15 = false := ff
      subst hv
      have t3 : l3 = true := gg ⟨3, .data⟩ (by simp) (by rfl)
      have t14 : l14 = true := gg ⟨14, .data⟩ (by simp) (by rfl)
      clear ff gg
      subst t3 t14
      subst f0
      simp only [cond_true, cond_false]
      go_simp
      go_at_call 22
      with_reducible refine (M1.out _ _ _ (hx3 rfl) (hx14 rfl)).mono ?_
      rintro e w' ⟨rfl, hb⟩
      exact hK _ _ ⟨l0, l1, l2, true, l4, l5, l6, l7, l8, l9, l10, l11, l12, l13, true, true, l16, l17, l18, l19, l20, l21, l22, l23, l24, l25, l26, l27, l28, l29, l30, l31, l32, l33, l34, _, v1, v3, v5, v7, v8, v10, v12, v13, v14, v18, v20, v22, v24, v25, v27, v29, v30, v31, rfl, (by kernel_rfl), bl_step hb hu, (fun t => (hx1 t).below hb), (fun t => (hx3 t).below hb), (fun t => (hx5 t).below hb), (fun t => (hx7 t).below hb), (fun t => (hx8 t).below hb), (fun t => (hx10 t).below hb), (fun t => (hx12 t).below hb), (fun t => (hx13 t).below hb), (fun t => (hx14 t).below hb), (fun t => (hx18 t).below hb), (fun t => (hx20 t).below hb), (fun t => (hx22 t).below hb), (fun t => (hx24 t).below hb), (fun t => (hx25 t).below hb), (fun t => (hx27 t).below hb), (fun t => (hx29 t).below hb), (fun t => (hx30 t).below hb), (fun t => (hx31 t).below hb), rfl⟩
    case s16 =>
      intro ff gg KK hK
      have f0 : l16 = false := ff
      subst hv
      have t15 : l15 = true := gg ⟨15, .data⟩ (by simp) (by rfl)
      clear ff gg
      subst t15
      subst f0
      simp only [cond_true, cond_false]
      go_simp
      exact hK _ _ ⟨l0, l1, l2, l3, l4, l5, l6, l7, l8, l9, l10, l11, l12, l13, l14, true, true, l17, l18, l19, l20, l21, l22, l23, l24, l25, l26, l27, l28, l29, l30, l31, l32, l33, l34, _, v1, v3, v5, v7, v8, v10, v12, v13, v14, v18, v20, v22, v24, v25, v27, v29, v30, v31, rfl, (by kernel_rfl), hu, hx1, hx3, hx5, hx7, hx8, hx10, hx12, hx13, hx14, hx18, hx20, hx22, hx24, hx25, hx27, hx29, hx30, hx31, rfl⟩
    case s17 =>
      intro ff gg KK hK
      have f0 : l17 = false := ff
      subst hv
      have t16 : l16 = true := gg ⟨16, .guard⟩ (by simp) (by rfl)
      clear ff gg
      subst t16
      subst f0
      simp only [cond_true, cond_false]
      have j_cc0 := cell_later hu cc0
      have j_cc1 := cell_later hu cc1
      go_simp
      exact hK _ _ ⟨l0, l1, l2, l3, l4, l5, l6, l7, l8, l9, l10, l11, l12, l13, l14, l15, true, true, l18, l19, l20, l21, l22, l23, l24, l25, l26, l27, l28, l29, l30, l31, l32, l33, l34, _, v1, v3, v5, v7, v8, v10, v12, v13, v14, v18, v20, v22, v24, v25, v27, v29, v30, v31, rfl, (by kernel_rfl), hu, hx1, hx3, hx5, hx7, hx8, hx10, hx12, hx13, hx14, hx18, hx20, hx22, hx24, hx25, hx27, hx29, hx30, hx31, rfl⟩
    case s18 =>
      intro ff gg KK hK
      have f0 : l18 = false := ff
      subst hv
      have t17 : l17 = true := gg ⟨17, .data⟩ (by simp) (by rfl)
      have t16 : l16 = true := gg ⟨16, .chain⟩ (by simp) (by rfl)
      clear ff gg
      subst t17 t16
      subst f0
      simp only [cond_true, cond_false]
      go_simp
      go_at_call 24
      with_reducible refine (Occ.out _).mono ?_
      rintro e w' ⟨vn, rfl, hv, hb⟩
      exact hK _ _ ⟨l0, l1, l2, l3, l4, l5, l6, l7, l8, l9, l10, l11, l12, l13, l14, l15, true, true, true, l19, l20, l21, l22, l23, l24, l25, l26, l27, l28, l29, l30, l31, l32, l33, l34, _, v1, v3, v5, v7, v8, v10, v12, v13, v14, vn, v20, v22, v24, v25, v27, v29, v30, v31, rfl, (by kernel_rfl), bl_step hb hu, (fun t => (hx1 t).below hb), (fun t => (hx3 t).below hb), (fun t => (hx5 t).below hb), (fun t => (hx7 t).below hb), (fun t => (hx8 t).below hb), (fun t => (hx10 t).below hb), (fun t => (hx12 t).below hb), (fun t => (hx13 t).below hb), (fun t => (hx14 t).below hb), (fun _ => hv), (fun t => (hx20 t).below hb), (fun t => (hx22 t).below hb), (fun t => (hx24 t).below hb), (fun t => (hx25 t).below hb), (fun t => (hx27 t).below hb), (fun t => (hx29 t).below hb), (fun t => (hx30 t).below hb), (fun t => (hx31 t).below hb), rfl⟩
    case s19 =>
      intro ff gg KK hK
      have f0 : l19 = false := ff
      subst hv
      have t16 : l16 = true := gg ⟨16, .guard⟩ (by simp) (by rfl)
      clear ff gg
      subst t16
      subst f0
      simp only [cond_true, cond_false]
      have j_uu0 := cell_later hu uu0
      have j_uu1 := cell_later hu uu1
      have j_uu2 := cell_later hu uu2
      have j_uu3 := cell_later hu uu3
      go_simp
      exact hK _ _ ⟨l0, l1, l2, l3, l4, l5, l6, l7, l8, l9, l10, l11, l12, l13, l14, l15, true, l17, l18, true, l20, l21, l22, l23, l24, l25, l26, l27, l28, l29, l30, l31, l32, l33, l34, _, v1, v3, v5, v7, v8, v10, v12, v13, v14, v18, v20, v22, v24, v25, v27, v29, v30, v31, rfl, (by kernel_rfl), hu, hx1, hx3, hx5, hx7, hx8, hx10, hx12, hx13, hx14, hx18, hx20, hx22, hx24, hx25, hx27, hx29, hx30, hx31, rfl⟩
    case s20 =>
      intro ff gg KK hK
      have f0 : l20 = false := ff
      subst hv
      have t18 : l18 = true := gg ⟨18, .data⟩ (by simp) (by rfl)
      have t19 : l19 = true := gg ⟨19, .data⟩ (by simp) (by rfl)
      have t16 : l16 = true := gg ⟨16, .guard⟩ (by simp) (by rfl)
      clear ff gg
      subst t18 t19 t16
      subst f0
      simp only [cond_true, cond_false]
      go_simp
      go_at_call 23
      with_reducible refine (T4.out _ _ _ (hx18 rfl) (HV.out.below hu)).mono ?_
      rintro e w' ⟨vn, rfl, hv, hb⟩
      exact hK _ _ ⟨l0, l1, l2, l3, l4, l5, l6, l7, l8, l9, l10, l11, l12, l13, l14, l15, true, l17, true, true, true, l21, l22, l23, l24, l25, l26, l27, l28, l29, l30, l31, l32, l33, l34, _, v1, v3, v5, v7, v8, v10, v12, v13, v14, v18, vn, v22, v24, v25, v27, v29, v30, v31, rfl, (by kernel_rfl), bl_step hb hu, (fun t => (hx1 t).below hb), (fun t => (hx3 t).below hb), (fun t => (hx5 t).below hb), (fun t => (hx7 t).below hb), (fun t => (hx8 t).below hb), (fun t => (hx10 t).below hb), (fun t => (hx12 t).below hb), (fun t => (hx13 t).below hb), (fun t => (hx14 t).below hb), (fun t => (hx18 t).below hb), (fun _ => hv), (fun t => (hx22 t).below hb), (fun t => (hx24 t).below hb), (fun t => (hx25 t).below hb), (fun t => (hx27 t).below hb), (fun t => (hx29 t).below hb), (fun t => (hx30 t).below hb), (fun t => (hx31 t).below hb), rfl⟩
    case s21 =>
      intro ff gg KK hK
      have f0 : l21 = false := ff
      subst hv
      have t16 : l16 = true := gg ⟨16, .guard⟩ (by simp) (by rfl)
      clear ff gg
      subst t16
      subst f0
      simp only [cond_true, cond_false]
      have j_ca0 := cell_later hu ca0
      have j_ca1 := cell_later hu ca1
      go_simp
      exact hK _ _ ⟨l0, l1, l2, l3, l4, l5, l6, l7, l8, l9, l10, l11, l12, l13, l14, l15, true, l17, l18, l19, l20, true, l22, l23, l24, l25, l26, l27, l28, l29, l30, l31, l32, l33, l34, _, v1, v3, v5, v7, v8, v10, v12, v13, v14, v18, v20, v22, v24, v25, v27, v29, v30, v31, rfl, (by kernel_rfl), hu, hx1, hx3, hx5, hx7, hx8, hx10, hx12, hx13, hx14, hx18, hx20, hx22, hx24, hx25, hx27, hx29, hx30, hx31, rfl⟩
    case s22 =>
      intro ff gg KK hK
      have f0 : l22 = false := ff
      subst hv
      have t21 : l21 = true := gg ⟨21, .data⟩ (by simp) (by rfl)
      have t20 : l20 = true := gg ⟨20, .chain⟩ (by simp) (by rfl)
      have t16 : l16 = true := gg ⟨16, .guard⟩ (by simp) (by rfl)
      clear ff gg
      subst t21 t20 t16
      subst f0
      simp only [cond_true, cond_false]
      go_simp
      go_at_call 24
      with_reducible refine (Oca.out _).mono ?_
      rintro e w' ⟨vn, rfl, hv, hb⟩
      exact hK _ _ ⟨l0, l1, l2, l3, l4, l5, l6, l7, l8, l9, l10, l11, l12, l13, l14, l15, true, l17, l18, l19, true, true, true, l23, l24, l25, l26, l27, l28, l29, l30, l31, l32, l33, l34, _, v1, v3, v5, v7, v8, v10, v12, v13, v14, v18, v20, vn, v24, v25, v27, v29, v30, v31, rfl, (by kernel_rfl), bl_step hb hu, (fun t => (hx1 t).below hb), (fun t => (hx3 t).below hb), (fun t => (hx5 t).below hb), (fun t => (hx7 t).below hb), (fun t => (hx8 t).below hb), (fun t => (hx10 t).below hb), (fun t => (hx12 t).below hb), (fun t => (hx13 t).below hb), (fun t => (hx14 t).below hb), (fun t => (hx18 t).below hb), (fun t => (hx20 t).below hb), (fun _ => hv), (fun t => (hx24 t).below hb), (fun t => (hx25 t).below hb), (fun t => (hx27 t).below hb), (fun t => (hx29 t).below hb), (fun t => (hx30 t).below hb), (fun t => (hx31 t).below hb), rfl⟩
    case s23 =>
      intro ff gg KK hK
      have f0 : l23 = false := ff
      subst hv
      have t16 : l16 = true := gg ⟨16, .guard⟩ (by simp) (by rfl)
      clear ff gg
      subst t16
      subst f0
      simp only [cond_true, cond_false]
      have j_cb0 := cell_later hu cb0
      have j_cb1 := cell_later hu cb1
      go_simp
      exact hK _ _ ⟨l0, l1, l2, l3, l4, l5, l6, l7, l8, l9, l10, l11, l12, l13, l14, l15, true, l17, l18, l19, l20, l21, l22, true, l24, l25, l26, l27, l28, l29, l30, l31, l32, l33, l34, _, v1, v3, v5, v7, v8, v10, v12, v13, v14, v18, v20, v22, v24, v25, v27, v29, v30, v31, rfl, (by kernel_rfl), hu, hx1, hx3, hx5, hx7, hx8, hx10, hx12, hx13, hx14, hx18, hx20, hx22, hx24, hx25, hx27, hx29, hx30, hx31, rfl⟩
    case s24 =>
      intro ff gg KK hK
      have f0 : l24 = false := ff
      subst hv
      have t23 : l23 = true := gg ⟨23, .data⟩ (by simp) (by rfl)
      have t22 : l22 = true := gg ⟨22, .chain⟩ (by simp) (by rfl)
      have t16 : l16 = true := gg ⟨16, .guard⟩ (by simp) (by rfl)
      clear ff gg
      subst t23 t22 t16
      subst f0
      simp only [cond_true, cond_false]
      go_simp
      go_at_call 24
      with_reducible refine (Ocb.out _).mono ?_
      rintro e w' ⟨vn, rfl, hv, hb⟩
      exact hK _ _ ⟨l0, l1, l2, l3, l4, l5, l6, l7, l8, l9, l10, l11, l12, l13, l14, l15, true, l17, l18, l19, l20, l21, true, true, true, l25, l26, l27, l28, l29, l30, l31, l32, l33, l34, _, v1, v3, v5, v7, v8, v10, v12, v13, v14, v18, v20, v22, vn, v25, v27, v29, v30, v31, rfl, (by kernel_rfl), bl_step hb hu, (fun t => (hx1 t).below hb), (fun t => (hx3 t).below hb), (fun t => (hx5 t).below hb), (fun t => (hx7 t).below hb), (fun t => (hx8 t).below hb), (fun t => (hx10 t).below hb), (fun t => (hx12 t).below hb), (fun t => (hx13 t).below hb), (fun t => (hx14 t).below hb), (fun t => (hx18 t).below hb), (fun t => (hx20 t).below hb), (fun t => (hx22 t).below hb), (fun _ => hv), (fun t => (hx25 t).below hb), (fun t => (hx27 t).below hb), (fun t => (hx29 t).below hb), (fun t => (hx30 t).below hb), (fun t => (hx31 t).below hb), rfl⟩
    case s25 =>
      intro ff gg KK hK
      have f0 : l25 = false := ff
      subst hv
      have t22 : l22 = true := gg ⟨22, .data⟩ (by simp) (by rfl)
      have t24 : l24 = true := gg ⟨24, .data⟩ (by simp) (by rfl)
      have t16 : l16 = true := gg ⟨16, .guard⟩ (by simp) (by rfl)
      clear ff gg
      subst t22 t24 t16
      subst f0
      simp only [cond_true, cond_false]
      go_simp
      go_at_call 23
      with_reducible refine (T5.out _ _ _ (hx22 rfl) (hx24 rfl)).mono ?_
      rintro e w' ⟨vn, rfl, hv, hb⟩
      exact hK _ _ ⟨l0, l1, l2, l3, l4, l5, l6, l7, l8, l9, l10, l11, l12, l13, l14, l15, true, l17, l18, l19, l20, l21, true, l23, true, true, l26, l27, l28, l29, l30, l31, l32, l33, l34, _, v1, v3, v5, v7, v8, v10, v12, v13, v14, v18, v20, v22, v24, vn, v27, v29, v30, v31, rfl, (by kernel_rfl), bl_step hb hu, (fun t => (hx1 t).below hb), (fun t => (hx3 t).below hb), (fun t => (hx5 t).below hb), (fun t => (hx7 t).below hb), (fun t => (hx8 t).below hb), (fun t => (hx10 t).below hb), (fun t => (hx12 t).below hb), (fun t => (hx13 t).below hb), (fun t => (hx14 t).below hb), (fun t => (hx18 t).below hb), (fun t => (hx20 t).below hb), (fun t => (hx22 t).below hb), (fun t => (hx24 t).below hb), (fun _ => hv), (fun t => (hx27 t).below hb), (fun t => (hx29 t).below hb), (fun t => (hx30 t).below hb), (fun t => (hx31 t).below hb), rfl⟩
    case s26 =>
      intro ff gg KK hK
      have f0 : l26 = false := ff
      subst hv
      have t16 : l16 = true := gg ⟨16, .guard⟩ (by simp) (by rfl)
      clear ff gg
      subst t16
      subst f0
      simp only [cond_true, cond_false]
      have j_sa0 := cell_later hu sa0
      have j_sa1 := cell_later hu sa1
      go_simp
      exact hK _ _ ⟨l0, l1, l2, l3, l4, l5, l6, l7, l8, l9, l10, l11, l12, l13, l14, l15, true, l17, l18, l19, l20, l21, l22, l23, l24, l25, true, l27, l28, l29, l30, l31, l32, l33, l34, _, v1, v3, v5, v7, v8, v10, v12, v13, v14, v18, v20, v22, v24, v25, v27, v29, v30, v31, rfl, (by kernel_rfl), hu, hx1, hx3, hx5, hx7, hx8, hx10, hx12, hx13, hx14, hx18, hx20, hx22, hx24, hx25, hx27, hx29, hx30, hx31, rfl⟩
    case s27 =>
      intro ff gg KK hK
      have f0 : l27 = false := ff
      subst hv
      have t26 : l26 = true := gg ⟨26, .data⟩ (by simp) (by rfl)
      have t25 : l25 = true := gg ⟨25, .chain⟩ (by simp) (by rfl)
      have t16 : l16 = true := gg ⟨16, .guard⟩ (by simp) (by rfl)
      clear ff gg
      subst t26 t25 t16
      subst f0
      simp only [cond_true, cond_false]
      go_simp
      go_at_call 24
      with_reducible refine (Osa.out _).mono ?_
      rintro e w' ⟨vn, rfl, hv, hb⟩
      exact hK _ _ ⟨l0, l1, l2, l3, l4, l5, l6, l7, l8, l9, l10, l11, l12, l13, l14, l15, true, l17, l18, l19, l20, l21, l22, l23, l24, true, true, true, l28, l29, l30, l31, l32, l33, l34, _, v1, v3, v5, v7, v8, v10, v12, v13, v14, v18, v20, v22, v24, v25, vn, v29, v30, v31, rfl, (by kernel_rfl), bl_step hb hu, (fun t => (hx1 t).below hb), (fun t => (hx3 t).below hb), (fun t => (hx5 t).below hb), (fun t => (hx7 t).below hb), (fun t => (hx8 t).below hb), (fun t => (hx10 t).below hb), (fun t => (hx12 t).below hb), (fun t => (hx13 t).below hb), (fun t => (hx14 t).below hb), (fun t => (hx18 t).below hb), (fun t => (hx20 t).below hb), (fun t => (hx22 t).below hb), (fun t => (hx24 t).below hb), (fun t => (hx25 t).below hb), (fun _ => hv), (fun t => (hx29 t).below hb), (fun t => (hx30 t).below hb), (fun t => (hx31 t).below hb), rfl⟩
    case s28 =>
      intro ff gg KK hK
      have f0 : l28 = false := ff
      subst hv
      have t16 : l16 = true := gg ⟨16, .guard⟩ (by simp) (by rfl)
      clear ff gg
      subst t16
      subst f0
      simp only [cond_true, cond_false]
      have j_sb0 := cell_later hu sb0
      have j_sb1 := cell_later hu sb1
      go_simp
      exact hK _ _ ⟨l0, l1, l2, l3, l4, l5, l6, l7, l8, l9, l10, l11, l12, l13, l14, l15, true, l17, l18, l19, l20, l21, l22, l23, l24, l25, l26, l27, true, l29, l30, l31, l32, l33, l34, _, v1, v3, v5, v7, v8, v10, v12, v13, v14, v18, v20, v22, v24, v25, v27, v29, v30, v31, rfl, (by kernel_rfl), hu, hx1, hx3, hx5, hx7, hx8, hx10, hx12, hx13, hx14, hx18, hx20, hx22, hx24, hx25, hx27, hx29, hx30, hx31, rfl⟩
    case s29 =>
      intro ff gg KK hK
      have f0 : l29 = false := ff
      subst hv
      have t28 : l28 = true := gg ⟨28, .data⟩ (by simp) (by rfl)
      have t27 : l27 = true := gg ⟨27, .chain⟩ (by simp) (by rfl)
      have t16 : l16 = true := gg ⟨16, .guard⟩ (by simp) (by rfl)
      clear ff gg
      subst t28 t27 t16
      subst f0
      simp only [cond_true, cond_false]
      go_simp
      go_at_call 24
      with_reducible refine (Osb.out _).mono ?_
      rintro e w' ⟨vn, rfl, hv, hb⟩
      exact hK _ _ ⟨l0, l1, l2, l3, l4, l5, l6, l7, l8, l9, l10, l11, l12, l13, l14, l15, true, l17, l18, l19, l20, l21, l22, l23, l24, l25, l26, true, true, true, l30, l31, l32, l33, l34, _, v1, v3, v5, v7, v8, v10, v12, v13, v14, v18, v20, v22, v24, v25, v27, vn, v30, v31, rfl, (by kernel_rfl), bl_step hb hu, (fun t => (hx1 t).below hb), (fun t => (hx3 t).below hb), (fun t => (hx5 t).below hb), (fun t => (hx7 t).below hb), (fun t => (hx8 t).below hb), (fun t => (hx10 t).below hb), (fun t => (hx12 t).below hb), (fun t => (hx13 t).below hb), (fun t => (hx14 t).below hb), (fun t => (hx18 t).below hb), (fun t => (hx20 t).below hb), (fun t => (hx22 t).below hb), (fun t => (hx24 t).below hb), (fun t => (hx25 t).below hb), (fun t => (hx27 t).below hb), (fun _ => hv), (fun t => (hx30 t).below hb), (fun t => (hx31 t).below hb), rfl⟩
    case s30 =>
      intro ff gg KK hK
      have f0 : l30 = false := ff
      subst hv
      have t27 : l27 = true := gg ⟨27, .data⟩ (by simp) (by rfl)
      have t29 : l29 = true := gg ⟨29, .data⟩ (by simp) (by rfl)
      have t16 : l16 = true := gg ⟨16, .guard⟩ (by simp) (by rfl)
      clear ff gg
      subst t27 t29 t16
      subst f0
      simp only [cond_true, cond_false]
      go_simp
      go_at_call 23
      with_reducible refine (T6.out _ _ _ (hx27 rfl) (hx29 rfl)).mono ?_
      rintro e w' ⟨vn, rfl, hv, hb⟩
      exact hK _ _ ⟨l0, l1, l2, l3, l4, l5, l6, l7, l8, l9, l10, l11, l12, l13, l14, l15, true, l17, l18, l19, l20, l21, l22, l23, l24, l25, l26, true, l28, true, true, l31, l32, l33, l34, _, v1, v3, v5, v7, v8, v10, v12, v13, v14, v18, v20, v22, v24, v25, v27, v29, vn, v31, rfl, (by kernel_rfl), bl_step hb hu, (fun t => (hx1 t).below hb), (fun t => (hx3 t).below hb), (fun t => (hx5 t).below hb), (fun t => (hx7 t).below hb), (fun t => (hx8 t).below hb), (fun t => (hx10 t).below hb), (fun t => (hx12 t).below hb), (fun t => (hx13 t).below hb), (fun t => (hx14 t).below hb), (fun t => (hx18 t).below hb), (fun t => (hx20 t).below hb), (fun t => (hx22 t).below hb), (fun t => (hx24 t).below hb), (fun t => (hx25 t).below hb), (fun t => (hx27 t).below hb), (fun t => (hx29 t).below hb), (fun _ => hv), (fun t => (hx31 t).below hb), rfl⟩
    case s31 =>
      intro ff gg KK hK
      have f0 : l31 = false := ff
      subst hv
      have t25 : l25 = true := gg ⟨25, .data⟩ (by simp) (by rfl)
      have t30 : l30 = true := gg ⟨30, .data⟩ (by simp) (by rfl)
      have t16 : l16 = true := gg ⟨16, .guard⟩ (by simp) (by rfl)
      clear ff gg
      subst t25 t30 t16
      subst f0
      simp only [cond_true, cond_false]
      go_simp
      go_at_call 26
      with_reducible refine (MI.out _ _ _ (hx25 rfl) (hx30 rfl)).mono ?_
      rintro e w' ⟨vn, rfl, hv, hb⟩
      exact hK _ _ ⟨l0, l1, l2, l3, l4, l5, l6, l7, l8, l9, l10, l11, l12, l13, l14, l15, true, l17, l18, l19, l20, l21, l22, l23, l24, true, l26, l27, l28, l29, true, true, l32, l33, l34, _, v1, v3, v5, v7, v8, v10, v12, v13, v14, v18, v20, v22, v24, v25, v27, v29, v30, vn, rfl, (by kernel_rfl), bl_step hb hu, (fun t => (hx1 t).below hb), (fun t => (hx3 t).below hb), (fun t => (hx5 t).below hb), (fun t => (hx7 t).below hb), (fun t => (hx8 t).below hb), (fun t => (hx10 t).below hb), (fun t => (hx12 t).below hb), (fun t => (hx13 t).below hb), (fun t => (hx14 t).below hb), (fun t => (hx18 t).below hb), (fun t => (hx20 t).below hb), (fun t => (hx22 t).below hb), (fun t => (hx24 t).below hb), (fun t => (hx25 t).below hb), (fun t => (hx27 t).below hb), (fun t => (hx29 t).below hb), (fun t => (hx30 t).below hb), (fun _ => hv), rfl⟩
    case s32 =>
      intro ff gg KK hK
      have f0 : l32 = false := ff
      subst hv
      have t20 : l20 = true := gg ⟨20, .data⟩ (by simp) (by rfl)
      have t31 : l31 = true := gg ⟨31, .data⟩ (by simp) (by rfl)
      have t16 : l16 = true := gg ⟨16, .guard⟩ (by simp) (by rfl)
      clear ff gg
      subst t20 t31 t16
      subst f0
      simp only [cond_true, cond_false]
      go_simp
      go_at_call 22
      with_reducible refine (M2.out _ _ _ (hx20 rfl) (hx31 rfl)).mono ?_
      rintro e w' ⟨rfl, hb⟩
      exact hK _ _ ⟨l0, l1, l2, l3, l4, l5, l6, l7, l8, l9, l10, l11, l12, l13, l14, l15, true, l17, l18, l19, true, l21, l22, l23, l24, l25, l26, l27, l28, l29, l30, true, true, l33, l34, _, v1, v3, v5, v7, v8, v10, v12, v13, v14, v18, v20, v22, v24, v25, v27, v29, v30, v31, rfl, (by kernel_rfl), bl_step hb hu, (fun t => (hx1 t).below hb), (fun t => (hx3 t).below hb), (fun t => (hx5 t).below hb), (fun t => (hx7 t).below hb), (fun t => (hx8 t).below hb), (fun t => (hx10 t).below hb), (fun t => (hx12 t).below hb), (fun t => (hx13 t).below hb), (fun t => (hx14 t).below hb), (fun t => (hx18 t).below hb), (fun t => (hx20 t).below hb), (fun t => (hx22 t).below hb), (fun t => (hx24 t).below hb), (fun t => (hx25 t).below hb), (fun t => (hx27 t).below hb), (fun t => (hx29 t).below hb), (fun t => (hx30 t).below hb), (fun t => (hx31 t).below hb), rfl⟩
    case s33 =>
      intro ff gg KK hK
      have f0 : l33 = false := ff
      subst hv
      have t16 : l16 = true := gg ⟨16, .data⟩ (by simp) (by rfl)
      have t32 : l32 = true := gg ⟨32, .data⟩ (by simp) (by rfl)
      clear ff gg
      subst t16 t32
      subst f0
      simp only [cond_true, cond_false]
      go_simp
      exact hK _ _ ⟨l0, l1, l2, l3, l4, l5, l6, l7, l8, l9, l10, l11, l12, l13, l14, l15, true, l17, l18, l19, l20, l21, l22, l23, l24, l25, l26, l27, l28, l29, l30, l31, true, true, l34, _, v1, v3, v5, v7, v8, v10, v12, v13, v14, v18, v20, v22, v24, v25, v27, v29, v30, v31, rfl, (by kernel_rfl), hu, hx1, hx3, hx5, hx7, hx8, hx10, hx12, hx13, hx14, hx18, hx20, hx22, hx24, hx25, hx27, hx29, hx30, hx31, rfl⟩
    case s34 =>
      intro ff gg KK hK
      have f0 : l34 = false := ff
      subst hv
      have t33 : l33 = true := gg ⟨33, .data⟩ (by simp) (by rfl)
      clear ff gg
      subst t33
      subst f0
      simp only [cond_true, cond_false]
      go_simp
      exact hK _ _ ⟨l0, l1, l2, l3, l4, l5, l6, l7, l8, l9, l10, l11, l12, l13, l14, l15, l16, l17, l18, l19, l20, l21, l22, l23, l24, l25, l26, l27, l28, l29, l30, l31, l32, true, true, _, v1, v3, v5, v7, v8, v10, v12, v13, v14, v18, v20, v22, v24, v25, v27, v29, v30, v31, rfl, (by kernel_rfl), hu, hx1, hx3, hx5, hx7, hx8, hx10, hx12, hx13, hx14, hx18, hx20, hx22, hx24, hx25, hx27, hx29, hx30, hx31, rfl⟩
  case hdone =>
    intro LL aa vv h hd
    obtain ⟨l0, h⟩ := h
    obtain ⟨l1, h⟩ := h
    obtain ⟨l2, h⟩ := h
    obtain ⟨l3, h⟩ := h
    obtain ⟨l4, h⟩ := h
    obtain ⟨l5, h⟩ := h
    obtain ⟨l6, h⟩ := h
    obtain ⟨l7, h⟩ := h
    obtain ⟨l8, h⟩ := h
    obtain ⟨l9, h⟩ := h
    obtain ⟨l10, h⟩ := h
    obtain ⟨l11, h⟩ := h
    obtain ⟨l12, h⟩ := h
    obtain ⟨l13, h⟩ := h
    obtain ⟨l14, h⟩ := h
    obtain ⟨l15, h⟩ := h
    obtain ⟨l16, h⟩ := h
    obtain ⟨l17, h⟩ := h
    obtain ⟨l18, h⟩ := h
    obtain ⟨l19, h⟩ := h
    obtain ⟨l20, h⟩ := h
    obtain ⟨l21, h⟩ := h
    obtain ⟨l22, h⟩ := h
    obtain ⟨l23, h⟩ := h
    obtain ⟨l24, h⟩ := h
    obtain ⟨l25, h⟩ := h
    obtain ⟨l26, h⟩ := h
    obtain ⟨l27, h⟩ := h
    obtain ⟨l28, h⟩ := h
    obtain ⟨l29, h⟩ := h
    obtain ⟨l30, h⟩ := h
    obtain ⟨l31, h⟩ := h
    obtain ⟨l32, h⟩ := h
    obtain ⟨l33, h⟩ := h
    obtain ⟨l34, h⟩ := h
    obtain ⟨uu, h⟩ := h
    obtain ⟨v1, h⟩ := h
    obtain ⟨v3, h⟩ := h
    obtain ⟨v5, h⟩ := h
    obtain ⟨v7, h⟩ := h
    obtain ⟨v8, h⟩ := h
    obtain ⟨v10, h⟩ := h
    obtain ⟨v12, h⟩ := h
    obtain ⟨v13, h⟩ := h
    obtain ⟨v14, h⟩ := h
    obtain ⟨v18, h⟩ := h
    obtain ⟨v20, h⟩ := h
    obtain ⟨v22, h⟩ := h
    obtain ⟨v24, h⟩ := h
    obtain ⟨v25, h⟩ := h
    obtain ⟨v27, h⟩ := h
    obtain ⟨v29, h⟩ := h
    obtain ⟨v30, h⟩ := h
    obtain ⟨v31, h⟩ := h
    obtain ⟨hL, h⟩ := h
    obtain ⟨ha, h⟩ := h
    obtain ⟨hu, h⟩ := h
    obtain ⟨hx1, h⟩ := h
    obtain ⟨hx3, h⟩ := h
    obtain ⟨hx5, h⟩ := h
    obtain ⟨hx7, h⟩ := h
    obtain ⟨hx8, h⟩ := h
    obtain ⟨hx10, h⟩ := h
    obtain ⟨hx12, h⟩ := h
    obtain ⟨hx13, h⟩ := h
    obtain ⟨hx14, h⟩ := h
    obtain ⟨hx18, h⟩ := h
    obtain ⟨hx20, h⟩ := h
    obtain ⟨hx22, h⟩ := h
    obtain ⟨hx24, h⟩ := h
    obtain ⟨hx25, h⟩ := h
    obtain ⟨hx27, h⟩ := h
    obtain ⟨hx29, h⟩ := h
    obtain ⟨hx30, h⟩ := h
    obtain ⟨hx31, hv⟩ := h
    rw [hL] at hd
    have t0 : l0 = true := hd 0 (by decide)
    have t1 : l1 = true := hd 1 (by decide)
    have t2 : l2 = true := hd 2 (by decide)
    have t3 : l3 = true := hd 3 (by decide)
    have t4 : l4 = true := hd 4 (by decide)
    have t5 : l5 = true := hd 5 (by decide)
    have t6 : l6 = true := hd 6 (by decide)
    have t7 : l7 = true := hd 7 (by decide)
    have t8 : l8 = true := hd 8 (by decide)
    have t9 : l9 = true := hd 9 (by decide)
    have t10 : l10 = true := hd 10 (by decide)
    have t11 : l11 = true := hd 11 (by decide)
    have t12 : l12 = true := hd 12 (by decide)
    have t13 : l13 = true := hd 13 (by decide)
    have t14 : l14 = true := hd 14 (by decide)
    have t15 : l15 = true := hd 15 (by decide)
    have t16 : l16 = true := hd 16 (by decide)
    have t17 : l17 = true := hd 17 (by decide)
    have t18 : l18 = true := hd 18 (by decide)
    have t19 : l19 = true := hd 19 (by decide)
    have t20 : l20 = true := hd 20 (by decide)
    have t21 : l21 = true := hd 21 (by decide)
    have t22 : l22 = true := hd 22 (by decide)
    have t23 : l23 = true := hd 23 (by decide)
    have t24 : l24 = true := hd 24 (by decide)
    have t25 : l25 = true := hd 25 (by decide)
    have t26 : l26 = true := hd 26 (by decide)
    have t27 : l27 = true := hd 27 (by decide)
    have t28 : l28 = true := hd 28 (by decide)
    have t29 : l29 = true := hd 29 (by decide)
    have t30 : l30 = true := hd 30 (by decide)
    have t31 : l31 = true := hd 31 (by decide)
    have t32 : l32 = true := hd 32 (by decide)
    have t33 : l33 = true := hd 33 (by decide)
    have t34 : l34 = true := hd 34 (by decide)
    clear hd hL
    subst t0 t1 t2 t3 t4 t5 t6 t7 t8 t9 t10 t11 t12 t13 t14 t15 t16 t17 t18 t19 t20 t21 t22 t23 t24 t25 t26 t27 t28 t29 t30 t31 t32 t33 t34
    simp only [cond_true, List.take_succ_cons, List.take_zero, List.cons_append, List.nil_append, List.drop_succ_cons, List.drop_zero, List.set_cons_zero, List.set_cons_succ] at ha
    subst ha
    subst hv
    replace hx1 := hx1 rfl
    replace hx3 := hx3 rfl
    replace hx5 := hx5 rfl
    replace hx7 := hx7 rfl
    replace hx8 := hx8 rfl
    replace hx10 := hx10 rfl
    replace hx12 := hx12 rfl
    replace hx13 := hx13 rfl
    replace hx14 := hx14 rfl
    replace hx18 := hx18 rfl
    replace hx20 := hx20 rfl
    replace hx22 := hx22 rfl
    replace hx24 := hx24 rfl
    replace hx25 := hx25 rfl
    replace hx27 := hx27 rfl
    replace hx29 := hx29 rfl
    replace hx30 := hx30 rfl
    replace hx31 := hx31 rfl
    clear hx1 hx3 hx5 hx7 hx8 hx10 hx12 hx13 hx14 hx18 hx20 hx22 hx24 hx25 hx27 hx29 hx30 hx31
    have hw10 : Below w.heap.size w vv := bl_step hu hw9
    go_wp2
    go_ret
    exact ⟨rfl, by (repeat (first | (with_reducible exact Below.refl _ _) | (with_reducible refine Below.setCell ?_ (by (first | (simp; done) | (simp; omega) | omega)) _) | (with_reducible refine bl_alloc ?_ _) | (with_reducible refine bl_drewN ?_) | (with_reducible refine bl_drew ?_) | (with_reducible refine bl_step (by assumption) ?_)))⟩

theorem pw9_of {x : Int} (h0 : -1073741824 ≤ x) (h1 : x ≤ 1073741824) : x.natAbs < pw 9 := by
  have e : pw 9 = pw 2 * pw 7 := pw_add 2 7
  have p : 0 < pw 7 := pw_pos 7
  have e2 : pw 2 = 72057594037927936 := by decide
  rw [e, e2]
  have : 72057594037927936 * 1 ≤ 72057594037927936 * pw 7 := Nat.mul_le_mul_left _ p
  omega
theorem mul_pw18 {x y : Int} (hx : -1073741824 ≤ x ∧ x ≤ 1073741824) (hy : -1073741824 ≤ y ∧ y ≤ 1073741824) : (x * y).natAbs < pw 18 := prod_pw (pw9_of hx.1 hx.2) (pw9_of hy.1 hy.2)
theorem mn_pw18 {x1 x2 y1 y2 : Int} (hx : (-1073741824 ≤ x1 ∧ x1 ≤ 1073741824) ∧ -1073741824 ≤ x2 ∧ x2 ≤ 1073741824) (hy : (-1073741824 ≤ y1 ∧ y1 ≤ 1073741824) ∧ -1073741824 ≤ y2 ∧ y2 ≤ 1073741824) :
    (mnF (x1 * y1) (x1 * y2) (x2 * y1) (x2 * y2) 4).natAbs < pw 18 ∧ (mxF (x1 * y1) (x1 * y2) (x2 * y1) (x2 * y2) 4).natAbs < pw 18 := by
  have h1 := mul_pw18 hx.1 hy.1
  have h2 := mul_pw18 hx.1 hy.2
  have h3 := mul_pw18 hx.2 hy.1
  have h4 := mul_pw18 hx.2 hy.2
  generalize pw 18 = M at *
  simp only [mnF, mxF]
  omega
theorem lt_pw20 {x : Nat} (h : x < pw 18) : x < pw 20 := Nat.lt_of_lt_of_le h (pw_le (by decide))
theorem lt18_30 {x : Nat} (h : x < pw 18) : x < pw 30 := Nat.lt_of_lt_of_le h (pw_le (by decide))
theorem add18_30 {x y : Int} (hx : x.natAbs < pw 18) (hy : y.natAbs < pw 18) : (x + y).natAbs < pw 30 := Nat.lt_of_lt_of_le (abs_add_pw (lt_pw20 hx) (lt_pw20 hy)) (pw_le (by decide))
/-- the bounds of the sine of one angle, as a box -/
theorem bl_bd (n : Int) : (-1073741824 ≤ bLo n ∧ bLo n ≤ 1073741824) ∧ -1073741824 ≤ bHi n ∧ bHi n ≤ 1073741824 := by have := b_bd n; omega
theorem one_bd : (-1073741824 ≤ (1073741824 : Int) ∧ (1073741824 : Int) ≤ 1073741824) ∧ -1073741824 ≤ (1073741824 : Int) ∧ (1073741824 : Int) ≤ 1073741824 := by omega
theorem times_b {x1 x2 y1 y2 : Int} (hx : (-1073741824 ≤ x1 ∧ x1 ≤ 1073741824) ∧ -1073741824 ≤ x2 ∧ x2 ≤ 1073741824) (hy : (-1073741824 ≤ y1 ∧ y1 ≤ 1073741824) ∧ -1073741824 ≤ y2 ∧ y2 ≤ 1073741824) :
    Hid (∀ (w : World) (u v : Value), BoxV w x1 x2 u → BoxV w y1 y2 v → Calls Try.prog 23 #[u, v] w (BoxR w (mnF (x1 * y1) (x1 * y2) (x2 * y1) (x2 * y2) 4) (mxF (x1 * y1) (x1 * y2) (x2 * y1) (x2 * y2) 4))) :=
  hidden fun w u v g h => times_v u v x1 x2 y1 y2 w g h (pw9_of hx.1.1 hx.1.2) (pw9_of hx.2.1 hx.2.2) (pw9_of hy.1.1 hy.1.2) (pw9_of hy.2.1 hy.2.2)
theorem of_b {x1 x2 : Int} (hx : (-1073741824 ≤ x1 ∧ x1 ≤ 1073741824) ∧ -1073741824 ≤ x2 ∧ x2 ≤ 1073741824) : Hid (∀ w, Calls Try.prog 24 #[.agg #[.int .i64 (x1), .int .i64 (x2)]] w (BoxR w x1 x2)) :=
  hidden fun w => of_v x1 x2 w (by omega) (by omega) (by omega) (by omega)
/-- the unit's product -/
theorem unit_mn (x y : Int) (h : x ≤ y) : mnF (x * 1073741824) (x * 1073741824) (y * 1073741824) (y * 1073741824) 4 = x * 1073741824 ∧ mxF (x * 1073741824) (x * 1073741824) (y * 1073741824) (y * 1073741824) 4 = y * 1073741824 := by
  simp only [mnF, mxF]; omega

theorem sums_walk (a b : Int) (w : World) (_ba : -9223372036854775808 ≤ a ∧ a ≤ 9223372036854775807) (_bb : -9223372036854775808 ≤ b ∧ b ≤ 9223372036854775807) :
    Calls Try.prog 6 #[.int .i64 a, .int .i64 b] w fun e w' => e = .returned (.bool true) ∧ Below w.heap.size w w' := by
  by_cases h1 : a < -274877906944
  · exact sums_out1 a b w h1
  by_cases h2 : 274877906944 < a
  · exact sums_out2 a b w h1 h2
  by_cases h3 : b < -274877906944
  · exact sums_out3 a b w h1 h2 h3
  by_cases h4 : 274877906944 < b
  · exact sums_out4 a b w h1 h2 h3 h4
  have sn : ∀ n : Int, -549755813888 ≤ n → n ≤ 549755813888 → Hid (∀ w, Calls Try.prog 13 #[.agg #[.int .i64 (n), .int .i64 (n)]] w fun e w' => e = .returned (.tuple #[.agg #[.int .i64 (bLo n), .int .i64 (bHi n)], .int .i64 (0)]) ∧ Below w.heap.size w w') := fun n h0 h1 => hidden fun w => by
    have S := sin_ok n n w (arcV_mk (by omega))
    rw [(enc_point n).1, (enc_point n).2] at S
    exact S
  have cs : ∀ n : Int, -549755813888 ≤ n → n ≤ 549755813888 → Hid (∀ w, Calls Try.prog 14 #[.agg #[.int .i64 (n), .int .i64 (n)]] w fun e w' => e = .returned (.tuple #[.agg #[.int .i64 (bLo (n + 5400000)), .int .i64 (bHi (n + 5400000))], .int .i64 (0)]) ∧ Below w.heap.size w w') := fun n h0 h1 => hidden fun w => by
    have S := cos_ok n n w (arcV_mk (by omega))
    rw [(enc_point (n + 5400000)).1, (enc_point (n + 5400000)).2] at S
    exact S
  have f1 := sums_sin a b
  have f2 := sums_cos a b
  have u1 := unit_mn _ _ (b_bd (a + b)).2.1
  have u2 := unit_mn _ _ (b_bd (a + b + 5400000)).2.1
  refine sums_in a b _ _ _ _ _ _ _ _ _ _ _ _ _ _ _ _ _ _ _ _ _ _ _ _ _ _ _ _ w (by omega) (by omega) (by omega) (by omega) (sn a (by omega) (by omega)) (cs a (by omega) (by omega)) (sn b (by omega) (by omega)) (cs b (by omega) (by omega)) (sn (a + b) (by omega) (by omega)) (cs (a + b) (by omega) (by omega))
    (hidden fun w => (one_v _ w (by omega) (by omega)).mono fun _ _ => boxX_of) (of_b (bl_bd _)) (of_b (bl_bd _)) (of_b (bl_bd _)) (of_b (bl_bd _)) (of_b (bl_bd _)) (of_b (bl_bd _))
    (times_b (bl_bd _) one_bd) (times_b (bl_bd _) (bl_bd _)) (times_b (bl_bd _) (bl_bd _)) (hidden fun w u v g h => plus_v u v _ _ _ _ w g h (lt_pw20 (mn_pw18 (bl_bd _) (bl_bd _)).1) (lt_pw20 (mn_pw18 (bl_bd _) (bl_bd _)).2) (lt_pw20 (mn_pw18 (bl_bd _) (bl_bd _)).1) (lt_pw20 (mn_pw18 (bl_bd _) (bl_bd _)).2))
    (hidden fun w u v g h => meet_v u v _ _ _ _ w g h (lt18_30 (mn_pw18 (bl_bd _) one_bd).1) (lt18_30 (mn_pw18 (bl_bd _) one_bd).2) (add18_30 (mn_pw18 (bl_bd _) (bl_bd _)).1 (mn_pw18 (bl_bd _) (bl_bd _)).1) (add18_30 (mn_pw18 (bl_bd _) (bl_bd _)).2 (mn_pw18 (bl_bd _) (bl_bd _)).2) (by rw [u1.1]; exact f1.1) (by rw [u1.2]; exact f1.2))
    (times_b (bl_bd _) one_bd) (times_b (bl_bd _) (bl_bd _)) (times_b (bl_bd _) (bl_bd _)) (hidden fun w u v g h => minus_v u v _ _ _ _ w g h (lt_pw20 (mn_pw18 (bl_bd _) (bl_bd _)).1) (lt_pw20 (mn_pw18 (bl_bd _) (bl_bd _)).2) (lt_pw20 (mn_pw18 (bl_bd _) (bl_bd _)).1) (lt_pw20 (mn_pw18 (bl_bd _) (bl_bd _)).2))
    (hidden fun w u v g h => meet_v u v _ _ _ _ w g h (lt18_30 (mn_pw18 (bl_bd _) one_bd).1) (lt18_30 (mn_pw18 (bl_bd _) one_bd).2) (add18_30 (mn_pw18 (bl_bd _) (bl_bd _)).1 (by rw [Int.natAbs_neg]; exact (mn_pw18 (bl_bd _) (bl_bd _)).2)) (add18_30 (mn_pw18 (bl_bd _) (bl_bd _)).2 (by rw [Int.natAbs_neg]; exact (mn_pw18 (bl_bd _) (bl_bd _)).1)) (by rw [u2.1]; exact f2.1) (by rw [u2.2]; exact f2.2))

end Go.Proofs.Ytoagcbamlnhkhaa
