/- LinesForms: Valid and Of return what the reference returns. -/
import Derived.Test.YtjceofmhodcefaaLinC
import Derived.Test.YtjceofmhodcefaaLinD
import Derived.Test.YtjceofmhodcefaaLinB
namespace Go.Proofs.Ytjceofmhodcefaa
open Go.RowKit

set_option maxRecDepth 100000 in
set_option maxHeartbeats 4000000 in
theorem forms_bad (p0 p1 h0 h1 z0 z1 o0 o1 c d a b p q x0 x1 x2 x3 x4 x5 k : Int) (v : Bool) (w : World)  (hk : (k != 0) = true)
    (AW : Hid (∀ w, Calls Try.prog 6 #[] w fun e w' => e = .returned (.bool true) ∧ Below w.heap.size w w'))
    (CO : Hid (∀ w, Calls Try.prog 17 #[.agg #[.int .i64 (p0), .int .i64 (p1)], .agg #[.int .i64 h0, .int .i64 h1, .int .i64 z0, .int .i64 z1], .agg #[.int .i64 (o0), .int .i64 (o1)]] w fun e w' => e = .returned (.tuple #[.agg #[.int .i64 x0, .int .i64 x1, .int .i64 x2, .int .i64 x3, .int .i64 x4, .int .i64 x5], .int .i64 k]) ∧ Below w.heap.size w w'))
    (RO : Hid (∀ w, Calls Try.prog 18 #[.agg #[.int .i64 (p0), .int .i64 (p1)], .agg #[.int .i64 h0, .int .i64 h1, .int .i64 z0, .int .i64 z1], .agg #[.int .i64 (o0), .int .i64 (o1)]] w fun e w' => e = .returned (.tuple #[.agg #[.int .i64 x0, .int .i64 x1, .int .i64 x2, .int .i64 x3, .int .i64 x4, .int .i64 x5], .int .i64 k]) ∧ Below w.heap.size w w'))
    (V : Hid (∀ w, Calls Try.prog 19 #[.agg #[.int .i64 c, .int .i64 d, .int .i64 a, .int .i64 b, .int .i64 p, .int .i64 q]] w fun e w' => e = .returned (.bool v) ∧ Below w.heap.size w w'))
    (RV : Hid (∀ w, Calls Try.prog 7 #[.agg #[.int .i64 c, .int .i64 d, .int .i64 a, .int .i64 b, .int .i64 p, .int .i64 q]] w fun e w' => e = .returned (.bool v) ∧ Below w.heap.size w w'))
    : Calls Try.prog 5 #[.agg #[.int .i64 (p0), .int .i64 (p1)], .agg #[.int .i64 h0, .int .i64 h1, .int .i64 z0, .int .i64 z1], .agg #[.int .i64 (o0), .int .i64 (o1)], .agg #[.int .i64 c, .int .i64 d, .int .i64 a, .int .i64 b, .int .i64 p, .int .i64 q]] w fun e w' => e = .returned (.bool true) ∧ Below w.heap.size w w' := by
  go_enter Try.func5, Try.ntmps5
  go_wp2_with (first | (go_at_call 6; ((with_reducible refine (AW.out _).mono ?_); rintro e w' ⟨rfl, hb⟩); (try replace hb := below_undrew hb); (try replace hb := below_undrewN hb); obtain ⟨hcell, hfroz⟩ := bcell hb; have hz := hb.size; (try simp at hz); (try (have z6 := Nat.lt_of_lt_of_le z7 hz)); (try (have z7 := Nat.lt_of_lt_of_le z8 hz)); (try (have z8 := Nat.lt_of_lt_of_le z9 hz)); (try (have z9 := Nat.lt_of_lt_of_le (Nat.lt_succ_self _) hz)); (try (have z0 : w.heap.size < w'.heap.size := by omega)); (try (have z1 : w.heap.size + 1 < w'.heap.size := by omega)); (try (have z2 : w.heap.size + 1 + 1 < w'.heap.size := by omega)); (try (have z3 : w.heap.size + 1 + 1 + 1 < w'.heap.size := by omega)); (try (have y1 : w1.heap.size < w'.heap.size := by omega)); (try (have y2 : w2.heap.size < w'.heap.size := by omega)); (try (have y3 : w3.heap.size < w'.heap.size := by omega)); (try (have y4 : w4.heap.size < w'.heap.size := by omega)); (try (have y5 : w5.heap.size < w'.heap.size := by omega)); (try (have y6 : w6.heap.size < w'.heap.size := by omega)); (try (have x1 : w1.heap.size + 1 < w'.heap.size := by omega)); (try (have x2 : w2.heap.size + 1 < w'.heap.size := by omega)); (try (have x3 : w3.heap.size + 1 < w'.heap.size := by omega)); (try (have x4 : w4.heap.size + 1 < w'.heap.size := by omega)); (try (have x5 : w5.heap.size + 1 < w'.heap.size := by omega)); (try (have x6 : w6.heap.size + 1 < w'.heap.size := by omega)); (try (have y7 : w7.heap.size < w'.heap.size := by omega)); (try (have y8 : w8.heap.size < w'.heap.size := by omega)); (try (have y9 : w9.heap.size < w'.heap.size := by omega)); (try (have z10 : w1.heap.size < w'.heap.size + 1 := by omega)); (try (have z20 : w2.heap.size < w'.heap.size + 1 := by omega)); (try (have z30 : w3.heap.size < w'.heap.size + 1 := by omega)); (try (have z40 : w4.heap.size < w'.heap.size + 1 := by omega)); (try (have z50 : w5.heap.size < w'.heap.size + 1 := by omega)); (try (have z60 : w6.heap.size < w'.heap.size + 1 := by omega)); (try (have z70 : w7.heap.size < w'.heap.size + 1 := by omega)); (try (have z80 : w8.heap.size < w'.heap.size + 1 := by omega)); obtain ⟨w1, rfl⟩ : ∃ v, v = w' := ⟨_, rfl⟩) | (go_at_call 17; ((with_reducible refine (CO.out _).mono ?_); rintro e w' ⟨rfl, hb⟩); (try replace hb := below_undrew hb); (try replace hb := below_undrewN hb); obtain ⟨hcell, hfroz⟩ := bcell hb; have hz := hb.size; (try simp at hz); (try (have z6 := Nat.lt_of_lt_of_le z7 hz)); (try (have z7 := Nat.lt_of_lt_of_le z8 hz)); (try (have z8 := Nat.lt_of_lt_of_le z9 hz)); (try (have z9 := Nat.lt_of_lt_of_le (Nat.lt_succ_self _) hz)); (try (have z0 : w.heap.size < w'.heap.size := by omega)); (try (have z1 : w.heap.size + 1 < w'.heap.size := by omega)); (try (have z2 : w.heap.size + 1 + 1 < w'.heap.size := by omega)); (try (have z3 : w.heap.size + 1 + 1 + 1 < w'.heap.size := by omega)); (try (have y1 : w1.heap.size < w'.heap.size := by omega)); (try (have y2 : w2.heap.size < w'.heap.size := by omega)); (try (have y3 : w3.heap.size < w'.heap.size := by omega)); (try (have y4 : w4.heap.size < w'.heap.size := by omega)); (try (have y5 : w5.heap.size < w'.heap.size := by omega)); (try (have y6 : w6.heap.size < w'.heap.size := by omega)); (try (have x1 : w1.heap.size + 1 < w'.heap.size := by omega)); (try (have x2 : w2.heap.size + 1 < w'.heap.size := by omega)); (try (have x3 : w3.heap.size + 1 < w'.heap.size := by omega)); (try (have x4 : w4.heap.size + 1 < w'.heap.size := by omega)); (try (have x5 : w5.heap.size + 1 < w'.heap.size := by omega)); (try (have x6 : w6.heap.size + 1 < w'.heap.size := by omega)); (try (have y7 : w7.heap.size < w'.heap.size := by omega)); (try (have y8 : w8.heap.size < w'.heap.size := by omega)); (try (have y9 : w9.heap.size < w'.heap.size := by omega)); (try (have z10 : w1.heap.size < w'.heap.size + 1 := by omega)); (try (have z20 : w2.heap.size < w'.heap.size + 1 := by omega)); (try (have z30 : w3.heap.size < w'.heap.size + 1 := by omega)); (try (have z40 : w4.heap.size < w'.heap.size + 1 := by omega)); (try (have z50 : w5.heap.size < w'.heap.size + 1 := by omega)); (try (have z60 : w6.heap.size < w'.heap.size + 1 := by omega)); (try (have z70 : w7.heap.size < w'.heap.size + 1 := by omega)); (try (have z80 : w8.heap.size < w'.heap.size + 1 := by omega)); obtain ⟨w2, rfl⟩ : ∃ v, v = w' := ⟨_, rfl⟩) | (go_at_call 18; ((with_reducible refine (RO.out _).mono ?_); rintro e w' ⟨rfl, hb⟩); (try replace hb := below_undrew hb); (try replace hb := below_undrewN hb); obtain ⟨hcell, hfroz⟩ := bcell hb; have hz := hb.size; (try simp at hz); (try (have z6 := Nat.lt_of_lt_of_le z7 hz)); (try (have z7 := Nat.lt_of_lt_of_le z8 hz)); (try (have z8 := Nat.lt_of_lt_of_le z9 hz)); (try (have z9 := Nat.lt_of_lt_of_le (Nat.lt_succ_self _) hz)); (try (have z0 : w.heap.size < w'.heap.size := by omega)); (try (have z1 : w.heap.size + 1 < w'.heap.size := by omega)); (try (have z2 : w.heap.size + 1 + 1 < w'.heap.size := by omega)); (try (have z3 : w.heap.size + 1 + 1 + 1 < w'.heap.size := by omega)); (try (have y1 : w1.heap.size < w'.heap.size := by omega)); (try (have y2 : w2.heap.size < w'.heap.size := by omega)); (try (have y3 : w3.heap.size < w'.heap.size := by omega)); (try (have y4 : w4.heap.size < w'.heap.size := by omega)); (try (have y5 : w5.heap.size < w'.heap.size := by omega)); (try (have y6 : w6.heap.size < w'.heap.size := by omega)); (try (have x1 : w1.heap.size + 1 < w'.heap.size := by omega)); (try (have x2 : w2.heap.size + 1 < w'.heap.size := by omega)); (try (have x3 : w3.heap.size + 1 < w'.heap.size := by omega)); (try (have x4 : w4.heap.size + 1 < w'.heap.size := by omega)); (try (have x5 : w5.heap.size + 1 < w'.heap.size := by omega)); (try (have x6 : w6.heap.size + 1 < w'.heap.size := by omega)); (try (have y7 : w7.heap.size < w'.heap.size := by omega)); (try (have y8 : w8.heap.size < w'.heap.size := by omega)); (try (have y9 : w9.heap.size < w'.heap.size := by omega)); (try (have z10 : w1.heap.size < w'.heap.size + 1 := by omega)); (try (have z20 : w2.heap.size < w'.heap.size + 1 := by omega)); (try (have z30 : w3.heap.size < w'.heap.size + 1 := by omega)); (try (have z40 : w4.heap.size < w'.heap.size + 1 := by omega)); (try (have z50 : w5.heap.size < w'.heap.size + 1 := by omega)); (try (have z60 : w6.heap.size < w'.heap.size + 1 := by omega)); (try (have z70 : w7.heap.size < w'.heap.size + 1 := by omega)); (try (have z80 : w8.heap.size < w'.heap.size + 1 := by omega)); obtain ⟨w3, rfl⟩ : ∃ v, v = w' := ⟨_, rfl⟩))
  refine wp_region_quiet_below (by kernel_rfl) (by kernel_rfl) ?_
  repeat (first | go_big_quiet_step (first | (with_reducible exact Calls.regrown_of (V.out _)) | (with_reducible exact Calls.regrown_of (RV.out _))) | quiet_step (first | (with_reducible exact Calls.regrown_of (V.out _)) | (with_reducible exact Calls.regrown_of (RV.out _))))
  refine wpQuiet_nil ?_; intro w' hw'; have hb := below_of_regrown hw'; clear hw'; (try replace hb := below_undrew hb); (try replace hb := below_undrewN hb); obtain ⟨hcell, hfroz⟩ := bcell hb; have hz := hb.size; (try simp at hz); (try (have z6 := Nat.lt_of_lt_of_le z7 hz)); (try (have z7 := Nat.lt_of_lt_of_le z8 hz)); (try (have z8 := Nat.lt_of_lt_of_le z9 hz)); (try (have z9 := Nat.lt_of_lt_of_le (Nat.lt_succ_self _) hz)); (try (have z0 : w.heap.size < w'.heap.size := by omega)); (try (have z1 : w.heap.size + 1 < w'.heap.size := by omega)); (try (have z2 : w.heap.size + 1 + 1 < w'.heap.size := by omega)); (try (have z3 : w.heap.size + 1 + 1 + 1 < w'.heap.size := by omega)); (try (have y1 : w1.heap.size < w'.heap.size := by omega)); (try (have y2 : w2.heap.size < w'.heap.size := by omega)); (try (have y3 : w3.heap.size < w'.heap.size := by omega)); (try (have y4 : w4.heap.size < w'.heap.size := by omega)); (try (have y5 : w5.heap.size < w'.heap.size := by omega)); (try (have y6 : w6.heap.size < w'.heap.size := by omega))
  go_wp2
  go_ret
  exact ⟨rfl, by (repeat (first | (with_reducible exact Below.refl _ _) | (with_reducible refine Below.setCell ?_ (by (first | (simp; done) | (simp; omega) | omega)) _) | (with_reducible refine bl_alloc ?_ _) | (with_reducible refine bl_drewN ?_) | (with_reducible refine bl_drew ?_) | (with_reducible refine bl_step (by assumption) ?_)))⟩
set_option maxRecDepth 100000 in
set_option maxHeartbeats 4000000 in
theorem forms_ok (p0 p1 h0 h1 z0 z1 o0 o1 c d a b p q x0 x1 x2 x3 x4 x5 : Int) (v : Bool) (w : World)
    (AW : Hid (∀ w, Calls Try.prog 6 #[] w fun e w' => e = .returned (.bool true) ∧ Below w.heap.size w w'))
    (CO : Hid (∀ w, Calls Try.prog 17 #[.agg #[.int .i64 (p0), .int .i64 (p1)], .agg #[.int .i64 h0, .int .i64 h1, .int .i64 z0, .int .i64 z1], .agg #[.int .i64 (o0), .int .i64 (o1)]] w fun e w' => e = .returned (.tuple #[.agg #[.int .i64 x0, .int .i64 x1, .int .i64 x2, .int .i64 x3, .int .i64 x4, .int .i64 x5], .int .i64 0]) ∧ Below w.heap.size w w'))
    (RO : Hid (∀ w, Calls Try.prog 18 #[.agg #[.int .i64 (p0), .int .i64 (p1)], .agg #[.int .i64 h0, .int .i64 h1, .int .i64 z0, .int .i64 z1], .agg #[.int .i64 (o0), .int .i64 (o1)]] w fun e w' => e = .returned (.tuple #[.agg #[.int .i64 x0, .int .i64 x1, .int .i64 x2, .int .i64 x3, .int .i64 x4, .int .i64 x5], .int .i64 0]) ∧ Below w.heap.size w w'))
    (V : Hid (∀ w, Calls Try.prog 19 #[.agg #[.int .i64 c, .int .i64 d, .int .i64 a, .int .i64 b, .int .i64 p, .int .i64 q]] w fun e w' => e = .returned (.bool v) ∧ Below w.heap.size w w'))
    (RV : Hid (∀ w, Calls Try.prog 7 #[.agg #[.int .i64 c, .int .i64 d, .int .i64 a, .int .i64 b, .int .i64 p, .int .i64 q]] w fun e w' => e = .returned (.bool v) ∧ Below w.heap.size w w'))
    (V2 : Hid (∀ w, Calls Try.prog 19 #[.agg #[.int .i64 x0, .int .i64 x1, .int .i64 x2, .int .i64 x3, .int .i64 x4, .int .i64 x5]] w fun e w' => e = .returned (.bool true) ∧ Below w.heap.size w w'))
    : Calls Try.prog 5 #[.agg #[.int .i64 (p0), .int .i64 (p1)], .agg #[.int .i64 h0, .int .i64 h1, .int .i64 z0, .int .i64 z1], .agg #[.int .i64 (o0), .int .i64 (o1)], .agg #[.int .i64 c, .int .i64 d, .int .i64 a, .int .i64 b, .int .i64 p, .int .i64 q]] w fun e w' => e = .returned (.bool true) ∧ Below w.heap.size w w' := by
  go_enter Try.func5, Try.ntmps5
  go_wp2_with (first | (go_at_call 6; ((with_reducible refine (AW.out _).mono ?_); rintro e w' ⟨rfl, hb⟩); (try replace hb := below_undrew hb); (try replace hb := below_undrewN hb); obtain ⟨hcell, hfroz⟩ := bcell hb; have hz := hb.size; (try simp at hz); (try (have z6 := Nat.lt_of_lt_of_le z7 hz)); (try (have z7 := Nat.lt_of_lt_of_le z8 hz)); (try (have z8 := Nat.lt_of_lt_of_le z9 hz)); (try (have z9 := Nat.lt_of_lt_of_le (Nat.lt_succ_self _) hz)); (try (have z0 : w.heap.size < w'.heap.size := by omega)); (try (have z1 : w.heap.size + 1 < w'.heap.size := by omega)); (try (have z2 : w.heap.size + 1 + 1 < w'.heap.size := by omega)); (try (have z3 : w.heap.size + 1 + 1 + 1 < w'.heap.size := by omega)); (try (have y1 : w1.heap.size < w'.heap.size := by omega)); (try (have y2 : w2.heap.size < w'.heap.size := by omega)); (try (have y3 : w3.heap.size < w'.heap.size := by omega)); (try (have y4 : w4.heap.size < w'.heap.size := by omega)); (try (have y5 : w5.heap.size < w'.heap.size := by omega)); (try (have y6 : w6.heap.size < w'.heap.size := by omega)); (try (have x1 : w1.heap.size + 1 < w'.heap.size := by omega)); (try (have x2 : w2.heap.size + 1 < w'.heap.size := by omega)); (try (have x3 : w3.heap.size + 1 < w'.heap.size := by omega)); (try (have x4 : w4.heap.size + 1 < w'.heap.size := by omega)); (try (have x5 : w5.heap.size + 1 < w'.heap.size := by omega)); (try (have x6 : w6.heap.size + 1 < w'.heap.size := by omega)); (try (have y7 : w7.heap.size < w'.heap.size := by omega)); (try (have y8 : w8.heap.size < w'.heap.size := by omega)); (try (have y9 : w9.heap.size < w'.heap.size := by omega)); (try (have z10 : w1.heap.size < w'.heap.size + 1 := by omega)); (try (have z20 : w2.heap.size < w'.heap.size + 1 := by omega)); (try (have z30 : w3.heap.size < w'.heap.size + 1 := by omega)); (try (have z40 : w4.heap.size < w'.heap.size + 1 := by omega)); (try (have z50 : w5.heap.size < w'.heap.size + 1 := by omega)); (try (have z60 : w6.heap.size < w'.heap.size + 1 := by omega)); (try (have z70 : w7.heap.size < w'.heap.size + 1 := by omega)); (try (have z80 : w8.heap.size < w'.heap.size + 1 := by omega)); obtain ⟨w1, rfl⟩ : ∃ v, v = w' := ⟨_, rfl⟩) | (go_at_call 17; ((with_reducible refine (CO.out _).mono ?_); rintro e w' ⟨rfl, hb⟩); (try replace hb := below_undrew hb); (try replace hb := below_undrewN hb); obtain ⟨hcell, hfroz⟩ := bcell hb; have hz := hb.size; (try simp at hz); (try (have z6 := Nat.lt_of_lt_of_le z7 hz)); (try (have z7 := Nat.lt_of_lt_of_le z8 hz)); (try (have z8 := Nat.lt_of_lt_of_le z9 hz)); (try (have z9 := Nat.lt_of_lt_of_le (Nat.lt_succ_self _) hz)); (try (have z0 : w.heap.size < w'.heap.size := by omega)); (try (have z1 : w.heap.size + 1 < w'.heap.size := by omega)); (try (have z2 : w.heap.size + 1 + 1 < w'.heap.size := by omega)); (try (have z3 : w.heap.size + 1 + 1 + 1 < w'.heap.size := by omega)); (try (have y1 : w1.heap.size < w'.heap.size := by omega)); (try (have y2 : w2.heap.size < w'.heap.size := by omega)); (try (have y3 : w3.heap.size < w'.heap.size := by omega)); (try (have y4 : w4.heap.size < w'.heap.size := by omega)); (try (have y5 : w5.heap.size < w'.heap.size := by omega)); (try (have y6 : w6.heap.size < w'.heap.size := by omega)); (try (have x1 : w1.heap.size + 1 < w'.heap.size := by omega)); (try (have x2 : w2.heap.size + 1 < w'.heap.size := by omega)); (try (have x3 : w3.heap.size + 1 < w'.heap.size := by omega)); (try (have x4 : w4.heap.size + 1 < w'.heap.size := by omega)); (try (have x5 : w5.heap.size + 1 < w'.heap.size := by omega)); (try (have x6 : w6.heap.size + 1 < w'.heap.size := by omega)); (try (have y7 : w7.heap.size < w'.heap.size := by omega)); (try (have y8 : w8.heap.size < w'.heap.size := by omega)); (try (have y9 : w9.heap.size < w'.heap.size := by omega)); (try (have z10 : w1.heap.size < w'.heap.size + 1 := by omega)); (try (have z20 : w2.heap.size < w'.heap.size + 1 := by omega)); (try (have z30 : w3.heap.size < w'.heap.size + 1 := by omega)); (try (have z40 : w4.heap.size < w'.heap.size + 1 := by omega)); (try (have z50 : w5.heap.size < w'.heap.size + 1 := by omega)); (try (have z60 : w6.heap.size < w'.heap.size + 1 := by omega)); (try (have z70 : w7.heap.size < w'.heap.size + 1 := by omega)); (try (have z80 : w8.heap.size < w'.heap.size + 1 := by omega)); obtain ⟨w2, rfl⟩ : ∃ v, v = w' := ⟨_, rfl⟩) | (go_at_call 18; ((with_reducible refine (RO.out _).mono ?_); rintro e w' ⟨rfl, hb⟩); (try replace hb := below_undrew hb); (try replace hb := below_undrewN hb); obtain ⟨hcell, hfroz⟩ := bcell hb; have hz := hb.size; (try simp at hz); (try (have z6 := Nat.lt_of_lt_of_le z7 hz)); (try (have z7 := Nat.lt_of_lt_of_le z8 hz)); (try (have z8 := Nat.lt_of_lt_of_le z9 hz)); (try (have z9 := Nat.lt_of_lt_of_le (Nat.lt_succ_self _) hz)); (try (have z0 : w.heap.size < w'.heap.size := by omega)); (try (have z1 : w.heap.size + 1 < w'.heap.size := by omega)); (try (have z2 : w.heap.size + 1 + 1 < w'.heap.size := by omega)); (try (have z3 : w.heap.size + 1 + 1 + 1 < w'.heap.size := by omega)); (try (have y1 : w1.heap.size < w'.heap.size := by omega)); (try (have y2 : w2.heap.size < w'.heap.size := by omega)); (try (have y3 : w3.heap.size < w'.heap.size := by omega)); (try (have y4 : w4.heap.size < w'.heap.size := by omega)); (try (have y5 : w5.heap.size < w'.heap.size := by omega)); (try (have y6 : w6.heap.size < w'.heap.size := by omega)); (try (have x1 : w1.heap.size + 1 < w'.heap.size := by omega)); (try (have x2 : w2.heap.size + 1 < w'.heap.size := by omega)); (try (have x3 : w3.heap.size + 1 < w'.heap.size := by omega)); (try (have x4 : w4.heap.size + 1 < w'.heap.size := by omega)); (try (have x5 : w5.heap.size + 1 < w'.heap.size := by omega)); (try (have x6 : w6.heap.size + 1 < w'.heap.size := by omega)); (try (have y7 : w7.heap.size < w'.heap.size := by omega)); (try (have y8 : w8.heap.size < w'.heap.size := by omega)); (try (have y9 : w9.heap.size < w'.heap.size := by omega)); (try (have z10 : w1.heap.size < w'.heap.size + 1 := by omega)); (try (have z20 : w2.heap.size < w'.heap.size + 1 := by omega)); (try (have z30 : w3.heap.size < w'.heap.size + 1 := by omega)); (try (have z40 : w4.heap.size < w'.heap.size + 1 := by omega)); (try (have z50 : w5.heap.size < w'.heap.size + 1 := by omega)); (try (have z60 : w6.heap.size < w'.heap.size + 1 := by omega)); (try (have z70 : w7.heap.size < w'.heap.size + 1 := by omega)); (try (have z80 : w8.heap.size < w'.heap.size + 1 := by omega)); obtain ⟨w3, rfl⟩ : ∃ v, v = w' := ⟨_, rfl⟩))
  refine wp_region_quiet_below (by kernel_rfl) (by kernel_rfl) ?_
  repeat (first | go_big_quiet_step (first | (with_reducible exact Calls.regrown_of (V.out _)) | (with_reducible exact Calls.regrown_of (RV.out _)) | (with_reducible exact Calls.regrown_of (V2.out _))) | quiet_step (first | (with_reducible exact Calls.regrown_of (V.out _)) | (with_reducible exact Calls.regrown_of (RV.out _)) | (with_reducible exact Calls.regrown_of (V2.out _))))
  refine wpQuiet_nil ?_; intro w' hw'; have hb := below_of_regrown hw'; clear hw'; (try replace hb := below_undrew hb); (try replace hb := below_undrewN hb); obtain ⟨hcell, hfroz⟩ := bcell hb; have hz := hb.size; (try simp at hz); (try (have z6 := Nat.lt_of_lt_of_le z7 hz)); (try (have z7 := Nat.lt_of_lt_of_le z8 hz)); (try (have z8 := Nat.lt_of_lt_of_le z9 hz)); (try (have z9 := Nat.lt_of_lt_of_le (Nat.lt_succ_self _) hz)); (try (have z0 : w.heap.size < w'.heap.size := by omega)); (try (have z1 : w.heap.size + 1 < w'.heap.size := by omega)); (try (have z2 : w.heap.size + 1 + 1 < w'.heap.size := by omega)); (try (have z3 : w.heap.size + 1 + 1 + 1 < w'.heap.size := by omega)); (try (have y1 : w1.heap.size < w'.heap.size := by omega)); (try (have y2 : w2.heap.size < w'.heap.size := by omega)); (try (have y3 : w3.heap.size < w'.heap.size := by omega)); (try (have y4 : w4.heap.size < w'.heap.size := by omega)); (try (have y5 : w5.heap.size < w'.heap.size := by omega)); (try (have y6 : w6.heap.size < w'.heap.size := by omega))
  go_wp2
  go_ret
  exact ⟨rfl, by (repeat (first | (with_reducible exact Below.refl _ _) | (with_reducible refine Below.setCell ?_ (by (first | (simp; done) | (simp; omega) | omega)) _) | (with_reducible refine bl_alloc ?_ _) | (with_reducible refine bl_drewN ?_) | (with_reducible refine bl_drew ?_) | (with_reducible refine bl_step (by assumption) ?_)))⟩

theorem alt_t {a b : Int} (h : altB a b = true) : a ≤ b ∧ -5400000 ≤ a ∧ b ≤ 5400000 := by
  have := arcB_t (a := a) (b := b) (by simp [altB] at h; exact h.1)
  simp [altB] at h
  omega
theorem arcLo_bd {a b : Int} (h : a ≤ b) : 0 ≤ arcLo a b ∧ arcLo a b ≤ 21600000 ∧ 0 ≤ arcHi a b ∧ arcHi a b ≤ 43200000 := by unfold arcLo arcHi; split <;> omega
theorem arcLo_part {a b : Int} (h : a ≤ b) (hw : ¬ 10800000 ≤ arcHi a b - arcLo a b) : 0 ≤ arcLo a b ∧ arcLo a b < 21600000 ∧ arcLo a b ≤ arcHi a b ∧ arcHi a b ≤ 43200000 := by
  revert hw
  unfold arcLo arcHi
  split <;> omega
theorem from_is (a b : Int) (h : a ≤ b) : fromB a b = withB a b := by
  unfold fromB withB
  rw [Bool.eq_iff_iff]
  simp only [Bool.and_eq_true, decide_eq_true_eq]
  omega

/-- Valid of the reference says what Valid says. -/
theorem v37_any (c d a b p q : Int) (w : World) :
    Calls Try.prog 7 #[.agg #[.int .i64 c, .int .i64 d, .int .i64 a, .int .i64 b, .int .i64 p, .int .i64 q]] w fun e w' => e = .returned (.bool (lineB c d a b p q)) ∧ Below w.heap.size w w' := by
  cases h0 : nearB c d
  · rw [show lineB c d a b p q = false by simp [lineB, h0]]
    exact v37_near c d a b p q 0 0 w (hidden fun w => by have := near37_is c d w; rw [h0] at this; exact this)
  have V0 := hidden fun w => (by have := near37_is c d w; rw [h0] at this; exact this : Calls Try.prog 21 #[.agg #[.int .i64 (c), .int .i64 (d)]] w fun e w' => e = .returned (.bool true) ∧ Below w.heap.size w w')
  cases h1 : arcB a b
  · rw [show lineB c d a b p q = false by simp [lineB, h0, h1]]
    exact v37_arc c d a b p q 0 0 w V0 (hidden fun w => by have := valid5_any a b w; rw [h1] at this; exact this)
  have V1 := hidden fun w => (by have := valid5_any a b w; rw [h1] at this; exact this : Calls Try.prog 8 #[.agg #[.int .i64 (a), .int .i64 (b)]] w fun e w' => e = .returned (.bool true) ∧ Below w.heap.size w w')
  obtain ⟨b0, b1, b2⟩ := arcB_t h1
  have V2 := hidden fun w => turn5_any a b w (by omega) b0 (by omega)
  by_cases h2 : arcLo a b = a
  case neg =>
    rw [show lineB c d a b p q = false by
      rw [Bool.eq_false_iff]; intro h; apply h2
      simp only [lineB, Bool.and_eq_true, decide_eq_true_eq] at h
      unfold arcLo; rw [if_neg (by omega)]; omega]
    exact v37_turn1 c d a b p q (arcLo a b) (arcHi a b) w (by simpa using h2) h2 V0 V1 V2
  rw [h2] at V2
  by_cases h3 : arcHi a b = b
  case neg =>
    rw [show lineB c d a b p q = false by
      rw [Bool.eq_false_iff]; intro h; apply h3
      simp only [lineB, Bool.and_eq_true, decide_eq_true_eq] at h
      unfold arcHi; rw [if_neg (by omega)]; omega]
    exact v37_turn2 c d a b p q a (arcHi a b) w (by simpa using h3) h3 V0 V1 V2
  rw [h3] at V2
  by_cases h4 : b - a < 10800000
  case neg =>
    rw [show lineB c d a b p q = false by simp [lineB, h4]]
    exact v37_half c d a b p q 0 0 w b1 b2 b0 (by simpa using h4) V0 V1 V2
  have e1 : 0 ≤ a := by rw [← h2]; exact (arcLo_bd b0).1
  have e2 : a < 21600000 := by rw [← h2]; unfold arcLo; split <;> omega
  cases h5 : fromB p q
  · rw [show lineB c d a b p q = false by
      rw [Bool.eq_false_iff]; intro h
      simp only [lineB, Bool.and_eq_true, decide_eq_true_eq] at h
      have h6 := arcB_t h.2.2.2.2.2.1
      rw [from_is p q h6.1] at h5
      simp [withB] at h5
      omega]
    exact v37_from c d a b p q 0 0 w b1 b2 b0 (by simpa using h4) V0 V1 V2 (hidden fun w => by have := from_any p q w; rw [h5] at this; exact this)
  · rw [show lineB c d a b p q = true by
      have h6 : p ≤ q ∧ -600000 ≤ p ∧ q ≤ 600000 := by simpa [fromB] using h5
      have h7 : arcB p q = true := arcB_mk (by omega)
      simp only [lineB, Bool.and_eq_true, decide_eq_true_eq]
      exact ⟨h0, h1, e1, e2, h4, h7, h6.2.1, h6.2.2⟩]
    exact v37_ok c d a b p q 0 0 w b1 b2 b0 (by simpa using h4) V0 V1 V2 (hidden fun w => by have := from_any p q w; rw [h5] at this; exact this)

theorem forms_walk (p0 p1 h0 h1 z0 z1 o0 o1 c d a b p q : Int) (w : World) (_b0 : -9223372036854775808 ≤ p0 ∧ p0 ≤ 9223372036854775807) (_b1 : -9223372036854775808 ≤ p1 ∧ p1 ≤ 9223372036854775807) (_b2 : -9223372036854775808 ≤ h0 ∧ h0 ≤ 9223372036854775807) (_b3 : -9223372036854775808 ≤ h1 ∧ h1 ≤ 9223372036854775807) (_b4 : -9223372036854775808 ≤ z0 ∧ z0 ≤ 9223372036854775807) (_b5 : -9223372036854775808 ≤ z1 ∧ z1 ≤ 9223372036854775807) (_b6 : -9223372036854775808 ≤ o0 ∧ o0 ≤ 9223372036854775807) (_b7 : -9223372036854775808 ≤ o1 ∧ o1 ≤ 9223372036854775807) (_b8 : -9223372036854775808 ≤ c ∧ c ≤ 9223372036854775807) (_b9 : -9223372036854775808 ≤ d ∧ d ≤ 9223372036854775807) (_b10 : -9223372036854775808 ≤ a ∧ a ≤ 9223372036854775807) (_b11 : -9223372036854775808 ≤ b ∧ b ≤ 9223372036854775807) (_b12 : -9223372036854775808 ≤ p ∧ p ≤ 9223372036854775807) (_b13 : -9223372036854775808 ≤ q ∧ q ≤ 9223372036854775807) :
    Calls Try.prog 5 #[.agg #[.int .i64 (p0), .int .i64 (p1)], .agg #[.int .i64 h0, .int .i64 h1, .int .i64 z0, .int .i64 z1], .agg #[.int .i64 (o0), .int .i64 (o1)], .agg #[.int .i64 c, .int .i64 d, .int .i64 a, .int .i64 b, .int .i64 p, .int .i64 q]] w fun e w' => e = .returned (.bool true) ∧ Below w.heap.size w w' := by
  have AW := hidden awake37_is
  have V := hidden fun w => lvalid_any c d a b p q w
  have RV := hidden fun w => v37_any c d a b p q w
  clear _b0 _b1 _b2 _b3 _b4 _b5 _b6 _b7 _b8 _b9 _b10 _b11 _b12 _b13
  cases g0 : nearB p0 p1
  · have C0 := hidden fun w => (by have := near_any p0 p1 w; rw [g0] at this; exact this : Calls Try.prog 44 #[.agg #[.int .i64 (p0), .int .i64 (p1)]] w fun e w' => e = .returned (.bool false) ∧ Below w.heap.size w w')
    have R0 := hidden fun w => (by have := near37_is p0 p1 w; rw [g0] at this; exact this : Calls Try.prog 21 #[.agg #[.int .i64 (p0), .int .i64 (p1)]] w fun e w' => e = .returned (.bool false) ∧ Below w.heap.size w w')
    exact forms_bad p0 p1 h0 h1 z0 z1 o0 o1 c d a b p q 0 0 0 0 0 0 1 _ w (by decide) AW (hidden fun w => of_arg0 p0 p1 h0 h1 z0 z1 o0 o1 w C0) (hidden fun w => of37_arg0 p0 p1 h0 h1 z0 z1 o0 o1 w R0) V RV
  have C0 := hidden fun w => (by have := near_any p0 p1 w; rw [g0] at this; exact this : Calls Try.prog 44 #[.agg #[.int .i64 (p0), .int .i64 (p1)]] w fun e w' => e = .returned (.bool true) ∧ Below w.heap.size w w')
  have R0 := hidden fun w => (by have := near37_is p0 p1 w; rw [g0] at this; exact this : Calls Try.prog 21 #[.agg #[.int .i64 (p0), .int .i64 (p1)]] w fun e w' => e = .returned (.bool true) ∧ Below w.heap.size w w')
  cases g1 : altB h0 h1
  · have C1 := hidden fun w => (by have := altitude_any h0 h1 w; rw [g1] at this; exact this : Calls Try.prog 37 #[.agg #[.int .i64 (h0), .int .i64 (h1)]] w fun e w' => e = .returned (.bool false) ∧ Below w.heap.size w w')
    have R1 := hidden fun w => (by have := lat25_is h0 h1 w; rw [g1] at this; exact this : Calls Try.prog 45 #[.agg #[.int .i64 (h0), .int .i64 (h1)]] w fun e w' => e = .returned (.bool false) ∧ Below w.heap.size w w')
    exact forms_bad p0 p1 h0 h1 z0 z1 o0 o1 c d a b p q 0 0 0 0 0 0 1 _ w (by decide) AW (hidden fun w => of_arg1 p0 p1 h0 h1 z0 z1 o0 o1 w C0 C1) (hidden fun w => of37_arg1 p0 p1 h0 h1 z0 z1 o0 o1 w R0 R1) V RV
  have C1 := hidden fun w => (by have := altitude_any h0 h1 w; rw [g1] at this; exact this : Calls Try.prog 37 #[.agg #[.int .i64 (h0), .int .i64 (h1)]] w fun e w' => e = .returned (.bool true) ∧ Below w.heap.size w w')
  have R1 := hidden fun w => (by have := lat25_is h0 h1 w; rw [g1] at this; exact this : Calls Try.prog 45 #[.agg #[.int .i64 (h0), .int .i64 (h1)]] w fun e w' => e = .returned (.bool true) ∧ Below w.heap.size w w')
  cases g2 : altB o0 o1
  · have C2 := hidden fun w => (by have := altitude_any o0 o1 w; rw [g2] at this; exact this : Calls Try.prog 37 #[.agg #[.int .i64 (o0), .int .i64 (o1)]] w fun e w' => e = .returned (.bool false) ∧ Below w.heap.size w w')
    have R2 := hidden fun w => (by have := lat25_is o0 o1 w; rw [g2] at this; exact this : Calls Try.prog 45 #[.agg #[.int .i64 (o0), .int .i64 (o1)]] w fun e w' => e = .returned (.bool false) ∧ Below w.heap.size w w')
    exact forms_bad p0 p1 h0 h1 z0 z1 o0 o1 c d a b p q 0 0 0 0 0 0 1 _ w (by decide) AW (hidden fun w => of_arg2 p0 p1 h0 h1 z0 z1 o0 o1 w C0 C1 C2) (hidden fun w => of37_arg2 p0 p1 h0 h1 z0 z1 o0 o1 w R0 R1 R2) V RV
  have C2 := hidden fun w => (by have := altitude_any o0 o1 w; rw [g2] at this; exact this : Calls Try.prog 37 #[.agg #[.int .i64 (o0), .int .i64 (o1)]] w fun e w' => e = .returned (.bool true) ∧ Below w.heap.size w w')
  have R2 := hidden fun w => (by have := lat25_is o0 o1 w; rw [g2] at this; exact this : Calls Try.prog 45 #[.agg #[.int .i64 (o0), .int .i64 (o1)]] w fun e w' => e = .returned (.bool true) ∧ Below w.heap.size w w')
  cases g3 : arcB z0 z1
  · have C3 := hidden fun w => (by have := valid_any z0 z1 w; rw [g3] at this; exact this : Calls Try.prog 24 #[.agg #[.int .i64 (z0), .int .i64 (z1)]] w fun e w' => e = .returned (.bool false) ∧ Below w.heap.size w w')
    have R3 := hidden fun w => (by have := valid5_any z0 z1 w; rw [g3] at this; exact this : Calls Try.prog 8 #[.agg #[.int .i64 (z0), .int .i64 (z1)]] w fun e w' => e = .returned (.bool false) ∧ Below w.heap.size w w')
    exact forms_bad p0 p1 h0 h1 z0 z1 o0 o1 c d a b p q 0 0 0 0 0 0 1 _ w (by decide) AW (hidden fun w => of_arg3 p0 p1 h0 h1 z0 z1 o0 o1 w C0 C1 C2 C3) (hidden fun w => of37_arg3 p0 p1 h0 h1 z0 z1 o0 o1 w R0 R1 R2 R3) V RV
  have C3 := hidden fun w => (by have := valid_any z0 z1 w; rw [g3] at this; exact this : Calls Try.prog 24 #[.agg #[.int .i64 (z0), .int .i64 (z1)]] w fun e w' => e = .returned (.bool true) ∧ Below w.heap.size w w')
  have R3 := hidden fun w => (by have := valid5_any z0 z1 w; rw [g3] at this; exact this : Calls Try.prog 8 #[.agg #[.int .i64 (z0), .int .i64 (z1)]] w fun e w' => e = .returned (.bool true) ∧ Below w.heap.size w w')
  obtain ⟨k0, k1, k2⟩ := arcB_t g3
  have U := hidden fun w => turn_ok z0 z1 w g3
  have U5 := hidden fun w => turn5_any z0 z1 w (by omega) k0 (by omega)
  have e1 := alt_t g1
  have e2 := alt_t g2
  have S := hidden fun w => lsub_any o0 o1 h0 h1 w (by omega) (by omega) (by omega) (by omega)
  have S5 := hidden fun w => sub5_any o0 o1 h0 h1 w (by omega) (by omega) (by omega) (by omega)
  have d := arcLo_bd k0
  obtain ⟨d0, d1, d2, d3⟩ := d
  by_cases hw : 10800000 ≤ arcHi z0 z1 - arcLo z0 z1
  · exact forms_bad p0 p1 h0 h1 z0 z1 o0 o1 c d a b p q 0 0 0 0 0 0 21 _ w (by decide) AW (hidden fun w => of_pole p0 p1 h0 h1 z0 z1 o0 o1 _ _ (o0 - h1) (o1 - h0) w d0 d1 d2 d3 hw C0 C1 C2 C3 U S) (hidden fun w => of37_pole p0 p1 h0 h1 z0 z1 o0 o1 _ _ 0 0 w d0 d1 d2 d3 hw R0 R1 R2 R3 U5) V RV
  have W := within_any (o0 - h1) (o1 - h0)
  have W5 := from_any (o0 - h1) (o1 - h0)
  rw [from_is _ _ (by omega)] at W5
  cases hi : withB (o0 - h1) (o1 - h0)
  · rw [hi] at W W5
    exact forms_bad p0 p1 h0 h1 z0 z1 o0 o1 c d a b p q 0 0 0 0 0 0 24 _ w (by decide) AW (hidden fun w => of_wide p0 p1 h0 h1 z0 z1 o0 o1 _ _ _ _ w d0 d1 d2 d3 hw C0 C1 C2 C3 U S (hidden W)) (hidden fun w => of37_wide p0 p1 h0 h1 z0 z1 o0 o1 _ _ _ _ w d0 d1 d2 d3 hw R0 R1 R2 R3 U5 S5 (hidden W5)) V RV
  · rw [hi] at W W5
    obtain ⟨a0, a1, a2, a3⟩ := arcLo_part k0 hw
    have l := lvalid_any p0 p1 (arcLo z0 z1) (arcHi z0 z1) (o0 - h1) (o1 - h0)
    have hv : lineB p0 p1 (arcLo z0 z1) (arcHi z0 z1) (o0 - h1) (o1 - h0) = true := by
      simp [withB] at hi
      simp only [lineB, Bool.and_eq_true, decide_eq_true_eq]
      exact ⟨g0, arcB_mk (by omega), by omega, by omega, by omega, arcB_mk (by omega), by omega, by omega⟩
    rw [hv] at l
    exact forms_ok p0 p1 h0 h1 z0 z1 o0 o1 c d a b p q p0 p1 (arcLo z0 z1) (arcHi z0 z1) (o0 - h1) (o1 - h0) _ w AW (hidden fun w => of_ok p0 p1 h0 h1 z0 z1 o0 o1 _ _ _ _ w d0 d1 d2 d3 hw C0 C1 C2 C3 U S (hidden W)) (hidden fun w => of37_ok p0 p1 h0 h1 z0 z1 o0 o1 _ _ _ _ w d0 d1 d2 d3 hw R0 R1 R2 R3 U5 S5 (hidden W5)) V RV (hidden l)

end Go.Proofs.Ytjceofmhodcefaa
