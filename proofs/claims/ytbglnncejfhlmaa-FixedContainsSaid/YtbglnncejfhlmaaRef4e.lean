/- The reference of layer 4: the corners of products and quotients, Scale and Quotient, each as a contract. -/
import Derived.Test.YtbglnncejfhlmaaRef4d
namespace Go.Proofs.Ytbglnncejfhlmaa
open Go.RowKit

/-- the least and the greatest of the four corners, for positive divisors -/
def cLo (a b c d n : Int) : Int := min (a * n / c) (min (a * n / d) (min (b * n / c) (b * n / d)))
def cHi (a b c d n : Int) : Int := max (-(-(a * n) / c)) (max (-(-(a * n) / d)) (max (-(-(b * n) / c)) (-(-(b * n) / d))))
/-- no product with n, divided by c or more, overflows -/
def okC (a n c : Int) : Prop := -1152921504606846976 * c ≤ a * n ∧ a * n ≤ 1152921504606846976 * c
theorem okC_more {a n c d : Int} (h : okC a n c) (hcd : c ≤ d) : okC a n d := by unfold okC at *; omega
theorem okC_neg {a n c : Int} (h : okC a n c) : okC a (-n) c := by unfold okC at *; rw [Int.mul_neg]; omega

theorem ret_pair {a b c d : Int} (h1 : a = c) (h2 : b = d) : Ending.returned (.tuple #[.int .i64 a, .int .i64 b]) = Ending.returned (.tuple #[.int .i64 c, .int .i64 d]) := by rw [h1, h2]

set_option maxHeartbeats 2000000 in
theorem corners_walk (a b c d n x1 x2 x3 x4 y1 y2 y3 y4 L H : Int) (w : World) (n0 : -1099511627776 ≤ n) (n1 : n ≤ 1099511627776)
    (bx1 : -9223372036854775807 ≤ y1 ∧ y1 ≤ 9223372036854775807) (bx2 : -9223372036854775807 ≤ y2 ∧ y2 ≤ 9223372036854775807) (bx3 : -9223372036854775807 ≤ y3 ∧ y3 ≤ 9223372036854775807) (bx4 : -9223372036854775807 ≤ y4 ∧ y4 ≤ 9223372036854775807)
    (X1 : Hid (∀ w, Calls Try.prog 68 #[.int .i64 a, .int .i64 n, .int .i64 c] w fun e w' => e = .returned (.int .i64 x1) ∧ w = w'))
    (X2 : Hid (∀ w, Calls Try.prog 68 #[.int .i64 a, .int .i64 n, .int .i64 d] w fun e w' => e = .returned (.int .i64 x2) ∧ w = w'))
    (X3 : Hid (∀ w, Calls Try.prog 68 #[.int .i64 b, .int .i64 n, .int .i64 c] w fun e w' => e = .returned (.int .i64 x3) ∧ w = w'))
    (X4 : Hid (∀ w, Calls Try.prog 68 #[.int .i64 b, .int .i64 n, .int .i64 d] w fun e w' => e = .returned (.int .i64 x4) ∧ w = w'))
    (Y1 : Hid (∀ w, Calls Try.prog 68 #[.int .i64 a, .int .i64 (-n), .int .i64 c] w fun e w' => e = .returned (.int .i64 y1) ∧ w = w'))
    (Y2 : Hid (∀ w, Calls Try.prog 68 #[.int .i64 a, .int .i64 (-n), .int .i64 d] w fun e w' => e = .returned (.int .i64 y2) ∧ w = w'))
    (Y3 : Hid (∀ w, Calls Try.prog 68 #[.int .i64 b, .int .i64 (-n), .int .i64 c] w fun e w' => e = .returned (.int .i64 y3) ∧ w = w'))
    (Y4 : Hid (∀ w, Calls Try.prog 68 #[.int .i64 b, .int .i64 (-n), .int .i64 d] w fun e w' => e = .returned (.int .i64 y4) ∧ w = w'))
    (hL : min x1 (min x2 (min x3 x4)) = L) (hH : -(min y1 (min y2 (min y3 y4))) = H) :
    Calls Try.prog 63 #[.agg #[.int .i64 (a), .int .i64 (b)], .agg #[.int .i64 (c), .int .i64 (d)], .int .i64 n] w fun e w' => e = .returned (.tuple #[.int .i64 L, .int .i64 H]) ∧ Below w.heap.size w w' := by
  replace hL := hidden hL
  replace hH := hidden hH
  obtain ⟨u1, v1⟩ := bx1
  obtain ⟨u2, v2⟩ := bx2
  obtain ⟨u3, v3⟩ := bx3
  obtain ⟨u4, v4⟩ := bx4
  go_enter Try.func63, Try.ntmps63
  go_wp2
  go_quiet (first | (go_at_call 68; (with_reducible exact quiet_same (X1.out _))) | (go_at_call 68; (with_reducible exact quiet_same (X2.out _))) | (go_at_call 68; (with_reducible exact quiet_same (X3.out _))) | (go_at_call 68; (with_reducible exact quiet_same (X4.out _))) | (go_at_call 50; exact quiet_same (least_any _ _ _)))
  obtain ⟨w1, hw1⟩ : ∃ v, v = w := ⟨_, rfl⟩
  (refine name_world (F := Exit.then _ _ _ _) ?_; intro w' hb; (try replace hb := below_undrew hb); (try replace hb := below_undrewN hb); obtain ⟨hcell, hfroz⟩ := bcell hb; have hz := hb.size; (try simp at hz); (try (have z6 := Nat.lt_of_lt_of_le z7 hz)); (try (have z7 := Nat.lt_of_lt_of_le z8 hz)); (try (have z8 := Nat.lt_of_lt_of_le z9 hz)); (try (have z9 := Nat.lt_of_lt_of_le (Nat.lt_succ_self _) hz)); (try (have z0 : w.heap.size < w'.heap.size := by omega)); (try (have z1 : w.heap.size + 1 < w'.heap.size := by omega)); (try (have z2 : w.heap.size + 1 + 1 < w'.heap.size := by omega)); (try (have z3 : w.heap.size + 1 + 1 + 1 < w'.heap.size := by omega)); (try (have y1 : w1.heap.size < w'.heap.size := by omega)); (try (have y2 : w2.heap.size < w'.heap.size := by omega)); (try (have y3 : w3.heap.size < w'.heap.size := by omega)); (try (have y4 : w4.heap.size < w'.heap.size := by omega)); (try (have y5 : w5.heap.size < w'.heap.size := by omega)); (try (have y6 : w6.heap.size < w'.heap.size := by omega)))
  go_wp2
  go_quiet (first | (go_at_call 68; (with_reducible exact quiet_same (Y1.out _))) | (go_at_call 68; (with_reducible exact quiet_same (Y2.out _))) | (go_at_call 68; (with_reducible exact quiet_same (Y3.out _))) | (go_at_call 68; (with_reducible exact quiet_same (Y4.out _))) | (go_at_call 50; exact quiet_same (least_any _ _ _)))
  go_wp2
  go_ret2
  exact ⟨ret_pair (by have := hL.out; omega) (by have := hH.out; omega), by (repeat (first | exact Below.refl _ _ | refine bl_drewN ?_ | refine bl_drew ?_ | refine bl_alloc ?_ _ | refine Below.setCell ?_ (by (first | (simp; done) | (simp; omega) | omega)) _ | refine bl_step (by assumption) ?_))⟩

theorem ediv_bd {a y : Int} (hy : 0 < y) (h : -1152921504606846976 * y ≤ a ∧ a ≤ 1152921504606846976 * y) : -1152921504606846976 ≤ a / y ∧ a / y ≤ 1152921504606846976 := by
  constructor
  · apply (Int.le_ediv_iff_mul_le hy).2; omega
  · have : a / y < 1152921504606846976 + 1 := Int.ediv_lt_of_lt_mul hy (by omega)
    omega

theorem corners_any (a b c d n : Int) (w : World) (a0 : -2147483648 ≤ a) (a1 : a ≤ 2147483648) (b0 : -2147483648 ≤ b) (b1 : b ≤ 2147483648) (c0 : 1 ≤ c) (cd : c ≤ d) (d1 : d ≤ 2147483648)
    (n0 : -1099511627776 ≤ n) (n1 : n ≤ 1099511627776) (ha : okC a n c) (hb : okC b n c) :
    Calls Try.prog 63 #[.agg #[.int .i64 (a), .int .i64 (b)], .agg #[.int .i64 (c), .int .i64 (d)], .int .i64 n] w fun e w' => e = .returned (.tuple #[.int .i64 (cLo a b c d n), .int .i64 (cHi a b c d n)]) ∧ Below w.heap.size w w' := by
  have ha' := okC_more ha cd
  have hb' := okC_more hb cd
  have na := okC_neg ha
  have nb := okC_neg hb
  have na' := okC_neg ha'
  have nb' := okC_neg hb'
  have q1 := ediv_bd (show 0 < c by omega) na
  have q2 := ediv_bd (show 0 < d by omega) na'
  have q3 := ediv_bd (show 0 < c by omega) nb
  have q4 := ediv_bd (show 0 < d by omega) nb'
  refine corners_walk a b c d n _ _ _ _ _ _ _ _ _ _ w n0 n1 (by omega) (by omega) (by omega) (by omega)
    (hidden fun w => times_any a n c w a0 a1 n0 n1 c0 (by omega) ha.1 ha.2) (hidden fun w => times_any a n d w a0 a1 n0 n1 (by omega) d1 ha'.1 ha'.2)
    (hidden fun w => times_any b n c w b0 b1 n0 n1 c0 (by omega) hb.1 hb.2) (hidden fun w => times_any b n d w b0 b1 n0 n1 (by omega) d1 hb'.1 hb'.2)
    (hidden fun w => times_any a (-n) c w a0 a1 (by omega) (by omega) c0 (by omega) na.1 na.2) (hidden fun w => times_any a (-n) d w a0 a1 (by omega) (by omega) (by omega) d1 na'.1 na'.2)
    (hidden fun w => times_any b (-n) c w b0 b1 (by omega) (by omega) c0 (by omega) nb.1 nb.2) (hidden fun w => times_any b (-n) d w b0 b1 (by omega) (by omega) (by omega) d1 nb'.1 nb'.2) rfl ?_
  unfold cHi
  simp only [Int.mul_neg]
  clear q1 q2 q3 q4 ha hb ha' hb' na nb na' nb'
  generalize -(a * n) / c = z1
  generalize -(a * n) / d = z2
  generalize -(b * n) / c = z3
  generalize -(b * n) / d = z4
  omega

theorem scale4_range (a b n : Int) (w : World) (h : reachB n = false) :
    Calls Try.prog 39 #[.agg #[.int .i64 (a), .int .i64 (b)], .int .i64 n] w fun e w' => e = .returned (.tuple #[.int .i64 0, .int .i64 0, .int .i64 2]) ∧ Below w.heap.size w w' := by
  go_enter Try.func39, Try.ntmps39
  go_wp2_with (go_at_call 62; ((with_reducible refine (reaches_any _ _).mono ?_); rintro e w' ⟨rfl, rfl⟩))
  go_ret3
  exact ⟨rfl, by (repeat (first | exact Below.refl _ _ | refine bl_drewN ?_ | refine bl_drew ?_ | refine bl_alloc ?_ _ | refine Below.setCell ?_ (by (first | (simp; done) | (simp; omega) | omega)) _ | refine bl_step (by assumption) ?_))⟩

theorem okC_one {a n : Int} (a0 : -2147483648 ≤ a) (a1 : a ≤ 2147483648) (n0 : -1099511627776 ≤ n) (n1 : n ≤ 1099511627776) : okC a n 1073741824 := by
  have := mul_bd (X := 2147483648) (Y := 1099511627776) (x := a) (y := n) (by omega) (by omega)
  unfold okC; omega

set_option maxHeartbeats 400000 in
theorem scale4_any (a b n : Int) (w : World) (h1 : fixB a b = true) (h : reachB n = true) :
    Calls Try.prog 39 #[.agg #[.int .i64 (a), .int .i64 (b)], .int .i64 n] w fun e w' => e = .returned (.tuple #[.int .i64 (cLo a b 1073741824 1073741824 n), .int .i64 (cHi a b 1073741824 1073741824 n), .int .i64 0]) ∧ Below w.heap.size w w' := by
  obtain ⟨a1, a2, a3⟩ := fixB_t h1
  have C := hidden fun w => corners_any a b 1073741824 1073741824 n w (by omega) (by omega) (by omega) (by omega) (by omega) (by omega) (by omega) (reachB_t h).1 (reachB_t h).2 (okC_one (by omega) (by omega) (reachB_t h).1 (reachB_t h).2) (okC_one (by omega) (by omega) (reachB_t h).1 (reachB_t h).2)
  clear h1
  go_enter Try.func39, Try.ntmps39
  go_wp2_with (first | (go_at_call 62; ((with_reducible refine (reaches_any _ _).mono ?_); rintro e w' ⟨rfl, rfl⟩)) | (go_at_call 63; ((with_reducible refine (C.out _).mono ?_); rintro e w' ⟨rfl, hb⟩); (try replace hb := below_undrew hb); (try replace hb := below_undrewN hb); obtain ⟨hcell, hfroz⟩ := bcell hb; have hz := hb.size; (try simp at hz); (try (have z6 := Nat.lt_of_lt_of_le z7 hz)); (try (have z7 := Nat.lt_of_lt_of_le z8 hz)); (try (have z8 := Nat.lt_of_lt_of_le z9 hz)); (try (have z9 := Nat.lt_of_lt_of_le (Nat.lt_succ_self _) hz)); (try (have z0 : w.heap.size < w'.heap.size := by omega)); (try (have z1 : w.heap.size + 1 < w'.heap.size := by omega)); (try (have z2 : w.heap.size + 1 + 1 < w'.heap.size := by omega)); (try (have z3 : w.heap.size + 1 + 1 + 1 < w'.heap.size := by omega)); (try (have y1 : w1.heap.size < w'.heap.size := by omega)); (try (have y2 : w2.heap.size < w'.heap.size := by omega)); (try (have y3 : w3.heap.size < w'.heap.size := by omega)); (try (have y4 : w4.heap.size < w'.heap.size := by omega)); (try (have y5 : w5.heap.size < w'.heap.size := by omega)); (try (have y6 : w6.heap.size < w'.heap.size := by omega)); (try (have x1 : w1.heap.size + 1 < w'.heap.size := by omega)); (try (have x2 : w2.heap.size + 1 < w'.heap.size := by omega)); (try (have x3 : w3.heap.size + 1 < w'.heap.size := by omega)); (try (have x4 : w4.heap.size + 1 < w'.heap.size := by omega)); (try (have x5 : w5.heap.size + 1 < w'.heap.size := by omega)); (try (have x6 : w6.heap.size + 1 < w'.heap.size := by omega))))
  go_ret3
  exact ⟨rfl, by (repeat (first | exact Below.refl _ _ | refine bl_drewN ?_ | refine bl_drew ?_ | refine bl_alloc ?_ _ | refine Below.setCell ?_ (by (first | (simp; done) | (simp; omega) | omega)) _ | refine bl_step (by assumption) ?_))⟩

end Go.Proofs.Ytbglnncejfhlmaa
