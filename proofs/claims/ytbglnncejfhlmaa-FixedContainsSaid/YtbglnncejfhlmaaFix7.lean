/- The operations of package fixed on intervals, each as a contract: not valid, too great, or fit. -/
import Derived.Test.YtbglnncejfhlmaaFix6
namespace Go.Proofs.Ytbglnncejfhlmaa
open Go.RowKit

theorem le_min (x y : Int) : (if y < x then y else x) = min x y := by split <;> omega
theorem le_max (x y : Int) : (if x < y then y else x) = max x y := by split <;> omega
@[go_sem high] theorem run_min_four {P : Program} (w : World) (ts : Array TypeId) (t : TypeId) (k1 k2 k3 k4 : IntKind) (x y z u : Int) :
    (Builtin.min_ ts t #[.int k1 x, .int k2 y, .int k3 z, .int k4 u]).run P w = .ok (.int k1 (min (min (min x y) z) u)) w := by
  rw [← le_min, ← le_min (min x y), ← le_min x y]
  simp [Builtin.min_, Builtin.min2, go_sem]
@[go_sem high] theorem run_max_four {P : Program} (w : World) (ts : Array TypeId) (t : TypeId) (k1 k2 k3 k4 : IntKind) (x y z u : Int) :
    (Builtin.max_ ts t #[.int k1 x, .int k2 y, .int k3 z, .int k4 u]).run P w = .ok (.int k1 (max (max (max x y) z) u)) w := by
  rw [← le_max, ← le_max (max x y), ← le_max x y]
  simp [Builtin.max_, Builtin.max2, go_sem]

theorem wrap_id {n : Int} (h0 : -9223372036854775808 ≤ n) (h1 : n ≤ 9223372036854775807) : IntKind.i64.wrap n = n := by rw [IntKind.wrap_i64]; omega

theorem prod_bd (x y : Int) (x0 : -2147483648 ≤ x) (x1 : x ≤ 2147483648) (y0 : -2147483648 ≤ y) (y1 : y ≤ 2147483648) : -4611686018427387904 ≤ x * y ∧ x * y ≤ 4611686018427387904 := by
  have e := Int.natAbs_mul x y
  have h : x.natAbs * y.natAbs ≤ 2147483648 * 2147483648 := Nat.mul_le_mul (by omega) (by omega)
  rw [← e] at h
  omega

set_option maxHeartbeats 400000 in
theorem mul_any (a b c d : Int) (w : World) (h1 : fixB a b = true) (h2 : fixB c d = true) :
    Calls Try.prog 12 #[.agg #[.int .i64 (a), .int .i64 (b)], .agg #[.int .i64 (c), .int .i64 (d)]] w fun e w' => e = .returned (fitF (fl (min (a * c) (min (a * d) (min (b * c) (b * d)))) 1073741824) (ce (max (a * c) (max (a * d) (max (b * c) (b * d)))) 1073741824)) ∧ Below w.heap.size w w' := by
  have a0 := fixB_t h1
  have a1 := a0.1
  have a2 := a0.2.1
  have a3 := a0.2.2
  have c0 := fixB_t h2
  have c1 := c0.1
  have c2 := c0.2.1
  have c3 := c0.2.2
  clear a0 c0
  have h : (fixB a b && fixB c d) = true := by rw [h1, h2]; rfl
  clear h1 h2
  obtain ⟨p1, p2⟩ := prod_bd a c (by omega) (by omega) (by omega) (by omega)
  obtain ⟨p3, p4⟩ := prod_bd a d (by omega) (by omega) (by omega) (by omega)
  obtain ⟨p5, p6⟩ := prod_bd b c (by omega) (by omega) (by omega) (by omega)
  obtain ⟨p7, p8⟩ := prod_bd b d (by omega) (by omega) (by omega) (by omega)
  have r1 : IntKind.i64.wrap (a * c) = a * c := wrap_id (by omega) (by omega)
  have r2 : IntKind.i64.wrap (a * d) = a * d := wrap_id (by omega) (by omega)
  have r3 : IntKind.i64.wrap (b * c) = b * c := wrap_id (by omega) (by omega)
  have r4 : IntKind.i64.wrap (b * d) = b * d := wrap_id (by omega) (by omega)
  have FA := fun w => ffloor_any (min (a * c) (min (a * d) (min (b * c) (b * d)))) 1073741824 w (by omega) (by omega) (by omega) (by omega) (by omega)
  have FB := fun w => fceil_any (max (a * c) (max (a * d) (max (b * c) (b * d)))) 1073741824 w (by omega) (by omega) (by omega) (by omega) (by omega)
  generalize fl (min (a * c) (min (a * d) (min (b * c) (b * d)))) 1073741824 = X at *
  generalize ce (max (a * c) (max (a * d) (max (b * c) (b * d)))) 1073741824 = Y at *
  replace FA := hidden FA
  replace FB := hidden FB
  clear p1 p2 p3 p4 p5 p6 p7 p8
  cases hf : fixB (X) (Y)
  · rw [fitF_no hf]
    have FI := fun w => ffit_no _ _ w hf
    replace FI := hidden FI
    clear hf
    go_enter Try.func12, Try.ntmps12
    go_wp2_with (go_at_call 45; refine (both_any _ _ _ _ _).mono ?_; rintro e w' ⟨rfl, hb⟩; (try replace hb := below_undrew hb); (try replace hb := below_undrewN hb); obtain ⟨hcell, hfroz⟩ := bcell hb; have hz := hb.size; (try simp at hz); (try (have z6 := Nat.lt_of_lt_of_le z7 hz)); (try (have z7 := Nat.lt_of_lt_of_le z8 hz)); (try (have z8 := Nat.lt_of_lt_of_le z9 hz)); (try (have z9 := Nat.lt_of_lt_of_le (Nat.lt_succ_self _) hz)); (try (have z0 : w.heap.size < w'.heap.size := by omega)); (try (have z1 : w.heap.size + 1 < w'.heap.size := by omega)); (try (have z2 : w.heap.size + 1 + 1 < w'.heap.size := by omega)); (try (have z3 : w.heap.size + 1 + 1 + 1 < w'.heap.size := by omega)); (try (have y1 : w1.heap.size < w'.heap.size := by omega)); (try (have y2 : w2.heap.size < w'.heap.size := by omega)); (try (have y3 : w3.heap.size < w'.heap.size := by omega)); (try (have y4 : w4.heap.size < w'.heap.size := by omega)); (try (have y5 : w5.heap.size < w'.heap.size := by omega)); (try (have y6 : w6.heap.size < w'.heap.size := by omega)))
    go_quiet (fail)
    go_wp2_with (first | (go_at_call 45; refine (both_any _ _ _ _ _).mono ?_; rintro e w' ⟨rfl, hb⟩; (try replace hb := below_undrew hb); (try replace hb := below_undrewN hb); obtain ⟨hcell, hfroz⟩ := bcell hb; have hz := hb.size; (try simp at hz); (try (have z6 := Nat.lt_of_lt_of_le z7 hz)); (try (have z7 := Nat.lt_of_lt_of_le z8 hz)); (try (have z8 := Nat.lt_of_lt_of_le z9 hz)); (try (have z9 := Nat.lt_of_lt_of_le (Nat.lt_succ_self _) hz)); (try (have z0 : w.heap.size < w'.heap.size := by omega)); (try (have z1 : w.heap.size + 1 < w'.heap.size := by omega)); (try (have z2 : w.heap.size + 1 + 1 < w'.heap.size := by omega)); (try (have z3 : w.heap.size + 1 + 1 + 1 < w'.heap.size := by omega)); (try (have y1 : w1.heap.size < w'.heap.size := by omega)); (try (have y2 : w2.heap.size < w'.heap.size := by omega)); (try (have y3 : w3.heap.size < w'.heap.size := by omega)); (try (have y4 : w4.heap.size < w'.heap.size := by omega)); (try (have y5 : w5.heap.size < w'.heap.size := by omega)); (try (have y6 : w6.heap.size < w'.heap.size := by omega))) | (go_at_call 46; refine (FI.out _).mono ?_; rintro e w' ⟨rfl, hb⟩; (try replace hb := below_undrew hb); (try replace hb := below_undrewN hb); obtain ⟨hcell, hfroz⟩ := bcell hb; have hz := hb.size; (try simp at hz); (try (have z6 := Nat.lt_of_lt_of_le z7 hz)); (try (have z7 := Nat.lt_of_lt_of_le z8 hz)); (try (have z8 := Nat.lt_of_lt_of_le z9 hz)); (try (have z9 := Nat.lt_of_lt_of_le (Nat.lt_succ_self _) hz)); (try (have z0 : w.heap.size < w'.heap.size := by omega)); (try (have z1 : w.heap.size + 1 < w'.heap.size := by omega)); (try (have z2 : w.heap.size + 1 + 1 < w'.heap.size := by omega)); (try (have z3 : w.heap.size + 1 + 1 + 1 < w'.heap.size := by omega)); (try (have y1 : w1.heap.size < w'.heap.size := by omega)); (try (have y2 : w2.heap.size < w'.heap.size := by omega)); (try (have y3 : w3.heap.size < w'.heap.size := by omega)); (try (have y4 : w4.heap.size < w'.heap.size := by omega)); (try (have y5 : w5.heap.size < w'.heap.size := by omega)); (try (have y6 : w6.heap.size < w'.heap.size := by omega))) | (go_at_call 47; refine (FA.out _).mono ?_; rintro e w' ⟨rfl, rfl⟩) | (go_at_call 48; refine (FB.out _).mono ?_; rintro e w' ⟨rfl, rfl⟩))
    exact bodyPost_ret (v := .tuple #[.agg #[.int .i64 (0), .int .i64 (0)], .int .i64 (5)]) (by first | (simp only [results, Try.results12]; go_simp; done) | simp [results, Try.results12, go_sem, *]) rfl ⟨rfl, by (repeat (first | exact Below.refl _ _ | refine bl_drewN ?_ | refine bl_drew ?_ | refine bl_alloc ?_ _ | refine Below.setCell ?_ (by (first | (simp; done) | (simp; omega) | omega)) _ | refine bl_step (by assumption) ?_))⟩
  · rw [fitF_ok hf]
    have FI := fun w => ffit_ok _ _ w hf
    replace FI := hidden FI
    clear hf
    go_enter Try.func12, Try.ntmps12
    go_wp2_with (go_at_call 45; refine (both_any _ _ _ _ _).mono ?_; rintro e w' ⟨rfl, hb⟩; (try replace hb := below_undrew hb); (try replace hb := below_undrewN hb); obtain ⟨hcell, hfroz⟩ := bcell hb; have hz := hb.size; (try simp at hz); (try (have z6 := Nat.lt_of_lt_of_le z7 hz)); (try (have z7 := Nat.lt_of_lt_of_le z8 hz)); (try (have z8 := Nat.lt_of_lt_of_le z9 hz)); (try (have z9 := Nat.lt_of_lt_of_le (Nat.lt_succ_self _) hz)); (try (have z0 : w.heap.size < w'.heap.size := by omega)); (try (have z1 : w.heap.size + 1 < w'.heap.size := by omega)); (try (have z2 : w.heap.size + 1 + 1 < w'.heap.size := by omega)); (try (have z3 : w.heap.size + 1 + 1 + 1 < w'.heap.size := by omega)); (try (have y1 : w1.heap.size < w'.heap.size := by omega)); (try (have y2 : w2.heap.size < w'.heap.size := by omega)); (try (have y3 : w3.heap.size < w'.heap.size := by omega)); (try (have y4 : w4.heap.size < w'.heap.size := by omega)); (try (have y5 : w5.heap.size < w'.heap.size := by omega)); (try (have y6 : w6.heap.size < w'.heap.size := by omega)))
    go_quiet (fail)
    go_wp2_with (first | (go_at_call 45; refine (both_any _ _ _ _ _).mono ?_; rintro e w' ⟨rfl, hb⟩; (try replace hb := below_undrew hb); (try replace hb := below_undrewN hb); obtain ⟨hcell, hfroz⟩ := bcell hb; have hz := hb.size; (try simp at hz); (try (have z6 := Nat.lt_of_lt_of_le z7 hz)); (try (have z7 := Nat.lt_of_lt_of_le z8 hz)); (try (have z8 := Nat.lt_of_lt_of_le z9 hz)); (try (have z9 := Nat.lt_of_lt_of_le (Nat.lt_succ_self _) hz)); (try (have z0 : w.heap.size < w'.heap.size := by omega)); (try (have z1 : w.heap.size + 1 < w'.heap.size := by omega)); (try (have z2 : w.heap.size + 1 + 1 < w'.heap.size := by omega)); (try (have z3 : w.heap.size + 1 + 1 + 1 < w'.heap.size := by omega)); (try (have y1 : w1.heap.size < w'.heap.size := by omega)); (try (have y2 : w2.heap.size < w'.heap.size := by omega)); (try (have y3 : w3.heap.size < w'.heap.size := by omega)); (try (have y4 : w4.heap.size < w'.heap.size := by omega)); (try (have y5 : w5.heap.size < w'.heap.size := by omega)); (try (have y6 : w6.heap.size < w'.heap.size := by omega))) | (go_at_call 46; refine (FI.out _).mono ?_; rintro e w' ⟨rfl, hb⟩; (try replace hb := below_undrew hb); (try replace hb := below_undrewN hb); obtain ⟨hcell, hfroz⟩ := bcell hb; have hz := hb.size; (try simp at hz); (try (have z6 := Nat.lt_of_lt_of_le z7 hz)); (try (have z7 := Nat.lt_of_lt_of_le z8 hz)); (try (have z8 := Nat.lt_of_lt_of_le z9 hz)); (try (have z9 := Nat.lt_of_lt_of_le (Nat.lt_succ_self _) hz)); (try (have z0 : w.heap.size < w'.heap.size := by omega)); (try (have z1 : w.heap.size + 1 < w'.heap.size := by omega)); (try (have z2 : w.heap.size + 1 + 1 < w'.heap.size := by omega)); (try (have z3 : w.heap.size + 1 + 1 + 1 < w'.heap.size := by omega)); (try (have y1 : w1.heap.size < w'.heap.size := by omega)); (try (have y2 : w2.heap.size < w'.heap.size := by omega)); (try (have y3 : w3.heap.size < w'.heap.size := by omega)); (try (have y4 : w4.heap.size < w'.heap.size := by omega)); (try (have y5 : w5.heap.size < w'.heap.size := by omega)); (try (have y6 : w6.heap.size < w'.heap.size := by omega))) | (go_at_call 47; refine (FA.out _).mono ?_; rintro e w' ⟨rfl, rfl⟩) | (go_at_call 48; refine (FB.out _).mono ?_; rintro e w' ⟨rfl, rfl⟩))
    exact bodyPost_ret (v := .tuple #[.agg #[.int .i64 (X), .int .i64 (Y)], .int .i64 (0)]) (by first | (simp only [results, Try.results12]; go_simp; done) | simp [results, Try.results12, go_sem, *]) rfl ⟨rfl, by (repeat (first | exact Below.refl _ _ | refine bl_drewN ?_ | refine bl_drew ?_ | refine bl_alloc ?_ _ | refine Below.setCell ?_ (by (first | (simp; done) | (simp; omega) | omega)) _ | refine bl_step (by assumption) ?_))⟩

end Go.Proofs.Ytbglnncejfhlmaa
