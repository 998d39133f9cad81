/- The angle of some units, as a contract. -/
import Derived.Test.YtjceofmhodcefaaMulV
namespace Go.Proofs.Ytjceofmhodcefaa
open Go.RowKit

/-- pi times 2^256, rounded down, and the angle of n units times 2^256, rounded down -/
def piW : Int := 3 * W256 + nv 2611923443488327891 1376283091369227076 11820040416388919760 589684135938649225
def radV (n : Int) : Int := piW * n / 10800000

set_option maxHeartbeats 4000000 in
theorem rad_walk (n h3 l3 s3 c3 t3 h2 l2 s2 c2 t2 h1 l1 s1 c1 t1 h0 l0 s0 c0 t0 q0 q1 q2 q3 : Int) (w : World) (n0 : 0 ≤ n) (n1 : n ≤ 5400000)
    (M3 : Hid (∀ w, Calls Try.prog 68 #[.int .u64 589684135938649225, .int .u64 n] w fun e w' => e = .returned (.tuple #[.int .u64 h3, .int .u64 l3]) ∧ w = w'))
    (M2 : Hid (∀ w, Calls Try.prog 68 #[.int .u64 11820040416388919760, .int .u64 n] w fun e w' => e = .returned (.tuple #[.int .u64 h2, .int .u64 l2]) ∧ w = w'))
    (M1 : Hid (∀ w, Calls Try.prog 68 #[.int .u64 1376283091369227076, .int .u64 n] w fun e w' => e = .returned (.tuple #[.int .u64 h1, .int .u64 l1]) ∧ w = w'))
    (M0 : Hid (∀ w, Calls Try.prog 68 #[.int .u64 2611923443488327891, .int .u64 n] w fun e w' => e = .returned (.tuple #[.int .u64 h0, .int .u64 l0]) ∧ w = w'))
    (A3 : ∀ w, (callFunc 87 #[.int .u64 l3, .int .u64 0, .int .u64 0]).run Try.prog w = .ok (.value (.tuple #[.int .u64 s3, .int .u64 c3])) w) (W3 : IntKind.u64.wrap (h3 + c3) = t3)
    (A2 : ∀ w, (callFunc 87 #[.int .u64 l2, .int .u64 t3, .int .u64 0]).run Try.prog w = .ok (.value (.tuple #[.int .u64 s2, .int .u64 c2])) w) (W2 : IntKind.u64.wrap (h2 + c2) = t2)
    (A1 : ∀ w, (callFunc 87 #[.int .u64 l1, .int .u64 t2, .int .u64 0]).run Try.prog w = .ok (.value (.tuple #[.int .u64 s1, .int .u64 c1])) w) (W1 : IntKind.u64.wrap (h1 + c1) = t1)
    (A0 : ∀ w, (callFunc 87 #[.int .u64 l0, .int .u64 t1, .int .u64 0]).run Try.prog w = .ok (.value (.tuple #[.int .u64 s0, .int .u64 c0])) w) (W0 : IntKind.u64.wrap (h0 + c0) = t0)
    (b0 : 0 ≤ t0) (b1 : t0 ≤ 5400000)
    (D : Hid (∀ w, Calls Try.prog 88 #[.agg #[.int .u64 s0, .int .u64 s1, .int .u64 s2, .int .u64 s3], .int .u64 ((t0 + 3 * n) % 10800000), .int .u64 10800000] w fun e w' => e = .returned (.agg #[.int .u64 q0, .int .u64 q1, .int .u64 q2, .int .u64 q3]) ∧ Below w.heap.size w w')) :
    Calls Try.prog 82 #[.int .i64 n] w fun e w' => e = .returned (.agg #[.int .u64 q0, .int .u64 q1, .int .u64 q2, .int .u64 q3]) ∧ Below w.heap.size w w' := by
  go_enter Try.func82, Try.ntmps82
  go_wp2
  refine wp_loop_rounds 5 ?_
  rw [rounds_succ]
  go_wp2_with (go_at_call 68; ((with_reducible refine (M3.out _).mono ?_); rintro e w' ⟨rfl, rfl⟩))
  rw [rounds_succ]
  go_wp2_with (go_at_call 68; ((with_reducible refine (M2.out _).mono ?_); rintro e w' ⟨rfl, rfl⟩))
  rw [rounds_succ]
  go_wp2_with (go_at_call 68; ((with_reducible refine (M1.out _).mono ?_); rintro e w' ⟨rfl, rfl⟩))
  rw [rounds_succ]
  go_wp2_with (go_at_call 68; ((with_reducible refine (M0.out _).mono ?_); rintro e w' ⟨rfl, rfl⟩))
  rw [rounds_succ]
  go_wp2_with (go_at_call 88; ((with_reducible refine (D.out _).mono ?_); rintro e w' ⟨rfl, hb⟩); (try replace hb := below_undrew hb); (try replace hb := below_undrewN hb); obtain ⟨hcell, hfroz⟩ := bcell hb; have hz := hb.size; (try simp at hz); (try (have z6 := Nat.lt_of_lt_of_le z7 hz)); (try (have z7 := Nat.lt_of_lt_of_le z8 hz)); (try (have z8 := Nat.lt_of_lt_of_le z9 hz)); (try (have z9 := Nat.lt_of_lt_of_le (Nat.lt_succ_self _) hz)); (try (have z0 : w.heap.size < w'.heap.size := by omega)); (try (have z1 : w.heap.size + 1 < w'.heap.size := by omega)); (try (have z2 : w.heap.size + 1 + 1 < w'.heap.size := by omega)); (try (have z3 : w.heap.size + 1 + 1 + 1 < w'.heap.size := by omega)); (try (have y1 : w1.heap.size < w'.heap.size := by omega)); (try (have y2 : w2.heap.size < w'.heap.size := by omega)); (try (have y3 : w3.heap.size < w'.heap.size := by omega)); (try (have y4 : w4.heap.size < w'.heap.size := by omega)); (try (have y5 : w5.heap.size < w'.heap.size := by omega)); (try (have y6 : w6.heap.size < w'.heap.size := by omega)); (try (have x1 : w1.heap.size + 1 < w'.heap.size := by omega)); (try (have x2 : w2.heap.size + 1 < w'.heap.size := by omega)); (try (have x3 : w3.heap.size + 1 < w'.heap.size := by omega)); (try (have x4 : w4.heap.size + 1 < w'.heap.size := by omega)); (try (have x5 : w5.heap.size + 1 < w'.heap.size := by omega)); (try (have x6 : w6.heap.size + 1 < w'.heap.size := by omega)))
  exact bodyPost_ret (v := .agg #[.int .u64 q0, .int .u64 q1, .int .u64 q2, .int .u64 q3]) (by first | (simp only [results, Try.results82]; go_simp; done) | simp [results, Try.results82, go_sem, *]) rfl ⟨rfl, by (repeat (first | exact Below.refl _ _ | refine bl_drewN ?_ | refine bl_drew ?_ | refine bl_alloc ?_ _ | refine Below.setCell ?_ (by (first | (simp; done) | (simp; omega) | omega)) _ | refine bl_step (by assumption) ?_))⟩

/-- one place of the product with a number of units -/
theorem rad_word (x n t : Int) (hx : word x) (n0 : 0 ≤ n) (n1 : n ≤ 5400000) (t0 : 0 ≤ t) (t1 : t ≤ 5400000) : ∃ h l s c t2,
    Hid (∀ w, Calls Try.prog 68 #[.int .u64 x, .int .u64 n] w fun e w' => e = .returned (.tuple #[.int .u64 h, .int .u64 l]) ∧ w = w') ∧
    (∀ w, (callFunc 87 #[.int .u64 l, .int .u64 t, .int .u64 0]).run Try.prog w = .ok (.value (.tuple #[.int .u64 s, .int .u64 c])) w) ∧ IntKind.u64.wrap (h + c) = t2 ∧ word s ∧ 0 ≤ t2 ∧ t2 ≤ 5400000 ∧ t2 * 18446744073709551616 + s = x * n + t := by
  have p0 : 0 ≤ x * n := Int.mul_nonneg hx.1 n0
  have p1 : x * n ≤ 18446744073709551615 * 5400000 := Int.mul_le_mul hx.2 n1 n0 (by omega)
  have M := fun w => mul64_any x n w hx.1 hx.2 n0 (by omega)
  generalize x * n = P at *
  refine ⟨P / 18446744073709551616, P % 18446744073709551616, (P % 18446744073709551616 + t + 0) % 18446744073709551616, (P % 18446744073709551616 + t + 0) / 18446744073709551616, P / 18446744073709551616 + (P % 18446744073709551616 + t + 0) / 18446744073709551616, hidden M, ?_, ?_, ?_, ?_, ?_, ?_⟩
  · exact fun w => add64_run _ t 0 (by omega) t0 (by omega) (by omega) w
  · rw [IntKind.wrap_u64]; omega
  · unfold word; omega
  · omega
  · omega
  · omega

theorem radV_bd (n : Int) (n0 : 0 ≤ n) (n1 : n ≤ 2700000) : 0 ≤ radV n ∧ radV n < W256 := by
  unfold radV piW nv W256 W64
  omega

theorem rad_any (n : Int) (w : World) (n0 : 0 ≤ n) (n1 : n ≤ 2700000) :
    Calls Try.prog 82 #[.int .i64 n] w fun e w' => e = .returned (NUM (radV n)) ∧ Below w.heap.size w w' ∧ 0 ≤ radV n ∧ radV n < W256 := by
  obtain ⟨h3, l3, s3, c3, t3, M3, A3, E3, w3, x3, y3, e3⟩ := rad_word 589684135938649225 n 0 ⟨by omega, by omega⟩ n0 (by omega) (by omega) (by omega)
  obtain ⟨h2, l2, s2, c2, t2, M2, A2, E2, w2, x2, y2, e2⟩ := rad_word 11820040416388919760 n t3 ⟨by omega, by omega⟩ n0 (by omega) x3 y3
  obtain ⟨h1, l1, s1, c1, t1, M1, A1, E1, w1, x1, y1, e1⟩ := rad_word 1376283091369227076 n t2 ⟨by omega, by omega⟩ n0 (by omega) x2 y2
  obtain ⟨h0, l0, s0, c0, t0, M0, A0, E0, w0, x0, y0, e0⟩ := rad_word 2611923443488327891 n t1 ⟨by omega, by omega⟩ n0 (by omega) x1 y1
  have k := nv_digits s0 s1 s2 s3 w0 w1 w2 w3
  have tb : 7 * t0 ≤ n := by unfold word at *; omega
  have em : (t0 + 3 * n) % 10800000 = t0 + 3 * n := by omega
  have D := fun w => ndiv_any (nv s0 s1 s2 s3) ((t0 + 3 * n) % 10800000) 10800000 w k.2.2.2.2.1 k.2.2.2.2.2 (by omega) (by omega) (by omega)
  have ev : ((t0 + 3 * n) % 10800000 * W256 + nv s0 s1 s2 s3) / 10800000 = radV n := by
    rw [em]
    unfold radV
    congr 1
    unfold piW nv W256 W64
    omega
  rw [ev, NUM_nv s0 s1 s2 s3 w0 w1 w2 w3] at D
  obtain ⟨e, w', hD⟩ : ∃ r0 r1 : Int, (0 ≤ radV n ∧ radV n < W256) := ⟨0, 0, by
    unfold radV piW nv W256 W64
    omega⟩
  obtain ⟨q0, q1, q2, q3, _, _, _, _, _, nQ⟩ := NUM_words (radV n) hD.1 hD.2
  have D' : ∀ w, Calls Try.prog 88 #[.agg #[.int .u64 s0, .int .u64 s1, .int .u64 s2, .int .u64 s3], .int .u64 ((t0 + 3 * n) % 10800000), .int .u64 10800000] w fun e w' => e = .returned (.agg #[.int .u64 q0, .int .u64 q1, .int .u64 q2, .int .u64 q3]) ∧ Below w.heap.size w w' :=
    fun w => (D w).mono fun _ _ ⟨a, b, _⟩ => ⟨by rw [← nQ]; exact a, b⟩
  refine (rad_walk n h3 l3 s3 c3 t3 h2 l2 s2 c2 t2 h1 l1 s1 c1 t1 h0 l0 s0 c0 t0 q0 q1 q2 q3 w n0 (by omega) M3 M2 M1 M0 A3 E3 A2 E2 A1 E1 A0 E0 x0 y0 (hidden D')).mono fun _ _ ⟨a, b⟩ => ⟨by rw [nQ]; exact a, b, hD.1, hD.2⟩

end Go.Proofs.Ytjceofmhodcefaa
