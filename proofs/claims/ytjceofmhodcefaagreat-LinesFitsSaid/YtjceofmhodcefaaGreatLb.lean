/- Several small texts in one: XLin4, XQuo. -/
import Derived.Test.YtjceofmhodcefaaGreatLin3
import Derived.Test.YtjceofmhodcefaaGreatRa
namespace Go.Proofs.YtjceofmhodcefaaGreat
open Go.RowKit

set_option maxHeartbeats 400000 in
theorem lfloor_any (n d : Int) (w : World) (h0 : -9223372036854775808 ≤ n) (h1 : n ≤ 9223372036854775807) (h2 : 1 ≤ d) (h3 : d ≤ 9223372036854775807) :
    Calls Tryz.prog 14 #[.int .i64 n, .int .i64 d] w fun e w' => e = .returned (.int .i64 (n / d)) ∧ w = w' := by
  by_cases hn : 0 ≤ n
  · have m0 := Int.emod_nonneg n (show d ≠ 0 by omega)
    have q0 : 0 ≤ n / d := Int.ediv_nonneg hn (by omega)
    have q1 : n / d ≤ n := Int.ediv_le_self d hn
    go_enter Tryz.func14, Tryz.ntmps14
    go_wp2
    go_ret
    exact ⟨rfl, rfl⟩
  · rcases tdiv_neg_cases n d h2 (by omega) h0 with ⟨a, b, c, f⟩ | ⟨a, b, c, f⟩
    · go_enter Tryz.func14, Tryz.ntmps14
      go_wp2
      go_ret
      exact ⟨rfl, rfl⟩
    · have e : Hid (n / d + 1 - 1 = n / d) := by unfold Hid; omega
      go_enter Tryz.func14, Tryz.ntmps14
      go_wp2
      go_ret
      exact ⟨by first | rfl | exact ret_one (by omega), rfl⟩

theorem middle_any (a b : Int) (w : World) (h0 : -4611686018427387904 ≤ a) (h1 : a ≤ 4611686018427387903) (h2 : -4611686018427387904 ≤ b) (h3 : b ≤ 4611686018427387903) :
    Calls Tryz.prog 13 #[.agg #[.int .i64 (a), .int .i64 (b)]] w fun e w' => e = .returned (.int .i64 ((a + b) / 2)) ∧ Below w.heap.size w w' := by
  have F := hidden fun w => lfloor_any (a + b) 2 w (by omega) (by omega) (by omega) (by omega)
  go_enter Tryz.func13, Tryz.ntmps13
  go_wp2_with (go_at_call 14; ((with_reducible refine (F.out _).mono ?_); rintro e w' ⟨rfl, rfl⟩))
  go_ret
  exact ⟨rfl, by (repeat (first | exact Below.refl _ _ | refine bl_drewN ?_ | refine bl_drew ?_ | refine bl_alloc ?_ _ | refine Below.setCell ?_ (by (first | (simp; done) | (simp; omega) | omega)) _ | refine bl_step (by assumption) ?_))⟩
theorem long_any (a b s : Int) (w : World) (hs : sgn a = s) (a0 : -1000000000 ≤ a) (ab : a ≤ b) (b1 : b ≤ 1000000000) (hw : b - a < 21600000) (s0 : -10800000 ≤ s) (s1 : s < 10800000) :
    Calls Tryz.prog 36 #[.agg #[.int .i64 (a), .int .i64 (b)]] w fun e w' => e = .returned (.agg #[.int .i64 (s), .int .i64 (s + (b - a))]) ∧ Below w.heap.size w w' := by
  have S := hidden fun w => signed_any a w (by omega) (by omega)
  rw [hs] at S
  go_enter Tryz.func36, Tryz.ntmps36
  go_wp2_with (go_at_call 19; ((with_reducible refine (S.out _).mono ?_); rintro e w' ⟨rfl, rfl⟩))
  exact bodyPost_ret (v := .agg #[.int .i64 (s), .int .i64 (s + (b - a))]) (by first | (simp only [results, Tryz.results36]; go_simp; done) | simp [results, Tryz.results36, go_sem, *]) rfl ⟨rfl, by (repeat (first | exact Below.refl _ _ | refine bl_drewN ?_ | refine bl_drew ?_ | refine bl_alloc ?_ _ | refine Below.setCell ?_ (by (first | (simp; done) | (simp; omega) | omega)) _ | refine bl_step (by assumption) ?_))⟩
set_option maxHeartbeats 1000000 in
theorem pover_walk (a b f g x y p q : Int) (B1 : Nat) (w : World) (h : okAt w B1)
    (S1 : Hid (∀ w, Calls Tryz.prog 60 #[.agg #[.int .i64 (1073741824), .int .i64 (1073741824)], .agg #[.int .i64 (f), .int .i64 (g)], .int .i64 a] w fun e w' => e = .returned (.tuple #[.int .i64 x, .int .i64 y, .int .i64 0]) ∧ Below w.heap.size w w'))
    (S2 : Hid (∀ w, Calls Tryz.prog 60 #[.agg #[.int .i64 (1073741824), .int .i64 (1073741824)], .agg #[.int .i64 (f), .int .i64 (g)], .int .i64 b] w fun e w' => e = .returned (.tuple #[.int .i64 p, .int .i64 q, .int .i64 0]) ∧ Below w.heap.size w w')) :
    Calls Tryz.prog 31 #[.pointer (some ⟨B1, 0, none⟩), .agg #[.int .i64 (a), .int .i64 (b)], .agg #[.int .i64 (f), .int .i64 (g)]] w fun e w' => e = .returned (.agg #[.int .i64 (min x p), .int .i64 (max y q)]) ∧ Below w.heap.size w w' := by
  have h3 := okAt_lt h; have h4 : B1 < w.heap.size + 1 := (by omega); have h5 : B1 < w.heap.size + 1 + 1 := (by omega); have h6 : B1 < w.heap.size + 1 + 1 + 1 := (by omega); have h7 : B1 < w.heap.size + 1 + 1 + 1 + 1 := (by omega); obtain ⟨h1, h2⟩ := h
  go_enter Tryz.func31, Tryz.ntmps31
  go_wp2_with (first | ((first | (go_at_call 60; ((with_reducible refine (S1.out _).mono ?_); rintro e w' ⟨rfl, hb⟩)) | (go_at_call 60; ((with_reducible refine (S2.out _).mono ?_); rintro e w' ⟨rfl, hb⟩))); (try replace hb := below_undrew hb); (try replace hb := below_undrewN hb); obtain ⟨hcell, hfroz⟩ := bcell hb; have hz := hb.size; (try simp at hz); (try (have z6 := Nat.lt_of_lt_of_le z7 hz)); (try (have z7 := Nat.lt_of_lt_of_le z8 hz)); (try (have z8 := Nat.lt_of_lt_of_le z9 hz)); (try (have z9 := Nat.lt_of_lt_of_le (Nat.lt_succ_self _) hz)); (try (have z0 : w.heap.size < w'.heap.size := by omega)); (try (have z1 : w.heap.size + 1 < w'.heap.size := by omega)); (try (have z2 : w.heap.size + 1 + 1 < w'.heap.size := by omega)); (try (have z3 : w.heap.size + 1 + 1 + 1 < w'.heap.size := by omega)); (try (have hB1 : B1 < w'.heap.size := by omega)); (try (have hB3 : B1 < w'.heap.size + 1 := by omega))) | (go_at_call 30; ((with_reducible refine (keep_any _ _ ?hc ?hf).mono ?_); (case hc => (simp [go_sem, *]; done)); (case hf => (simp [go_sem, *]; done)); rintro e w' ⟨rfl, rfl⟩)))
  exact bodyPost_ret (v := .agg #[.int .i64 (min x p), .int .i64 (max y q)]) (by first | (simp only [results, Tryz.results31]; go_simp; done) | simp [results, Tryz.results31, go_sem, *]) rfl ⟨rfl, by (repeat (first | exact Below.refl _ _ | refine bl_drewN ?_ | refine bl_drew ?_ | refine bl_alloc ?_ _ | refine Below.setCell ?_ (by (first | (simp; done) | (simp; omega) | omega)) _ | refine bl_step (by assumption) ?_))⟩
set_option maxRecDepth 100000 in
set_option maxHeartbeats 4000000 in
theorem given2_ok (c d a b p q e f r s : Int) (B1 : Nat) (w : World) (c0 : w.cell? ⟨B1, 0, none⟩ = some (.int .i64 c)) (c1 : w.cell? ⟨B1, 1, none⟩ = some (.int .i64 d)) (c2 : w.cell? ⟨B1, 2, none⟩ = some (.int .i64 a)) (c3 : w.cell? ⟨B1, 3, none⟩ = some (.int .i64 b)) (c4 : w.cell? ⟨B1, 4, none⟩ = some (.int .i64 p)) (c5 : w.cell? ⟨B1, 5, none⟩ = some (.int .i64 q)) (c6 : w.cell? ⟨B1, 6, none⟩ = some (.int .i64 c)) (c7 : w.cell? ⟨B1, 7, none⟩ = some (.int .i64 d)) (c8 : w.cell? ⟨B1, 8, none⟩ = some (.int .i64 e)) (c9 : w.cell? ⟨B1, 9, none⟩ = some (.int .i64 f)) (c10 : w.cell? ⟨B1, 10, none⟩ = some (.int .i64 r)) (c11 : w.cell? ⟨B1, 11, none⟩ = some (.int .i64 s)) (h1 : lineB c d a b p q = true) (h2 : lineB c d e f r s = true) :
    Calls Tryz.prog 11 #[.slice (some ⟨B1, 0, none⟩) 2 2] w fun e w' => e = .returned (.int .i64 0) ∧ Below w.heap.size w w' := by
  have V1 : Hid (∀ w, Calls Tryz.prog 37 #[.agg #[.int .i64 c, .int .i64 d, .int .i64 a, .int .i64 b, .int .i64 p, .int .i64 q]] w fun e w' => e = .returned (.bool true) ∧ Below w.heap.size w w') := hidden fun w => by have := lvalid_any c d a b p q w; rw [h1] at this; exact this
  have V2 : Hid (∀ w, Calls Tryz.prog 37 #[.agg #[.int .i64 c, .int .i64 d, .int .i64 e, .int .i64 f, .int .i64 r, .int .i64 s]] w fun e w' => e = .returned (.bool true) ∧ Below w.heap.size w w') := hidden fun w => by have := lvalid_any c d e f r s w; rw [h2] at this; exact this
  have hB0 : B1 < w.heap.size := World.block_lt_of_cell? _ _ c0
  clear h1 h2
  go_enter Tryz.func11, Tryz.ntmps11
  go_wp2
  refine wp_loop_rounds 3 ?_
  rw [rounds_succ]
  go_wp2_with ((first | (go_at_call 37; ((with_reducible refine (V1.out _).mono ?_); rintro e w' ⟨rfl, hb⟩)) | (go_at_call 37; ((with_reducible refine (V2.out _).mono ?_); rintro e w' ⟨rfl, hb⟩))); (try replace hb := below_undrew hb); (try replace hb := below_undrewN hb); obtain ⟨hcell, hfroz⟩ := bcell hb; have hz := hb.size; (try simp at hz); (try (have z6 := Nat.lt_of_lt_of_le z7 hz)); (try (have z7 := Nat.lt_of_lt_of_le z8 hz)); (try (have z8 := Nat.lt_of_lt_of_le z9 hz)); (try (have z9 := Nat.lt_of_lt_of_le (Nat.lt_succ_self _) hz)); (try (have z0 : w.heap.size < w'.heap.size := by omega)); (try (have z1 : w.heap.size + 1 < w'.heap.size := by omega)); (try (have z2 : w.heap.size + 1 + 1 < w'.heap.size := by omega)); (try (have z3 : w.heap.size + 1 + 1 + 1 < w'.heap.size := by omega)); (try (have y1 : w1.heap.size < w'.heap.size := by omega)); (try (have y2 : w2.heap.size < w'.heap.size := by omega)); (try (have x1 : w1.heap.size + 1 < w'.heap.size := by omega)); (try (have x2 : w2.heap.size + 1 < w'.heap.size := by omega)); (try (have hB1 : B1 < w'.heap.size := by omega)); (try (have hB3 : B1 < w'.heap.size + 1 := by omega)))
  rw [rounds_succ]
  go_wp2_with ((first | (go_at_call 37; ((with_reducible refine (V1.out _).mono ?_); rintro e w' ⟨rfl, hb⟩)) | (go_at_call 37; ((with_reducible refine (V2.out _).mono ?_); rintro e w' ⟨rfl, hb⟩))); (try replace hb := below_undrew hb); (try replace hb := below_undrewN hb); obtain ⟨hcell, hfroz⟩ := bcell hb; have hz := hb.size; (try simp at hz); (try (have z6 := Nat.lt_of_lt_of_le z7 hz)); (try (have z7 := Nat.lt_of_lt_of_le z8 hz)); (try (have z8 := Nat.lt_of_lt_of_le z9 hz)); (try (have z9 := Nat.lt_of_lt_of_le (Nat.lt_succ_self _) hz)); (try (have z0 : w.heap.size < w'.heap.size := by omega)); (try (have z1 : w.heap.size + 1 < w'.heap.size := by omega)); (try (have z2 : w.heap.size + 1 + 1 < w'.heap.size := by omega)); (try (have z3 : w.heap.size + 1 + 1 + 1 < w'.heap.size := by omega)); (try (have y1 : w1.heap.size < w'.heap.size := by omega)); (try (have y2 : w2.heap.size < w'.heap.size := by omega)); (try (have x1 : w1.heap.size + 1 < w'.heap.size := by omega)); (try (have x2 : w2.heap.size + 1 < w'.heap.size := by omega)); (try (have hB1 : B1 < w'.heap.size := by omega)); (try (have hB3 : B1 < w'.heap.size + 1 := by omega)))
  rw [rounds_succ]
  go_wp2
  refine wp_loop_rounds 3 ?_
  rw [rounds_succ]
  go_wp2
  go_quiet (fail)
  obtain ⟨w1, rfl⟩ : ∃ v, v = w' := ⟨_, rfl⟩
  refine name_world (F := Exit.then _ _ _ _) ?_
  intro w' hb
  (try replace hb := below_undrew hb); (try replace hb := below_undrewN hb); obtain ⟨hcell, hfroz⟩ := bcell hb; have hz := hb.size; (try simp at hz); (try (have z6 := Nat.lt_of_lt_of_le z7 hz)); (try (have z7 := Nat.lt_of_lt_of_le z8 hz)); (try (have z8 := Nat.lt_of_lt_of_le z9 hz)); (try (have z9 := Nat.lt_of_lt_of_le (Nat.lt_succ_self _) hz)); (try (have z0 : w.heap.size < w'.heap.size := by omega)); (try (have z1 : w.heap.size + 1 < w'.heap.size := by omega)); (try (have z2 : w.heap.size + 1 + 1 < w'.heap.size := by omega)); (try (have z3 : w.heap.size + 1 + 1 + 1 < w'.heap.size := by omega)); (try (have y1 : w1.heap.size < w'.heap.size := by omega)); (try (have y2 : w2.heap.size < w'.heap.size := by omega)); (try (have x1 : w1.heap.size + 1 < w'.heap.size := by omega)); (try (have x2 : w2.heap.size + 1 < w'.heap.size := by omega)); (try (have hB1 : B1 < w'.heap.size := by omega)); (try (have hB3 : B1 < w'.heap.size + 1 := by omega))
  go_wp2
  rw [rounds_succ]
  go_wp2
  go_quiet (fail)
  obtain ⟨w2, rfl⟩ : ∃ v, v = w' := ⟨_, rfl⟩
  refine name_world (F := Exit.then _ _ _ _) ?_
  intro w' hb
  (try replace hb := below_undrew hb); (try replace hb := below_undrewN hb); obtain ⟨hcell, hfroz⟩ := bcell hb; have hz := hb.size; (try simp at hz); (try (have z6 := Nat.lt_of_lt_of_le z7 hz)); (try (have z7 := Nat.lt_of_lt_of_le z8 hz)); (try (have z8 := Nat.lt_of_lt_of_le z9 hz)); (try (have z9 := Nat.lt_of_lt_of_le (Nat.lt_succ_self _) hz)); (try (have z0 : w.heap.size < w'.heap.size := by omega)); (try (have z1 : w.heap.size + 1 < w'.heap.size := by omega)); (try (have z2 : w.heap.size + 1 + 1 < w'.heap.size := by omega)); (try (have z3 : w.heap.size + 1 + 1 + 1 < w'.heap.size := by omega)); (try (have y1 : w1.heap.size < w'.heap.size := by omega)); (try (have y2 : w2.heap.size < w'.heap.size := by omega)); (try (have x1 : w1.heap.size + 1 < w'.heap.size := by omega)); (try (have x2 : w2.heap.size + 1 < w'.heap.size := by omega)); (try (have hB1 : B1 < w'.heap.size := by omega)); (try (have hB3 : B1 < w'.heap.size + 1 := by omega))
  go_wp2
  rw [rounds_succ]
  go_wp2
  go_ret
  exact ⟨rfl, by (repeat (first | exact Below.refl _ _ | refine bl_drewN ?_ | refine bl_drew ?_ | refine bl_alloc ?_ _ | refine Below.setCell ?_ (by (first | (simp; done) | (simp; omega) | omega)) _ | refine bl_step (by assumption) ?_))⟩

end Go.Proofs.YtjceofmhodcefaaGreat

namespace Go.Proofs.YtjceofmhodcefaaGreat
open Go.RowKit

theorem fl_pos (V d : Int) (h : 0 < d) : fl V d = V / d := by unfold fl; rw [if_pos h]

set_option maxRecDepth 100000 in
set_option maxHeartbeats 2000000 in
theorem quotient_walk (m n o p d M O hi1 lo1 hi2 lo2 hi3 lo3 q : Int) (w : World) (hm : IntKind.i64.wrap (8192 * m) = M) (ho : IntKind.i64.wrap (8192 * o) = O)
    (P1 : Hid (∀ w, Calls Tryz.prog 42 #[.int .i64 M, .int .i64 n] w fun r w' => r = .returned (.tuple #[.agg #[.int .i64 (hi1), .int .i64 (lo1)], .int .i64 (0)]) ∧ Below w.heap.size w w'))
    (P2 : Hid (∀ w, Calls Tryz.prog 42 #[.int .i64 O, .int .i64 p] w fun r w' => r = .returned (.tuple #[.agg #[.int .i64 (hi2), .int .i64 (lo2)], .int .i64 (0)]) ∧ Below w.heap.size w w'))
    (S : Hid (∀ w, Calls Tryz.prog 43 #[.agg #[.int .i64 (hi1), .int .i64 (lo1)], .agg #[.int .i64 (hi2), .int .i64 (lo2)]] w fun r w' => r = .returned (.tuple #[.agg #[.int .i64 (hi3), .int .i64 (lo3)], .int .i64 (0)]) ∧ Below w.heap.size w w'))
    (F : Hid (∀ w, Calls Tryz.prog 44 #[.agg #[.int .i64 (hi3), .int .i64 (lo3)], .int .i64 d] w fun r w' => r = .returned (.tuple #[.int .i64 q, .int .i64 0]) ∧ Below w.heap.size w w')) :
    Calls Tryz.prog 17 #[.int .i64 m, .int .i64 n, .int .i64 o, .int .i64 p, .int .i64 d] w fun e w' => e = .returned (.tuple #[.int .i64 q, .int .i64 0]) ∧ Below w.heap.size w w' := by
  go_enter Tryz.func17, Tryz.ntmps17
  go_wp2_with ((first | (go_at_call 42; ((with_reducible refine (P1.out _).mono ?_); rintro e w' ⟨rfl, hb⟩); have nm0 := trivial) | (go_at_call 42; ((with_reducible refine (P2.out _).mono ?_); rintro e w' ⟨rfl, hb⟩); have nm1 := trivial) | (go_at_call 43; ((with_reducible refine (S.out _).mono ?_); rintro e w' ⟨rfl, hb⟩); have nm2 := trivial) | (go_at_call 44; ((with_reducible refine (F.out _).mono ?_); rintro e w' ⟨rfl, hb⟩); have nm3 := trivial)); (try replace hb := below_undrew hb); (try replace hb := below_undrewN hb); obtain ⟨hcell, hfroz⟩ := bcell hb; have hz := hb.size; (try simp at hz); (try (have z6 := Nat.lt_of_lt_of_le z7 hz)); (try (have z7 := Nat.lt_of_lt_of_le z8 hz)); (try (have z8 := Nat.lt_of_lt_of_le z9 hz)); (try (have z9 := Nat.lt_of_lt_of_le (Nat.lt_succ_self _) hz)); (try (have z0 : w.heap.size < w'.heap.size := by omega)); (try (have z1 : w.heap.size + 1 < w'.heap.size := by omega)); (try (have z2 : w.heap.size + 1 + 1 < w'.heap.size := by omega)); (try (have z3 : w.heap.size + 1 + 1 + 1 < w'.heap.size := by omega)); (try (have y1 : w1.heap.size < w'.heap.size := by omega)); (try (have y2 : w2.heap.size < w'.heap.size := by omega)); (try (have y3 : w3.heap.size < w'.heap.size := by omega)); (try (have x1 : w1.heap.size + 1 < w'.heap.size := by omega)); (try (have x2 : w2.heap.size + 1 < w'.heap.size := by omega)); (try (have x3 : w3.heap.size + 1 < w'.heap.size := by omega)); (try (have z10 : w1.heap.size < w'.heap.size + 1 := by omega)); (try (have z20 : w2.heap.size < w'.heap.size + 1 := by omega)); (try (have z30 : w3.heap.size < w'.heap.size + 1 := by omega)); (first | (clear nm0; obtain ⟨w1, rfl⟩ : ∃ v, v = w' := ⟨_, rfl⟩) | (clear nm1; obtain ⟨w2, rfl⟩ : ∃ v, v = w' := ⟨_, rfl⟩) | (clear nm2; obtain ⟨w3, rfl⟩ : ∃ v, v = w' := ⟨_, rfl⟩) | (clear nm3; obtain ⟨w4, rfl⟩ : ∃ v, v = w' := ⟨_, rfl⟩)))
  go_ret2
  exact ⟨rfl, by (repeat (first | exact Below.refl _ _ | refine bl_drewN ?_ | refine bl_drew ?_ | refine bl_alloc ?_ _ | refine Below.setCell ?_ (by (first | (simp; done) | (simp; omega) | omega)) _ | refine bl_step (by assumption) ?_))⟩

theorem wsub_walk (a b c d x y : Int) (w : World) (h1 : wideB a b = true) (h2 : wideB c d = true) (hx : a - c + (b - d) / 1152921504606846976 = x) (hy : (b - d) % 1152921504606846976 = y) (h4 : wideB x y = true) :
    Calls Tryz.prog 43 #[.agg #[.int .i64 (a), .int .i64 (b)], .agg #[.int .i64 (c), .int .i64 (d)]] w fun e w' => e = .returned (.tuple #[.agg #[.int .i64 (x), .int .i64 (y)], .int .i64 (0)]) ∧ Below w.heap.size w w' := by
  have k1 := wideB_t h1
  have k2 := wideB_t h2
  have F := hidden fun w => wfit_ok (a - c) (b - d) x y w (by omega) (by omega) (by omega) (by omega) hx hy h4
  have V1 : Hid (∀ w, Calls Tryz.prog 70 #[.agg #[.int .i64 (a), .int .i64 (b)]] w fun e w' => e = .returned (.bool true) ∧ Below w.heap.size w w') := hidden fun w => by have := wvalid_any a b w; rw [h1] at this; exact this
  have V2 : Hid (∀ w, Calls Tryz.prog 70 #[.agg #[.int .i64 (c), .int .i64 (d)]] w fun e w' => e = .returned (.bool true) ∧ Below w.heap.size w w') := hidden fun w => by have := wvalid_any c d w; rw [h2] at this; exact this
  clear hx hy h4 h1 h2
  go_enter Tryz.func43, Tryz.ntmps43
  go_wp2_with ((first | (go_at_call 70; ((with_reducible refine (V1.out _).mono ?_); rintro e w' ⟨rfl, hb⟩)) | (go_at_call 70; ((with_reducible refine (V2.out _).mono ?_); rintro e w' ⟨rfl, hb⟩)) | (go_at_call 71; ((with_reducible refine (F.out _).mono ?_); rintro e w' ⟨rfl, hb⟩))); (try replace hb := below_undrew hb); (try replace hb := below_undrewN hb); obtain ⟨hcell, hfroz⟩ := bcell hb; have hz := hb.size; (try simp at hz); (try (have z6 := Nat.lt_of_lt_of_le z7 hz)); (try (have z7 := Nat.lt_of_lt_of_le z8 hz)); (try (have z8 := Nat.lt_of_lt_of_le z9 hz)); (try (have z9 := Nat.lt_of_lt_of_le (Nat.lt_succ_self _) hz)); (try (have z0 : w.heap.size < w'.heap.size := by omega)); (try (have z1 : w.heap.size + 1 < w'.heap.size := by omega)); (try (have z2 : w.heap.size + 1 + 1 < w'.heap.size := by omega)); (try (have z3 : w.heap.size + 1 + 1 + 1 < w'.heap.size := by omega)))
  exact bodyPost_ret (v := .tuple #[.agg #[.int .i64 (x), .int .i64 (y)], .int .i64 (0)]) (by first | (simp only [results, Tryz.results43]; go_simp; done) | simp [results, Tryz.results43, go_sem, *]) rfl ⟨rfl, by (repeat (first | exact Below.refl _ _ | refine bl_drewN ?_ | refine bl_drew ?_ | refine bl_alloc ?_ _ | refine Below.setCell ?_ (by (first | (simp; done) | (simp; omega) | omega)) _ | refine bl_step (by assumption) ?_))⟩

theorem wfloor_is (a b d q : Int) (w : World) (h : wideB a b = true) (hd : d ≠ 0) (d1 : -9223372036854775808 ≤ d) (d2 : d ≤ 9223372036854775807) (hq : fl (a * 1152921504606846976 + b) d = q) (q0 : -9223372036854775808 ≤ q ∧ q ≤ 9223372036854775807) :
    Calls Tryz.prog 44 #[.agg #[.int .i64 (a), .int .i64 (b)], .int .i64 d] w fun e w' => e = .returned (.tuple #[.int .i64 q, .int .i64 0]) ∧ Below w.heap.size w w' := by
  have k := wfloor_any a b d w h hd d1 d2
  rw [hq, fitT_ok q q0] at k
  exact k
end Go.Proofs.YtjceofmhodcefaaGreat
