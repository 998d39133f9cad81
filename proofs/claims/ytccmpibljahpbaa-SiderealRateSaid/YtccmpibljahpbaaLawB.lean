/- The statement on the rate of Aries: it goes on by the same number of units, up to a unit, wherever it begins. -/
import Derived.Test.YtccmpibljahpbaaLawA
namespace Go.Proofs.Ytccmpibljahpbaa
open Go.RowKit

def gr (t : Int) : Int := arcLo (lowA t) (upA t)

theorem gr_eq (t : Int) : gr t = lowA t % 21600000 := by
  unfold gr arcLo
  rw [if_neg]
  unfold lowA upA; omega

theorem gr_bd (t : Int) : 0 ≤ gr t ∧ gr t < 21600000 := by rw [gr_eq]; omega

theorem sgn_of (n k d : Int) (h : n = 21600000 * k + d) (h0 : -10800000 ≤ d) (h1 : d < 10800000) : sgn n = d := by
  unfold sgn; subst h; split <;> omega

theorem low_add (x b : Int) : lowA x + 21659138841977 * b / 86400000000000 ≤ lowA (x + b) ∧ lowA (x + b) ≤ lowA x + 21659138841977 * b / 86400000000000 + 1 := by
  have e : NN (x + b) = NN x + 21659138841977 * b := by unfold NN; omega
  unfold lowA
  rw [e]
  generalize NN x = n
  generalize 21659138841977 * b = m
  omega

theorem rate_diff (x y b : Int) : -3 ≤ sgn (gr (x + b) - gr x - (gr (y + b) - gr y)) ∧ sgn (gr (x + b) - gr x - (gr (y + b) - gr y)) ≤ 3 := by
  have h1 := low_add x b
  have h2 := low_add y b
  simp only [gr_eq]
  generalize 21659138841977 * b / 86400000000000 = q at *
  generalize lowA (x + b) = a1 at *
  generalize lowA x = a0 at *
  generalize lowA (y + b) = b1 at *
  generalize lowA y = b0 at *
  rw [sgn_of _ (-(a1 / 21600000) + a0 / 21600000 + b1 / 21600000 - b0 / 21600000) (a1 - a0 - (b1 - b0)) (by omega) (by omega) (by omega)]
  omega

theorem rate_year (x : Int) : -120000 < sgn (gr (x + 31644000000) - gr x - 5400000) ∧ sgn (gr (x + 31644000000) - gr x - 5400000) < 120000 := by
  have h1 := low_add x 31644000000
  have e : (21659138841977 : Int) * 31644000000 / 86400000000000 = 7932659600 := by decide
  rw [e] at h1
  simp only [gr_eq]
  generalize lowA (x + 31644000000) = a1 at *
  generalize lowA x = a0 at *
  rw [sgn_of _ (-(a1 / 21600000) + a0 / 21600000 + 367) (a1 - a0 - 7932600000) (by omega) (by omega) (by omega)]
  omega

set_option maxHeartbeats 400000 in
theorem gone_any (t b : Int) (w : World) (h0 : -70368744177664 ≤ t) (h1 : t ≤ 70368744177664) (h2 : -70368744177664 ≤ t + b) (h3 : t + b ≤ 70368744177664) :
    Calls Try.prog 9 #[.int .i64 t, .int .i64 b] w fun e w' => e = .returned (.tuple #[.int .i64 (gr (t + b) - gr t), .bool true]) ∧ Below w.heap.size w w' := by
  have G : ∀ (t : Int) (w : World), -70368744177664 ≤ t → t ≤ 70368744177664 → Calls Try.prog 13 #[.int .i64 t] w fun e w' => e = .returned (.tuple #[.agg #[.int .i64 (gr t), .int .i64 (arcHi (lowA t) (upA t))], .int .i64 (0)]) ∧ Below w.heap.size w w' := fun t w a b => green_ok t w (instB_mk ⟨a, b⟩)
  replace G := hidden G
  have g0 := gr_bd t
  have g1 := gr_bd (t + b)
  go_enter Try.func9, Try.ntmps9
  go_wp2_with (go_at_call 13; refine (G.out _ _ (by omega) (by omega)).mono ?_; rintro e w' ⟨rfl, hb⟩; (try replace hb := below_undrew hb); (try replace hb := below_undrewN hb); obtain ⟨hcell, hfroz⟩ := bcell hb; have hz := hb.size; (try simp at hz); (try (have z6 := Nat.lt_of_lt_of_le z7 hz)); (try (have z7 := Nat.lt_of_lt_of_le z8 hz)); (try (have z8 := Nat.lt_of_lt_of_le z9 hz)); (try (have z9 := Nat.lt_of_lt_of_le (Nat.lt_succ_self _) hz)); (try (have z0 : w.heap.size < w'.heap.size := by omega)); (try (have z1 : w.heap.size + 1 < w'.heap.size := by omega)); (try (have z2 : w.heap.size + 1 + 1 < w'.heap.size := by omega)); (try (have z3 : w.heap.size + 1 + 1 + 1 < w'.heap.size := by omega)))
  go_ret2
  exact ⟨rfl, by (repeat (first | exact Below.refl _ _ | refine bl_drewN ?_ | refine bl_drew ?_ | refine bl_alloc ?_ _ | refine Below.setCell ?_ (by (first | (simp; done) | (simp; omega) | omega)) _ | refine bl_step (by assumption) ?_))⟩

set_option maxHeartbeats 1000000 in
theorem rate_walk (s t d : Int) (w : World) (bs : 0 ≤ s ∧ s ≤ 4294967295) (bt : 0 ≤ t ∧ t ≤ 4294967295) (bd : 0 ≤ d ∧ d ≤ 4294967295) :
    Calls Try.prog 3 #[.int .u32 s, .int .u32 t, .int .u32 d] w fun e w' => e = .returned (.bool true) ∧ Below w.heap.size w w' := by
  have bs0 := bs.1; have bs1 := bs.2; have bt0 := bt.1; have bt1 := bt.2; have bd0 := bd.1; have bd1 := bd.2
  clear bs bt bd
  have m0 : 0 ≤ d % 864000000 := by omega
  have m1 : d % 864000000 < 864000000 := by omega
  obtain ⟨r0, r1⟩ := rate_diff (s * 200) (t * 200) (d % 864000000)
  obtain ⟨y0, y1⟩ := rate_year (s * 200)
  have g1 := gr_bd (s * 200 + d % 864000000)
  have g2 := gr_bd (s * 200)
  have g3 := gr_bd (t * 200 + d % 864000000)
  have g4 := gr_bd (t * 200)
  have g5 := gr_bd (s * 200 + 31644000000)
  go_enter Try.func3, Try.ntmps3
  go_wp2_with (first | (go_at_call 8; refine (awake_is _).mono ?_; rintro e w' ⟨rfl, hb⟩; (try replace hb := below_undrew hb); (try replace hb := below_undrewN hb); obtain ⟨hcell, hfroz⟩ := bcell hb; have hz := hb.size; (try simp at hz); (try (have z6 := Nat.lt_of_lt_of_le z7 hz)); (try (have z7 := Nat.lt_of_lt_of_le z8 hz)); (try (have z8 := Nat.lt_of_lt_of_le z9 hz)); (try (have z9 := Nat.lt_of_lt_of_le (Nat.lt_succ_self _) hz)); (try (have z0 : w.heap.size < w'.heap.size := by omega)); (try (have z1 : w.heap.size + 1 < w'.heap.size := by omega)); (try (have z2 : w.heap.size + 1 + 1 < w'.heap.size := by omega)); (try (have z3 : w.heap.size + 1 + 1 + 1 < w'.heap.size := by omega))) | (go_at_call 9; refine (gone_any _ _ _ (by omega) (by omega) (by omega) (by omega)).mono ?_; rintro e w' ⟨rfl, hb⟩; (try replace hb := below_undrew hb); (try replace hb := below_undrewN hb); obtain ⟨hcell, hfroz⟩ := bcell hb; have hz := hb.size; (try simp at hz); (try (have z6 := Nat.lt_of_lt_of_le z7 hz)); (try (have z7 := Nat.lt_of_lt_of_le z8 hz)); (try (have z8 := Nat.lt_of_lt_of_le z9 hz)); (try (have z9 := Nat.lt_of_lt_of_le (Nat.lt_succ_self _) hz)); (try (have z0 : w.heap.size < w'.heap.size := by omega)); (try (have z1 : w.heap.size + 1 < w'.heap.size := by omega)); (try (have z2 : w.heap.size + 1 + 1 < w'.heap.size := by omega)); (try (have z3 : w.heap.size + 1 + 1 + 1 < w'.heap.size := by omega))) | (go_at_call 10; refine (signed_any _ _ (by omega) (by omega)).mono ?_; rintro e w' ⟨rfl, rfl⟩))
  go_ret
  exact ⟨rfl, by (repeat (first | exact Below.refl _ _ | refine bl_drewN ?_ | refine bl_drew ?_ | refine bl_alloc ?_ _ | refine Below.setCell ?_ (by (first | (simp; done) | (simp; omega) | omega)) _ | refine bl_step (by assumption) ?_))⟩

end Go.Proofs.Ytccmpibljahpbaa
