/- The sine of an angle of the first quarter, as a contract. -/
import Derived.Test.YtjceofmhodcefaaTrig3
namespace Go.Proofs.Ytjceofmhodcefaa
open Go.RowKit

/-- 2^256 times the sine of n units, nearly, modulo 2^256 -/
def sinS (n : Int) : Int := (radV n - mulV (radV n) (lessV (radV n) 1)) % W256
def cosS (n : Int) : Int := (0 - lessV (radV n) 0) % W256
def sinN (n : Int) : Int := if 2 * n ≤ 5400000 then sinS n else cosS (5400000 - n)
def exactB (n : Int) : Bool := decide (n = 0) || decide (n = 1800000) || decide (n = 5400000)
/-- One times the sine of n units, rounded down -/
def sinLo (n : Int) : Int := if n = 0 then 0 else if n = 1800000 then 536870912 else if n = 5400000 then 1073741824 else sinN n / (W64 * W64 * W64) / 17179869184

theorem lessV_bd (X odd : Int) : 0 ≤ lessV X odd ∧ lessV X odd < W256 := lessR_bd _ _ _

theorem held4_start {w wN : World} (h : Below w.heap.size w wN) : Below w.heap.size w wN.drew ∧ (∀ b o, w.heap.size < b → b < wN.heap.size → wN.drew.cell? ⟨b, o, none⟩ = wN.cell? ⟨b, o, none⟩) ∧ (∀ b o, b < wN.heap.size → wN.drew.frozen? ⟨b, o, none⟩ = wN.frozen? ⟨b, o, none⟩) :=
  ⟨h.drew, fun _ _ _ _ => by simp, fun _ _ _ => by simp⟩
theorem held4_of {w wN v : World} (h : Below w.heap.size w wN) (hv : Below wN.heap.size wN v) : Below w.heap.size w v ∧ (∀ b o, w.heap.size < b → b < wN.heap.size → v.cell? ⟨b, o, none⟩ = wN.cell? ⟨b, o, none⟩) ∧ (∀ b o, b < wN.heap.size → v.frozen? ⟨b, o, none⟩ = wN.frozen? ⟨b, o, none⟩) :=
  ⟨bl_step hv h, fun b o _ hb => (bcell hv).1 b o hb, fun b o hb => (bcell hv).2 b o hb⟩
theorem held4_store {w wN v : World} (h : Below w.heap.size w wN) (hv : Below wN.heap.size wN v) (x0 x1 x2 x3 : Value) :
    Below w.heap.size w ((((v.setCell ⟨w.heap.size, 0, none⟩ x0).setCell ⟨w.heap.size, 1, none⟩ x1).setCell ⟨w.heap.size, 2, none⟩ x2).setCell ⟨w.heap.size, 3, none⟩ x3) ∧
    (∀ b o, w.heap.size < b → b < wN.heap.size → ((((v.setCell ⟨w.heap.size, 0, none⟩ x0).setCell ⟨w.heap.size, 1, none⟩ x1).setCell ⟨w.heap.size, 2, none⟩ x2).setCell ⟨w.heap.size, 3, none⟩ x3).cell? ⟨b, o, none⟩ = wN.cell? ⟨b, o, none⟩) ∧
    (∀ b o, b < wN.heap.size → ((((v.setCell ⟨w.heap.size, 0, none⟩ x0).setCell ⟨w.heap.size, 1, none⟩ x1).setCell ⟨w.heap.size, 2, none⟩ x2).setCell ⟨w.heap.size, 3, none⟩ x3).frozen? ⟨b, o, none⟩ = wN.frozen? ⟨b, o, none⟩) := by
  refine ⟨((((bl_step hv h).setCell (Nat.le_refl _) _).setCell (Nat.le_refl _) _).setCell (Nat.le_refl _) _).setCell (Nat.le_refl _) _, fun b o hb hN => ?_, fun b o hN => ?_⟩
  · have ne : ∀ p, (⟨w.heap.size, p, none⟩ : Addr) ≠ ⟨b, o, none⟩ := fun p e => by injection e with e; omega
    rw [World.cell?_setCell_other _ _ _ _ (ne 3), World.cell?_setCell_other _ _ _ _ (ne 2), World.cell?_setCell_other _ _ _ _ (ne 1), World.cell?_setCell_other _ _ _ _ (ne 0)]
    exact (bcell hv).1 b o hN
  · simp; exact (bcell hv).2 b o hN

set_option maxHeartbeats 16000000 in
theorem sine_sin (n xa xb xc xd la lb lc ld ma mb mc md sa sb sc sd : Int) (w : World) (n0 : 0 < n) (n1 : n ≠ 1800000) (n2 : 2 * n ≤ 5400000)
    (R : Hid (∀ w, Calls Try.prog 82 #[.int .i64 n] w fun e w' => e = .returned (.agg #[.int .u64 xa, .int .u64 xb, .int .u64 xc, .int .u64 xd]) ∧ Below w.heap.size w w'))
    (L : Hid (∀ w, Calls Try.prog 85 #[.agg #[.int .u64 xa, .int .u64 xb, .int .u64 xc, .int .u64 xd], .int .u64 1] w fun e w' => e = .returned (.agg #[.int .u64 la, .int .u64 lb, .int .u64 lc, .int .u64 ld]) ∧ Below w.heap.size w w'))
    (M : Hid (∀ w, Calls Try.prog 84 #[.agg #[.int .u64 xa, .int .u64 xb, .int .u64 xc, .int .u64 xd], .agg #[.int .u64 la, .int .u64 lb, .int .u64 lc, .int .u64 ld]] w fun e w' => e = .returned (.agg #[.int .u64 ma, .int .u64 mb, .int .u64 mc, .int .u64 md]) ∧ Below w.heap.size w w'))
    (S : Hid (∀ w, Calls Try.prog 83 #[.agg #[.int .u64 xa, .int .u64 xb, .int .u64 xc, .int .u64 xd], .agg #[.int .u64 ma, .int .u64 mb, .int .u64 mc, .int .u64 md]] w fun e w' => e = .returned (.agg #[.int .u64 sa, .int .u64 sb, .int .u64 sc, .int .u64 sd]) ∧ Below w.heap.size w w'))
    (s0 : 0 ≤ sa) (s1 : sa ≤ 18446744073709551615) :
    Calls Try.prog 80 #[.int .i64 n] w fun e w' => e = .returned (.tuple #[.int .i64 (sa / 17179869184), .bool false]) ∧ Below w.heap.size w w' := by
  have e1 : (n == 0) = false := by simp; omega
  have e2 : (n == 1800000) = false := by simpa using n1
  have e3 : (n == 5400000) = false := by simp; omega
  go_enter Try.func80, Try.ntmps80
  go_upto_region 11 with (go_at_call 82; ((with_reducible refine (R.out _).mono ?_); rintro e w' ⟨rfl, hb⟩); (try replace hb := below_undrew hb); (try replace hb := below_undrewN hb); obtain ⟨hcell, hfroz⟩ := bcell hb; have hz := hb.size; (try simp at hz); (try (have z6 := Nat.lt_of_lt_of_le z7 hz)); (try (have z7 := Nat.lt_of_lt_of_le z8 hz)); (try (have z8 := Nat.lt_of_lt_of_le z9 hz)); (try (have z9 := Nat.lt_of_lt_of_le (Nat.lt_succ_self _) hz)); (try (have z0 : w.heap.size < w'.heap.size := by omega)); (try (have z1 : w.heap.size + 1 < w'.heap.size := by omega)); (try (have z2 : w.heap.size + 1 + 1 < w'.heap.size := by omega)); (try (have z3 : w.heap.size + 1 + 1 + 1 < w'.heap.size := by omega)); (try (have y1 : w1.heap.size < w'.heap.size := by omega)); (try (have y2 : w2.heap.size < w'.heap.size := by omega)); (try (have y3 : w3.heap.size < w'.heap.size := by omega)); (try (have y4 : w4.heap.size < w'.heap.size := by omega)); (try (have y5 : w5.heap.size < w'.heap.size := by omega)); (try (have y6 : w6.heap.size < w'.heap.size := by omega)); (try (have x1 : w1.heap.size + 1 < w'.heap.size := by omega)); (try (have x2 : w2.heap.size + 1 < w'.heap.size := by omega)); (try (have x3 : w3.heap.size + 1 < w'.heap.size := by omega)); (try (have x4 : w4.heap.size + 1 < w'.heap.size := by omega)); (try (have x5 : w5.heap.size + 1 < w'.heap.size := by omega)); (try (have x6 : w6.heap.size + 1 < w'.heap.size := by omega)); obtain ⟨w1, rfl⟩ : ∃ v, v = w' := ⟨_, rfl⟩)
  have zz : w.heap.size < w1.heap.size + 1 := by omega
  (refine name_below ?_; intro w' hb; (try replace hb := below_undrew hb); (try replace hb := below_undrewN hb); obtain ⟨hcell, hfroz⟩ := bcell hb; have hz := hb.size; (try simp at hz); (try (have z6 := Nat.lt_of_lt_of_le z7 hz)); (try (have z7 := Nat.lt_of_lt_of_le z8 hz)); (try (have z8 := Nat.lt_of_lt_of_le z9 hz)); (try (have z9 := Nat.lt_of_lt_of_le (Nat.lt_succ_self _) hz)); (try (have z0 : w.heap.size < w'.heap.size := by omega)); (try (have z1 : w.heap.size + 1 < w'.heap.size := by omega)); (try (have z2 : w.heap.size + 1 + 1 < w'.heap.size := by omega)); (try (have z3 : w.heap.size + 1 + 1 + 1 < w'.heap.size := by omega)); (try (have y1 : w1.heap.size < w'.heap.size := by omega)); (try (have y2 : w2.heap.size < w'.heap.size := by omega)); (try (have y3 : w3.heap.size < w'.heap.size := by omega)); (try (have y4 : w4.heap.size < w'.heap.size := by omega)); (try (have y5 : w5.heap.size < w'.heap.size := by omega)); (try (have y6 : w6.heap.size < w'.heap.size := by omega)))
  replace hb : Below w.heap.size w w' := bl_step hb (by (repeat (first | exact Below.refl _ _ | refine bl_drewN ?_ | refine bl_drew ?_ | refine bl_alloc ?_ _ | refine Below.setCell ?_ (by (first | (simp; done) | (simp; omega) | omega)) _ | refine bl_step (by assumption) ?_)))
  obtain ⟨w1, rfl⟩ : ∃ v, v = w' := ⟨_, rfl⟩
  have z1 : w.heap.size < w1.heap.size := by omega
  clear R
  go_region_held3 (fun v => Below w.heap.size w v ∧ (∀ b o, w.heap.size < b → b < w1.heap.size → v.cell? ⟨b, o, none⟩ = w1.cell? ⟨b, o, none⟩) ∧ (∀ b o, b < w1.heap.size → v.frozen? ⟨b, o, none⟩ = w1.frozen? ⟨b, o, none⟩)) (first | exact held4_start (by assumption) | (refine held4_of (by assumption) ?_; (repeat (first | exact Below.refl _ _ | refine bl_drewN ?_ | refine bl_drew ?_ | refine bl_alloc ?_ _ | refine Below.setCell ?_ (by (first | (simp; done) | (simp; omega) | omega)) _ | refine bl_step (by assumption) ?_)); done) | (refine held4_store (by assumption) ?_ _ _ _ _; (repeat (first | exact Below.refl _ _ | refine bl_drewN ?_ | refine bl_drew ?_ | refine bl_alloc ?_ _ | refine Below.setCell ?_ (by (first | (simp; done) | (simp; omega) | omega)) _ | refine bl_step (by assumption) ?_)); done)) (first | ((go_at_call 85; ((with_reducible refine (L.out _).mono ?_); rintro e w' ⟨rfl, hb⟩); (try replace hb := below_undrew hb); (try replace hb := below_undrewN hb); obtain ⟨hcell, hfroz⟩ := bcell hb; have hz := hb.size; (try simp at hz); (try (have z6 := Nat.lt_of_lt_of_le z7 hz)); (try (have z7 := Nat.lt_of_lt_of_le z8 hz)); (try (have z8 := Nat.lt_of_lt_of_le z9 hz)); (try (have z9 := Nat.lt_of_lt_of_le (Nat.lt_succ_self _) hz)); (try (have z0 : w.heap.size < w'.heap.size := by omega)); (try (have z1 : w.heap.size + 1 < w'.heap.size := by omega)); (try (have z2 : w.heap.size + 1 + 1 < w'.heap.size := by omega)); (try (have z3 : w.heap.size + 1 + 1 + 1 < w'.heap.size := by omega)); (try (have y1 : w1.heap.size < w'.heap.size := by omega)); (try (have y2 : w2.heap.size < w'.heap.size := by omega)); (try (have y3 : w3.heap.size < w'.heap.size := by omega)); (try (have y4 : w4.heap.size < w'.heap.size := by omega)); (try (have y5 : w5.heap.size < w'.heap.size := by omega)); (try (have y6 : w6.heap.size < w'.heap.size := by omega)); (try (have x1 : w1.heap.size + 1 < w'.heap.size := by omega)); (try (have x2 : w2.heap.size + 1 < w'.heap.size := by omega)); (try (have x3 : w3.heap.size + 1 < w'.heap.size := by omega)); (try (have x4 : w4.heap.size + 1 < w'.heap.size := by omega)); (try (have x5 : w5.heap.size + 1 < w'.heap.size := by omega)); (try (have x6 : w6.heap.size + 1 < w'.heap.size := by omega)))) | ((go_at_call 84; ((with_reducible refine (M.out _).mono ?_); rintro e w' ⟨rfl, hb⟩); (try replace hb := below_undrew hb); (try replace hb := below_undrewN hb); obtain ⟨hcell, hfroz⟩ := bcell hb; have hz := hb.size; (try simp at hz); (try (have z6 := Nat.lt_of_lt_of_le z7 hz)); (try (have z7 := Nat.lt_of_lt_of_le z8 hz)); (try (have z8 := Nat.lt_of_lt_of_le z9 hz)); (try (have z9 := Nat.lt_of_lt_of_le (Nat.lt_succ_self _) hz)); (try (have z0 : w.heap.size < w'.heap.size := by omega)); (try (have z1 : w.heap.size + 1 < w'.heap.size := by omega)); (try (have z2 : w.heap.size + 1 + 1 < w'.heap.size := by omega)); (try (have z3 : w.heap.size + 1 + 1 + 1 < w'.heap.size := by omega)); (try (have y1 : w1.heap.size < w'.heap.size := by omega)); (try (have y2 : w2.heap.size < w'.heap.size := by omega)); (try (have y3 : w3.heap.size < w'.heap.size := by omega)); (try (have y4 : w4.heap.size < w'.heap.size := by omega)); (try (have y5 : w5.heap.size < w'.heap.size := by omega)); (try (have y6 : w6.heap.size < w'.heap.size := by omega)); (try (have x1 : w1.heap.size + 1 < w'.heap.size := by omega)); (try (have x2 : w2.heap.size + 1 < w'.heap.size := by omega)); (try (have x3 : w3.heap.size + 1 < w'.heap.size := by omega)); (try (have x4 : w4.heap.size + 1 < w'.heap.size := by omega)); (try (have x5 : w5.heap.size + 1 < w'.heap.size := by omega)); (try (have x6 : w6.heap.size + 1 < w'.heap.size := by omega)))) | ((go_at_call 83; ((with_reducible refine (S.out _).mono ?_); rintro e w' ⟨rfl, hb⟩); (try replace hb := below_undrew hb); (try replace hb := below_undrewN hb); obtain ⟨hcell, hfroz⟩ := bcell hb; have hz := hb.size; (try simp at hz); (try (have z6 := Nat.lt_of_lt_of_le z7 hz)); (try (have z7 := Nat.lt_of_lt_of_le z8 hz)); (try (have z8 := Nat.lt_of_lt_of_le z9 hz)); (try (have z9 := Nat.lt_of_lt_of_le (Nat.lt_succ_self _) hz)); (try (have z0 : w.heap.size < w'.heap.size := by omega)); (try (have z1 : w.heap.size + 1 < w'.heap.size := by omega)); (try (have z2 : w.heap.size + 1 + 1 < w'.heap.size := by omega)); (try (have z3 : w.heap.size + 1 + 1 + 1 < w'.heap.size := by omega)); (try (have y1 : w1.heap.size < w'.heap.size := by omega)); (try (have y2 : w2.heap.size < w'.heap.size := by omega)); (try (have y3 : w3.heap.size < w'.heap.size := by omega)); (try (have y4 : w4.heap.size < w'.heap.size := by omega)); (try (have y5 : w5.heap.size < w'.heap.size := by omega)); (try (have y6 : w6.heap.size < w'.heap.size := by omega)); (try (have x1 : w1.heap.size + 1 < w'.heap.size := by omega)); (try (have x2 : w2.heap.size + 1 < w'.heap.size := by omega)); (try (have x3 : w3.heap.size + 1 < w'.heap.size := by omega)); (try (have x4 : w4.heap.size + 1 < w'.heap.size := by omega)); (try (have x5 : w5.heap.size + 1 < w'.heap.size := by omega)); (try (have x6 : w6.heap.size + 1 < w'.heap.size := by omega)))))
  go_wp2
  go_ret2
  exact ⟨rfl, by (repeat (first | exact Below.refl _ _ | refine bl_drewN ?_ | refine bl_drew ?_ | refine bl_alloc ?_ _ | refine Below.setCell ?_ (by (first | (simp; done) | (simp; omega) | omega)) _ | refine bl_step (by assumption) ?_))⟩

set_option maxHeartbeats 4000000 in
theorem sine_cos (n xa xb xc xd la lb lc ld sa sb sc sd : Int) (w : World) (n0 : n ≠ 5400000) (n1 : n ≤ 5400000) (n2 : ¬ 2 * n ≤ 5400000)
    (R : Hid (∀ w, Calls Try.prog 82 #[.int .i64 (5400000 - n)] w fun e w' => e = .returned (.agg #[.int .u64 xa, .int .u64 xb, .int .u64 xc, .int .u64 xd]) ∧ Below w.heap.size w w'))
    (L : Hid (∀ w, Calls Try.prog 85 #[.agg #[.int .u64 xa, .int .u64 xb, .int .u64 xc, .int .u64 xd], .int .u64 0] w fun e w' => e = .returned (.agg #[.int .u64 la, .int .u64 lb, .int .u64 lc, .int .u64 ld]) ∧ Below w.heap.size w w'))
    (S : Hid (∀ w, Calls Try.prog 83 #[.agg #[.int .u64 0, .int .u64 0, .int .u64 0, .int .u64 0], .agg #[.int .u64 la, .int .u64 lb, .int .u64 lc, .int .u64 ld]] w fun e w' => e = .returned (.agg #[.int .u64 sa, .int .u64 sb, .int .u64 sc, .int .u64 sd]) ∧ Below w.heap.size w w'))
    (s0 : 0 ≤ sa) (s1 : sa ≤ 18446744073709551615) :
    Calls Try.prog 80 #[.int .i64 n] w fun e w' => e = .returned (.tuple #[.int .i64 (sa / 17179869184), .bool false]) ∧ Below w.heap.size w w' := by
  have e1 : (n == 0) = false := by simp; omega
  have e2 : (n == 1800000) = false := by simp; omega
  have e3 : (n == 5400000) = false := by simpa using n0
  go_enter Try.func80, Try.ntmps80
  go_wp2_with (first | ((go_at_call 82; ((with_reducible refine (R.out _).mono ?_); rintro e w' ⟨rfl, hb⟩); (try replace hb := below_undrew hb); (try replace hb := below_undrewN hb); obtain ⟨hcell, hfroz⟩ := bcell hb; have hz := hb.size; (try simp at hz); (try (have z6 := Nat.lt_of_lt_of_le z7 hz)); (try (have z7 := Nat.lt_of_lt_of_le z8 hz)); (try (have z8 := Nat.lt_of_lt_of_le z9 hz)); (try (have z9 := Nat.lt_of_lt_of_le (Nat.lt_succ_self _) hz)); (try (have z0 : w.heap.size < w'.heap.size := by omega)); (try (have z1 : w.heap.size + 1 < w'.heap.size := by omega)); (try (have z2 : w.heap.size + 1 + 1 < w'.heap.size := by omega)); (try (have z3 : w.heap.size + 1 + 1 + 1 < w'.heap.size := by omega)); (try (have y1 : w1.heap.size < w'.heap.size := by omega)); (try (have y2 : w2.heap.size < w'.heap.size := by omega)); (try (have y3 : w3.heap.size < w'.heap.size := by omega)); (try (have y4 : w4.heap.size < w'.heap.size := by omega)); (try (have y5 : w5.heap.size < w'.heap.size := by omega)); (try (have y6 : w6.heap.size < w'.heap.size := by omega)); (try (have x1 : w1.heap.size + 1 < w'.heap.size := by omega)); (try (have x2 : w2.heap.size + 1 < w'.heap.size := by omega)); (try (have x3 : w3.heap.size + 1 < w'.heap.size := by omega)); (try (have x4 : w4.heap.size + 1 < w'.heap.size := by omega)); (try (have x5 : w5.heap.size + 1 < w'.heap.size := by omega)); (try (have x6 : w6.heap.size + 1 < w'.heap.size := by omega)))) | ((go_at_call 85; ((with_reducible refine (L.out _).mono ?_); rintro e w' ⟨rfl, hb⟩); (try replace hb := below_undrew hb); (try replace hb := below_undrewN hb); obtain ⟨hcell, hfroz⟩ := bcell hb; have hz := hb.size; (try simp at hz); (try (have z6 := Nat.lt_of_lt_of_le z7 hz)); (try (have z7 := Nat.lt_of_lt_of_le z8 hz)); (try (have z8 := Nat.lt_of_lt_of_le z9 hz)); (try (have z9 := Nat.lt_of_lt_of_le (Nat.lt_succ_self _) hz)); (try (have z0 : w.heap.size < w'.heap.size := by omega)); (try (have z1 : w.heap.size + 1 < w'.heap.size := by omega)); (try (have z2 : w.heap.size + 1 + 1 < w'.heap.size := by omega)); (try (have z3 : w.heap.size + 1 + 1 + 1 < w'.heap.size := by omega)); (try (have y1 : w1.heap.size < w'.heap.size := by omega)); (try (have y2 : w2.heap.size < w'.heap.size := by omega)); (try (have y3 : w3.heap.size < w'.heap.size := by omega)); (try (have y4 : w4.heap.size < w'.heap.size := by omega)); (try (have y5 : w5.heap.size < w'.heap.size := by omega)); (try (have y6 : w6.heap.size < w'.heap.size := by omega)); (try (have x1 : w1.heap.size + 1 < w'.heap.size := by omega)); (try (have x2 : w2.heap.size + 1 < w'.heap.size := by omega)); (try (have x3 : w3.heap.size + 1 < w'.heap.size := by omega)); (try (have x4 : w4.heap.size + 1 < w'.heap.size := by omega)); (try (have x5 : w5.heap.size + 1 < w'.heap.size := by omega)); (try (have x6 : w6.heap.size + 1 < w'.heap.size := by omega)))) | ((go_at_call 83; ((with_reducible refine (S.out _).mono ?_); rintro e w' ⟨rfl, hb⟩); (try replace hb := below_undrew hb); (try replace hb := below_undrewN hb); obtain ⟨hcell, hfroz⟩ := bcell hb; have hz := hb.size; (try simp at hz); (try (have z6 := Nat.lt_of_lt_of_le z7 hz)); (try (have z7 := Nat.lt_of_lt_of_le z8 hz)); (try (have z8 := Nat.lt_of_lt_of_le z9 hz)); (try (have z9 := Nat.lt_of_lt_of_le (Nat.lt_succ_self _) hz)); (try (have z0 : w.heap.size < w'.heap.size := by omega)); (try (have z1 : w.heap.size + 1 < w'.heap.size := by omega)); (try (have z2 : w.heap.size + 1 + 1 < w'.heap.size := by omega)); (try (have z3 : w.heap.size + 1 + 1 + 1 < w'.heap.size := by omega)); (try (have y1 : w1.heap.size < w'.heap.size := by omega)); (try (have y2 : w2.heap.size < w'.heap.size := by omega)); (try (have y3 : w3.heap.size < w'.heap.size := by omega)); (try (have y4 : w4.heap.size < w'.heap.size := by omega)); (try (have y5 : w5.heap.size < w'.heap.size := by omega)); (try (have y6 : w6.heap.size < w'.heap.size := by omega)); (try (have x1 : w1.heap.size + 1 < w'.heap.size := by omega)); (try (have x2 : w2.heap.size + 1 < w'.heap.size := by omega)); (try (have x3 : w3.heap.size + 1 < w'.heap.size := by omega)); (try (have x4 : w4.heap.size + 1 < w'.heap.size := by omega)); (try (have x5 : w5.heap.size + 1 < w'.heap.size := by omega)); (try (have x6 : w6.heap.size + 1 < w'.heap.size := by omega)))))
  go_ret2
  exact ⟨rfl, by (repeat (first | exact Below.refl _ _ | refine bl_drewN ?_ | refine bl_drew ?_ | refine bl_alloc ?_ _ | refine Below.setCell ?_ (by (first | (simp; done) | (simp; omega) | omega)) _ | refine bl_step (by assumption) ?_))⟩

theorem sine_exact (n : Int) (w : World) (h : exactB n = true) :
    Calls Try.prog 80 #[.int .i64 n] w fun e w' => e = .returned (.tuple #[.int .i64 (sinLo n), .bool true]) ∧ Below w.heap.size w w' := by
  have k : n = 0 ∨ n = 1800000 ∨ n = 5400000 := by
    unfold exactB at h; simp at h; omega
  rcases k with rfl | rfl | rfl
  · go_enter Try.func80, Try.ntmps80
    go_wp2
    go_ret2
    exact ⟨rfl, by (repeat (first | exact Below.refl _ _ | refine bl_drewN ?_ | refine bl_drew ?_ | refine bl_alloc ?_ _ | refine Below.setCell ?_ (by (first | (simp; done) | (simp; omega) | omega)) _ | refine bl_step (by assumption) ?_))⟩
  · go_enter Try.func80, Try.ntmps80
    go_wp2
    go_ret2
    exact ⟨rfl, by (repeat (first | exact Below.refl _ _ | refine bl_drewN ?_ | refine bl_drew ?_ | refine bl_alloc ?_ _ | refine Below.setCell ?_ (by (first | (simp; done) | (simp; omega) | omega)) _ | refine bl_step (by assumption) ?_))⟩
  · go_enter Try.func80, Try.ntmps80
    go_wp2
    go_ret2
    exact ⟨rfl, by (repeat (first | exact Below.refl _ _ | refine bl_drewN ?_ | refine bl_drew ?_ | refine bl_alloc ?_ _ | refine Below.setCell ?_ (by (first | (simp; done) | (simp; omega) | omega)) _ | refine bl_step (by assumption) ?_))⟩

theorem sinN_bd (n : Int) : 0 ≤ sinN n ∧ sinN n < W256 := by
  unfold sinN; split <;> exact mod_bd _
theorem sinLo_lt (r : Int) (_h0 : 0 ≤ r) (_h1 : r ≤ 5400000) (h : exactB r = false) : 0 ≤ sinLo r ∧ sinLo r < 1073741824 := by
  have k : ¬ r = 0 ∧ ¬ r = 1800000 ∧ ¬ r = 5400000 := by
    unfold exactB at h; simp at h; omega
  have b := sinN_bd r
  unfold sinLo
  rw [if_neg k.1, if_neg k.2.1, if_neg k.2.2]
  unfold W256 W64 at *
  omega
theorem sinLo_bd (r : Int) (h0 : 0 ≤ r) (h1 : r ≤ 5400000) : 0 ≤ sinLo r ∧ sinLo r ≤ 1073741824 := by
  cases h : exactB r
  · have := sinLo_lt r h0 h1 h; omega
  · have k : r = 0 ∨ r = 1800000 ∨ r = 5400000 := by
      unfold exactB at h; simp at h; omega
    rcases k with rfl | rfl | rfl <;> decide

theorem sine_any (n : Int) (w : World) (n0 : 0 ≤ n) (n1 : n ≤ 5400000) :
    Calls Try.prog 80 #[.int .i64 n] w fun e w' => e = .returned (.tuple #[.int .i64 (sinLo n), .bool (exactB n)]) ∧ Below w.heap.size w w' := by
  cases h : exactB n
  · have k : ¬ n = 0 ∧ ¬ n = 1800000 ∧ ¬ n = 5400000 := by
      unfold exactB at h; simp at h; omega
    have ev : sinLo n = sinN n / (W64 * W64 * W64) / 17179869184 := by
      unfold sinLo; rw [if_neg k.1, if_neg k.2.1, if_neg k.2.2]
    have sb := sinN_bd n
    obtain ⟨sa, sb2, sc, sd, wa, _, _, _, eS, nS⟩ := NUM_words (sinN n) sb.1 sb.2
    have es : sinN n / (W64 * W64 * W64) = sa := by
      have := nS
      unfold NUM at this
      injection this with this
      simp at this
      exact this.1
    rw [ev, es]
    by_cases h2 : 2 * n ≤ 5400000
    · have e : sinN n = sinS n := if_pos h2
      rw [e] at nS
      have R := fun w => rad_any n w n0 (by omega)
      have X : 0 ≤ radV n ∧ radV n < W256 := radV_bd n n0 (by omega)
      have lb := lessV_bd (radV n) 1
      have mb := mulV_bd (radV n) (lessV (radV n) 1) X.1 X.2 lb.1 lb.2
      obtain ⟨xa, xb, xc, xd, _, _, _, _, _, nX⟩ := NUM_words (radV n) X.1 X.2
      obtain ⟨la, lb2, lc, ld, _, _, _, _, _, nL⟩ := NUM_words _ lb.1 lb.2
      obtain ⟨ma, mb2, mc, md, _, _, _, _, _, nM⟩ := NUM_words _ mb.1 mb.2
      refine sine_sin n xa xb xc xd la lb2 lc ld ma mb2 mc md sa sb2 sc sd w (by omega) k.2.1 h2 (hidden fun w => ?_) (hidden fun w => ?_) (hidden fun w => ?_) (hidden fun w => ?_) wa.1 wa.2
      · rw [← nX]; exact (R w).mono fun _ _ h => ⟨h.1, h.2.1⟩
      · rw [← nX, ← nL]; exact less_any _ _ w X.1 X.2 (by omega) (by omega)
      · rw [← nX, ← nL, ← nM]; exact (nmul_any _ _ w X.1 X.2 lb.1 lb.2).mono fun _ _ h => ⟨h.1, h.2.1⟩
      · rw [← nX, ← nM, ← nS]; exact nsub_any _ _ w X.1 X.2 mb.1 mb.2
    · have e : sinN n = cosS (5400000 - n) := if_neg h2
      rw [e] at nS
      have X : 0 ≤ radV (5400000 - n) ∧ radV (5400000 - n) < W256 := radV_bd (5400000 - n) (by omega) (by omega)
      have lb := lessV_bd (radV (5400000 - n)) 0
      obtain ⟨xa, xb, xc, xd, _, _, _, _, _, nX⟩ := NUM_words (radV (5400000 - n)) X.1 X.2
      obtain ⟨la, lb2, lc, ld, _, _, _, _, _, nL⟩ := NUM_words _ lb.1 lb.2
      refine sine_cos n xa xb xc xd la lb2 lc ld sa sb2 sc sd w k.2.2 n1 h2 (hidden fun w => ?_) (hidden fun w => ?_) (hidden fun w => ?_) wa.1 wa.2
      · rw [← nX]; exact (rad_any _ w (by omega) (by omega)).mono fun _ _ h => ⟨h.1, h.2.1⟩
      · rw [← nX, ← nL]; exact less_any _ _ w X.1 X.2 (by omega) (by omega)
      · rw [← NUM_zero, ← nL, ← nS]; exact nsub_any _ _ w (by omega) W256_pos lb.1 lb.2
  · exact sine_exact n w h

end Go.Proofs.Ytjceofmhodcefaa
