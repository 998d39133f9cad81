/- The statement that the arc of a time contains those of its instants and of its parts, and that local arcs are moved by the longitude. -/
import Derived.Test.YtccmpibljahpbaaLawD
namespace Go.Proofs.Ytccmpibljahpbaa
open Go.RowKit

/-- does an arc in direction form cover another one -/
def coversB (a b c d : Int) : Bool := decide (21600000 ≤ b - a) || decide ((c - a) % 21600000 + d - c ≤ b - a)

set_option maxHeartbeats 400000 in
theorem covers_any (a b c d : Int) (w : World) (h0 : -1125899906842624 ≤ a) (h1 : a ≤ 1125899906842624) (h2 : -1125899906842624 ≤ b) (h3 : b ≤ 1125899906842624) (h4 : -1125899906842624 ≤ c) (h5 : c ≤ 1125899906842624) (h6 : -1125899906842624 ≤ d) (h7 : d ≤ 1125899906842624) :
    Calls Try.prog 24 #[.agg #[.int .i64 (a), .int .i64 (b)], .agg #[.int .i64 (c), .int .i64 (d)]] w fun e w' => e = .returned (.bool (coversB a b c d)) ∧ Below w.heap.size w w' := by
  have m0 : 0 ≤ (c - a) % 21600000 := by omega
  have m1 : (c - a) % 21600000 < 21600000 := by omega
  by_cases g1 : 21600000 ≤ b - a
  · have H : Hid (coversB a b c d = true) := by simp [coversB, g1, Hid]
    go_enter Try.func24, Try.ntmps24
    go_wp2
    go_ret
    exact ⟨by rw [H.out]; rfl, by (repeat (first | exact Below.refl _ _ | refine bl_drewN ?_ | refine bl_drew ?_ | refine bl_alloc ?_ _ | refine Below.setCell ?_ (by (first | (simp; done) | (simp; omega) | omega)) _ | refine bl_step (by assumption) ?_))⟩
  · have H : Hid (coversB a b c d = decide ((c - a) % 21600000 + d - c ≤ b - a)) := by simp [coversB, g1, Hid]
    go_enter Try.func24, Try.ntmps24
    go_wp2
    go_quiet ((go_at_call 21; exact quiet_same (wrap_any _ _ (by omega) (by omega))))
    go_wp2
    go_ret
    exact ⟨by rw [H.out]; rfl, by (repeat (first | exact Below.refl _ _ | refine bl_drewN ?_ | refine bl_drew ?_ | refine bl_alloc ?_ _ | refine Below.setCell ?_ (by (first | (simp; done) | (simp; omega) | omega)) _ | refine bl_step (by assumption) ?_))⟩

/-- the arc of a part is covered by the arc of the whole -/
theorem covers_arc (a b c d : Int) (h1 : a ≤ c) (_h2 : c ≤ d) (h3 : d ≤ b) : coversB (arcLo a b) (arcHi a b) (arcLo c d) (arcHi c d) = true := by
  unfold coversB arcLo arcHi
  by_cases g1 : 21600000 ≤ b - a
  · rw [if_pos g1, if_pos g1]; rfl
  · rw [if_neg g1, if_neg g1, if_neg (by omega), if_neg (by omega)]
    simp only [Bool.or_eq_true, decide_eq_true_eq]
    right
    omega

/-- a longitude that is added, and taken off, gives the arc back -/
theorem arc_back (a b n : Int) (h : a ≤ b) :
    arcLo (arcLo (arcLo a b + n) (arcHi a b + n) - n) (arcHi (arcLo a b + n) (arcHi a b + n) - n) = arcLo a b ∧
    arcHi (arcLo (arcLo a b + n) (arcHi a b + n) - n) (arcHi (arcLo a b + n) (arcHi a b + n) - n) = arcHi a b := by
  have q := arc_dir a b h
  have w : arcHi a b - arcLo a b = 21600000 ∧ arcLo a b = 0 ∨ (arcHi a b - arcLo a b < 21600000) := by
    unfold arcLo arcHi; split <;> omega
  generalize arcLo a b = x at *
  generalize arcHi a b = y at *
  have e1 : arcLo (x + n) (y + n) = if 21600000 ≤ y - x then 0 else (x + n) % 21600000 := by unfold arcLo; rw [show y + n - (x + n) = y - x by omega]
  have e2 : arcHi (x + n) (y + n) = if 21600000 ≤ y - x then 21600000 else (x + n) % 21600000 + (y - x) := by unfold arcHi; rw [show y + n - (x + n) = y - x by omega]
  rw [e1, e2]
  rcases w with ⟨w1, w2⟩ | w1
  · rw [if_pos (by omega), if_pos (by omega)]
    unfold arcLo arcHi
    rw [if_pos (by omega), if_pos (by omega)]
    omega
  · rw [if_neg (by omega), if_neg (by omega)]
    unfold arcLo arcHi
    rw [if_neg (by omega), if_neg (by omega)]
    omega

set_option maxHeartbeats 1000000 in
theorem contains_no (a b k n : Int) (w : World) (h : timeB a b = false) :
    Calls Try.prog 7 #[.agg #[.int .i64 (a), .int .i64 (b)], .int .u32 k, .int .i32 n] w fun e w' => e = .returned (.bool true) ∧ Below w.heap.size w w' := by
  have I := fun w => interval_no a b w h
  replace I := hidden I
  clear h
  go_enter Try.func7, Try.ntmps7
  go_wp2_with (first | (go_at_call 8; refine (awake_is _).mono ?_; rintro e w' ⟨rfl, hb⟩; (try replace hb := below_undrew hb); (try replace hb := below_undrewN hb); obtain ⟨hcell, hfroz⟩ := bcell hb; have hz := hb.size; (try simp at hz); (try (have z6 := Nat.lt_of_lt_of_le z7 hz)); (try (have z7 := Nat.lt_of_lt_of_le z8 hz)); (try (have z8 := Nat.lt_of_lt_of_le z9 hz)); (try (have z9 := Nat.lt_of_lt_of_le (Nat.lt_succ_self _) hz)); (try (have z0 : w.heap.size < w'.heap.size := by omega)); (try (have z1 : w.heap.size + 1 < w'.heap.size := by omega)); (try (have z2 : w.heap.size + 1 + 1 < w'.heap.size := by omega)); (try (have z3 : w.heap.size + 1 + 1 + 1 < w'.heap.size := by omega)); (try (have y1 : w1.heap.size < w'.heap.size := by omega)); (try (have y2 : w2.heap.size < w'.heap.size := by omega)); (try (have y3 : w3.heap.size < w'.heap.size := by omega)); (try (have y4 : w4.heap.size < w'.heap.size := by omega)); (try (have y5 : w5.heap.size < w'.heap.size := by omega)); (try (have y6 : w6.heap.size < w'.heap.size := by omega))) | (go_at_call 16; refine (I.out _).mono ?_; rintro e w' ⟨rfl, hb⟩; (try replace hb := below_undrew hb); (try replace hb := below_undrewN hb); obtain ⟨hcell, hfroz⟩ := bcell hb; have hz := hb.size; (try simp at hz); (try (have z6 := Nat.lt_of_lt_of_le z7 hz)); (try (have z7 := Nat.lt_of_lt_of_le z8 hz)); (try (have z8 := Nat.lt_of_lt_of_le z9 hz)); (try (have z9 := Nat.lt_of_lt_of_le (Nat.lt_succ_self _) hz)); (try (have z0 : w.heap.size < w'.heap.size := by omega)); (try (have z1 : w.heap.size + 1 < w'.heap.size := by omega)); (try (have z2 : w.heap.size + 1 + 1 < w'.heap.size := by omega)); (try (have z3 : w.heap.size + 1 + 1 + 1 < w'.heap.size := by omega)); (try (have y1 : w1.heap.size < w'.heap.size := by omega)); (try (have y2 : w2.heap.size < w'.heap.size := by omega)); (try (have y3 : w3.heap.size < w'.heap.size := by omega)); (try (have y4 : w4.heap.size < w'.heap.size := by omega)); (try (have y5 : w5.heap.size < w'.heap.size := by omega)); (try (have y6 : w6.heap.size < w'.heap.size := by omega)); obtain ⟨w1, rfl⟩ : ∃ v, v = w' := ⟨_, rfl⟩))
  go_ret
  exact ⟨rfl, by (repeat (first | exact Below.refl _ _ | refine bl_drewN ?_ | refine bl_drew ?_ | refine bl_alloc ?_ _ | refine Below.setCell ?_ (by (first | (simp; done) | (simp; omega) | omega)) _ | refine bl_step (by assumption) ?_))⟩

set_option maxHeartbeats 2000000 in
theorem contains_yes (a b k n : Int) (w : World) (h : timeB a b = true) (k0 : 0 ≤ k) (k1 : k ≤ 4294967295) (n0 : -2147483648 ≤ n) (n1 : n ≤ 2147483647) :
    Calls Try.prog 7 #[.agg #[.int .i64 (a), .int .i64 (b)], .int .u32 k, .int .i32 n] w fun e w' => e = .returned (.bool true) ∧ Below w.heap.size w w' := by
  have t := timeB_t h
  have t0 := t.1; have t1 := t.2.1; have t2 := t.2.2
  clear t
  have hw3 : k.tmod (b - a + 1) = k % (b - a + 1) := Int.tmod_eq_emod_of_nonneg k0
  have q0 := Int.emod_nonneg k (show b - a + 1 ≠ 0 by omega)
  have q1 := Int.emod_lt_of_pos k (show 0 < b - a + 1 by omega)
  generalize k % (b - a + 1) = q at *
  have hw1 : IntKind.i64.wrap (b - a) = b - a := IntWalk.i64_in _ (by omega)
  have hw2 : IntKind.i64.wrap (b - a + 1) = b - a + 1 := IntWalk.i64_in _ (by omega)
  have hw4 : IntKind.i64.wrap (a + q) = a + q := IntWalk.i64_in _ (by omega)
  have hw5 : IntKind.i64.wrap q = q := IntWalk.i64_in _ (by omega)
  have hz1 : (b - a + 1 == 0) = false := by simp; omega
  have la1 : lowA a ≤ lowA (a + q) := lowA_mono (by omega)
  have la2 : upA (a + q) ≤ upA b := upA_mono (by omega)
  have la3 : lowA (a + q) ≤ upA (a + q) := low_le_up (Int.le_refl _)
  have la4 : lowA (a + q) ≤ upA b := low_le_up (by omega)
  have la5 : lowA a ≤ upA b := low_le_up t0
  have la6 := up_low (a + q)
  have dx := arc_dir _ _ la5
  have dy := arc_dir _ _ la3
  have dz := arc_dir _ _ la4
  have wy : arcHi (lowA (a + q)) (upA (a + q)) - arcLo (lowA (a + q)) (upA (a + q)) ≤ 1 := by
    unfold arcLo arcHi; split <;> omega
  have C1 := covers_arc _ _ _ _ la1 la3 la2
  have C2 := covers_arc _ _ _ _ la1 la4 (Int.le_refl _)
  have C3 := covers_arc _ _ _ _ (Int.le_refl _) la3 la2
  have ab := arc_back _ _ n la5
  have X := fun w => interval_ok a b w h
  have Y := fun w => green_ok (a + q) w (instB_mk (by omega))
  have Z := fun w => interval_ok (a + q) b w (by simp [timeB, instB]; omega)
  have L := fun w => local_ok a b n n w h (arcB_mk (by omega)) (by unfold locB locLo locHi; rw [fitsB_mk (by omega), fitsB_mk (by omega)]; rfl)
  unfold locLo locHi at L
  generalize arcLo (lowA a) (upA b) = x0 at *
  generalize arcHi (lowA a) (upA b) = x1 at *
  generalize arcLo (lowA (a + q)) (upA (a + q)) = y0 at *
  generalize arcHi (lowA (a + q)) (upA (a + q)) = y1 at *
  generalize arcLo (lowA (a + q)) (upA b) = z0 at *
  generalize arcHi (lowA (a + q)) (upA b) = z1 at *
  obtain ⟨dx0, dx1, dx2, dx3⟩ := dx
  obtain ⟨dy0, dy1, dy2, dy3⟩ := dy
  obtain ⟨dz0, dz1, dz2, dz3⟩ := dz
  have dl := arc_dir (x0 + n) (x1 + n) (by omega)
  generalize arcLo (x0 + n) (x1 + n) = l0 at *
  generalize arcHi (x0 + n) (x1 + n) = l1 at *
  obtain ⟨dl0, dl1, dl2, dl3⟩ := dl
  have S := fun w => sub_ok l0 l1 n n w (arcB_mk (by omega)) (arcB_mk (by omega)) (fitsB_mk (by omega)) (fitsB_mk (by omega))
  have T := fun w => turn_ok (l0 - n) (l1 - n) w (arcB_mk (by omega))
  rw [ab.1, ab.2] at T
  have V : arcB x0 x1 = true := arcB_mk (by omega)
  clear ab la1 la2 la3 la4 la5 la6 h
  replace X := hidden X
  replace Y := hidden Y
  replace Z := hidden Z
  replace L := hidden L
  replace S := hidden S
  replace T := hidden T
  go_enter Try.func7, Try.ntmps7
  go_wp2_with (first | (go_at_call 8; refine (awake_is _).mono ?_; rintro e w' ⟨rfl, hb⟩; (try replace hb := below_undrew hb); (try replace hb := below_undrewN hb); obtain ⟨hcell, hfroz⟩ := bcell hb; have hz := hb.size; (try simp at hz); (try (have z6 := Nat.lt_of_lt_of_le z7 hz)); (try (have z7 := Nat.lt_of_lt_of_le z8 hz)); (try (have z8 := Nat.lt_of_lt_of_le z9 hz)); (try (have z9 := Nat.lt_of_lt_of_le (Nat.lt_succ_self _) hz)); (try (have z0 : w.heap.size < w'.heap.size := by omega)); (try (have z1 : w.heap.size + 1 < w'.heap.size := by omega)); (try (have z2 : w.heap.size + 1 + 1 < w'.heap.size := by omega)); (try (have z3 : w.heap.size + 1 + 1 + 1 < w'.heap.size := by omega)); (try (have y1 : w1.heap.size < w'.heap.size := by omega)); (try (have y2 : w2.heap.size < w'.heap.size := by omega)); (try (have y3 : w3.heap.size < w'.heap.size := by omega)); (try (have y4 : w4.heap.size < w'.heap.size := by omega)); (try (have y5 : w5.heap.size < w'.heap.size := by omega)); (try (have y6 : w6.heap.size < w'.heap.size := by omega))) | (go_at_call 16; refine (X.out _).mono ?_; rintro e w' ⟨rfl, hb⟩; (try replace hb := below_undrew hb); (try replace hb := below_undrewN hb); obtain ⟨hcell, hfroz⟩ := bcell hb; have hz := hb.size; (try simp at hz); (try (have z6 := Nat.lt_of_lt_of_le z7 hz)); (try (have z7 := Nat.lt_of_lt_of_le z8 hz)); (try (have z8 := Nat.lt_of_lt_of_le z9 hz)); (try (have z9 := Nat.lt_of_lt_of_le (Nat.lt_succ_self _) hz)); (try (have z0 : w.heap.size < w'.heap.size := by omega)); (try (have z1 : w.heap.size + 1 < w'.heap.size := by omega)); (try (have z2 : w.heap.size + 1 + 1 < w'.heap.size := by omega)); (try (have z3 : w.heap.size + 1 + 1 + 1 < w'.heap.size := by omega)); (try (have y1 : w1.heap.size < w'.heap.size := by omega)); (try (have y2 : w2.heap.size < w'.heap.size := by omega)); (try (have y3 : w3.heap.size < w'.heap.size := by omega)); (try (have y4 : w4.heap.size < w'.heap.size := by omega)); (try (have y5 : w5.heap.size < w'.heap.size := by omega)); (try (have y6 : w6.heap.size < w'.heap.size := by omega)); obtain ⟨w1, rfl⟩ : ∃ v, v = w' := ⟨_, rfl⟩))
  go_quiet (fail)
  go_wp2_with (first | (go_at_call 13; refine (Y.out _).mono ?_; rintro e w' ⟨rfl, hb⟩; (try replace hb := below_undrew hb); (try replace hb := below_undrewN hb); obtain ⟨hcell, hfroz⟩ := bcell hb; have hz := hb.size; (try simp at hz); (try (have z6 := Nat.lt_of_lt_of_le z7 hz)); (try (have z7 := Nat.lt_of_lt_of_le z8 hz)); (try (have z8 := Nat.lt_of_lt_of_le z9 hz)); (try (have z9 := Nat.lt_of_lt_of_le (Nat.lt_succ_self _) hz)); (try (have z0 : w.heap.size < w'.heap.size := by omega)); (try (have z1 : w.heap.size + 1 < w'.heap.size := by omega)); (try (have z2 : w.heap.size + 1 + 1 < w'.heap.size := by omega)); (try (have z3 : w.heap.size + 1 + 1 + 1 < w'.heap.size := by omega)); (try (have y1 : w1.heap.size < w'.heap.size := by omega)); (try (have y2 : w2.heap.size < w'.heap.size := by omega)); (try (have y3 : w3.heap.size < w'.heap.size := by omega)); (try (have y4 : w4.heap.size < w'.heap.size := by omega)); (try (have y5 : w5.heap.size < w'.heap.size := by omega)); (try (have y6 : w6.heap.size < w'.heap.size := by omega)); obtain ⟨w2, rfl⟩ : ∃ v, v = w' := ⟨_, rfl⟩) | (go_at_call 16; refine (Z.out _).mono ?_; rintro e w' ⟨rfl, hb⟩; (try replace hb := below_undrew hb); (try replace hb := below_undrewN hb); obtain ⟨hcell, hfroz⟩ := bcell hb; have hz := hb.size; (try simp at hz); (try (have z6 := Nat.lt_of_lt_of_le z7 hz)); (try (have z7 := Nat.lt_of_lt_of_le z8 hz)); (try (have z8 := Nat.lt_of_lt_of_le z9 hz)); (try (have z9 := Nat.lt_of_lt_of_le (Nat.lt_succ_self _) hz)); (try (have z0 : w.heap.size < w'.heap.size := by omega)); (try (have z1 : w.heap.size + 1 < w'.heap.size := by omega)); (try (have z2 : w.heap.size + 1 + 1 < w'.heap.size := by omega)); (try (have z3 : w.heap.size + 1 + 1 + 1 < w'.heap.size := by omega)); (try (have y1 : w1.heap.size < w'.heap.size := by omega)); (try (have y2 : w2.heap.size < w'.heap.size := by omega)); (try (have y3 : w3.heap.size < w'.heap.size := by omega)); (try (have y4 : w4.heap.size < w'.heap.size := by omega)); (try (have y5 : w5.heap.size < w'.heap.size := by omega)); (try (have y6 : w6.heap.size < w'.heap.size := by omega)); obtain ⟨w3, rfl⟩ : ∃ v, v = w' := ⟨_, rfl⟩) | (go_at_call 23; refine (valid5_any _ _ _).mono ?_; rintro e w' ⟨rfl, hb⟩; (try replace hb := below_undrew hb); (try replace hb := below_undrewN hb); obtain ⟨hcell, hfroz⟩ := bcell hb; have hz := hb.size; (try simp at hz); (try (have z6 := Nat.lt_of_lt_of_le z7 hz)); (try (have z7 := Nat.lt_of_lt_of_le z8 hz)); (try (have z8 := Nat.lt_of_lt_of_le z9 hz)); (try (have z9 := Nat.lt_of_lt_of_le (Nat.lt_succ_self _) hz)); (try (have z0 : w.heap.size < w'.heap.size := by omega)); (try (have z1 : w.heap.size + 1 < w'.heap.size := by omega)); (try (have z2 : w.heap.size + 1 + 1 < w'.heap.size := by omega)); (try (have z3 : w.heap.size + 1 + 1 + 1 < w'.heap.size := by omega)); (try (have y1 : w1.heap.size < w'.heap.size := by omega)); (try (have y2 : w2.heap.size < w'.heap.size := by omega)); (try (have y3 : w3.heap.size < w'.heap.size := by omega)); (try (have y4 : w4.heap.size < w'.heap.size := by omega)); (try (have y5 : w5.heap.size < w'.heap.size := by omega)); (try (have y6 : w6.heap.size < w'.heap.size := by omega))) | (go_at_call 24; refine (covers_any _ _ _ _ _ (by omega) (by omega) (by omega) (by omega) (by omega) (by omega) (by omega) (by omega)).mono ?_; rintro e w' ⟨rfl, hb⟩; (try replace hb := below_undrew hb); (try replace hb := below_undrewN hb); obtain ⟨hcell, hfroz⟩ := bcell hb; have hz := hb.size; (try simp at hz); (try (have z6 := Nat.lt_of_lt_of_le z7 hz)); (try (have z7 := Nat.lt_of_lt_of_le z8 hz)); (try (have z8 := Nat.lt_of_lt_of_le z9 hz)); (try (have z9 := Nat.lt_of_lt_of_le (Nat.lt_succ_self _) hz)); (try (have z0 : w.heap.size < w'.heap.size := by omega)); (try (have z1 : w.heap.size + 1 < w'.heap.size := by omega)); (try (have z2 : w.heap.size + 1 + 1 < w'.heap.size := by omega)); (try (have z3 : w.heap.size + 1 + 1 + 1 < w'.heap.size := by omega)); (try (have y1 : w1.heap.size < w'.heap.size := by omega)); (try (have y2 : w2.heap.size < w'.heap.size := by omega)); (try (have y3 : w3.heap.size < w'.heap.size := by omega)); (try (have y4 : w4.heap.size < w'.heap.size := by omega)); (try (have y5 : w5.heap.size < w'.heap.size := by omega)); (try (have y6 : w6.heap.size < w'.heap.size := by omega))) | (go_at_call 17; refine (L.out _).mono ?_; rintro e w' ⟨rfl, hb⟩; (try replace hb := below_undrew hb); (try replace hb := below_undrewN hb); obtain ⟨hcell, hfroz⟩ := bcell hb; have hz := hb.size; (try simp at hz); (try (have z6 := Nat.lt_of_lt_of_le z7 hz)); (try (have z7 := Nat.lt_of_lt_of_le z8 hz)); (try (have z8 := Nat.lt_of_lt_of_le z9 hz)); (try (have z9 := Nat.lt_of_lt_of_le (Nat.lt_succ_self _) hz)); (try (have z0 : w.heap.size < w'.heap.size := by omega)); (try (have z1 : w.heap.size + 1 < w'.heap.size := by omega)); (try (have z2 : w.heap.size + 1 + 1 < w'.heap.size := by omega)); (try (have z3 : w.heap.size + 1 + 1 + 1 < w'.heap.size := by omega)); (try (have y1 : w1.heap.size < w'.heap.size := by omega)); (try (have y2 : w2.heap.size < w'.heap.size := by omega)); (try (have y3 : w3.heap.size < w'.heap.size := by omega)); (try (have y4 : w4.heap.size < w'.heap.size := by omega)); (try (have y5 : w5.heap.size < w'.heap.size := by omega)); (try (have y6 : w6.heap.size < w'.heap.size := by omega)); obtain ⟨w4, rfl⟩ : ∃ v, v = w' := ⟨_, rfl⟩) | (go_at_call 25; refine (S.out _).mono ?_; rintro e w' ⟨rfl, hb⟩; (try replace hb := below_undrew hb); (try replace hb := below_undrewN hb); obtain ⟨hcell, hfroz⟩ := bcell hb; have hz := hb.size; (try simp at hz); (try (have z6 := Nat.lt_of_lt_of_le z7 hz)); (try (have z7 := Nat.lt_of_lt_of_le z8 hz)); (try (have z8 := Nat.lt_of_lt_of_le z9 hz)); (try (have z9 := Nat.lt_of_lt_of_le (Nat.lt_succ_self _) hz)); (try (have z0 : w.heap.size < w'.heap.size := by omega)); (try (have z1 : w.heap.size + 1 < w'.heap.size := by omega)); (try (have z2 : w.heap.size + 1 + 1 < w'.heap.size := by omega)); (try (have z3 : w.heap.size + 1 + 1 + 1 < w'.heap.size := by omega)); (try (have y1 : w1.heap.size < w'.heap.size := by omega)); (try (have y2 : w2.heap.size < w'.heap.size := by omega)); (try (have y3 : w3.heap.size < w'.heap.size := by omega)); (try (have y4 : w4.heap.size < w'.heap.size := by omega)); (try (have y5 : w5.heap.size < w'.heap.size := by omega)); (try (have y6 : w6.heap.size < w'.heap.size := by omega)); obtain ⟨w5, rfl⟩ : ∃ v, v = w' := ⟨_, rfl⟩) | (go_at_call 26; refine (T.out _).mono ?_; rintro e w' ⟨rfl, hb⟩; (try replace hb := below_undrew hb); (try replace hb := below_undrewN hb); obtain ⟨hcell, hfroz⟩ := bcell hb; have hz := hb.size; (try simp at hz); (try (have z6 := Nat.lt_of_lt_of_le z7 hz)); (try (have z7 := Nat.lt_of_lt_of_le z8 hz)); (try (have z8 := Nat.lt_of_lt_of_le z9 hz)); (try (have z9 := Nat.lt_of_lt_of_le (Nat.lt_succ_self _) hz)); (try (have z0 : w.heap.size < w'.heap.size := by omega)); (try (have z1 : w.heap.size + 1 < w'.heap.size := by omega)); (try (have z2 : w.heap.size + 1 + 1 < w'.heap.size := by omega)); (try (have z3 : w.heap.size + 1 + 1 + 1 < w'.heap.size := by omega)); (try (have y1 : w1.heap.size < w'.heap.size := by omega)); (try (have y2 : w2.heap.size < w'.heap.size := by omega)); (try (have y3 : w3.heap.size < w'.heap.size := by omega)); (try (have y4 : w4.heap.size < w'.heap.size := by omega)); (try (have y5 : w5.heap.size < w'.heap.size := by omega)); (try (have y6 : w6.heap.size < w'.heap.size := by omega)); obtain ⟨w6, rfl⟩ : ∃ v, v = w' := ⟨_, rfl⟩))
  go_ret
  exact ⟨rfl, by (repeat (first | exact Below.refl _ _ | refine bl_drewN ?_ | refine bl_drew ?_ | refine bl_alloc ?_ _ | refine Below.setCell ?_ (by (first | (simp; done) | (simp; omega) | omega)) _ | refine bl_step (by assumption) ?_))⟩

theorem contains_walk (a b k n : Int) (w : World) (_ba : -9223372036854775808 ≤ a ∧ a ≤ 9223372036854775807) (_bb : -9223372036854775808 ≤ b ∧ b ≤ 9223372036854775807)
    (bk : 0 ≤ k ∧ k ≤ 4294967295) (bn : -2147483648 ≤ n ∧ n ≤ 2147483647) :
    Calls Try.prog 7 #[.agg #[.int .i64 (a), .int .i64 (b)], .int .u32 k, .int .i32 n] w fun e w' => e = .returned (.bool true) ∧ Below w.heap.size w w' := by
  cases h : timeB a b
  · exact contains_no a b k n w h
  · exact contains_yes a b k n w h bk.1 bk.2 bn.1 bn.2

end Go.Proofs.Ytccmpibljahpbaa
