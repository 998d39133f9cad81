/- Angles modulo a turn, the bounds of a sine, and enclosures over arcs, as contracts. -/
import Derived.Test.YtjceofmhodcefaaTrig4
namespace Go.Proofs.Ytjceofmhodcefaa
open Go.RowKit

theorem turned_any (n : Int) (w : World) :
    Calls Try.prog 79 #[.int .i64 n] w fun e w' => e = .returned (.int .i64 (n % 21600000)) ∧ w = w' := by
  obtain ⟨t, ht⟩ : ∃ t, n.tmod 21600000 = t := ⟨_, rfl⟩
  have hd := Int.mul_tdiv_add_tmod n 21600000
  rw [ht] at hd
  have h1 : -21600000 < t ∧ t < 21600000 := by
    have e := Int.natAbs_tmod n 21600000
    have e2 : Int.natAbs 21600000 = 21600000 := rfl
    rw [ht, e2] at e
    omega
  by_cases hn : 0 ≤ n
  · have ht2 : n.tmod 21600000 = n % 21600000 := Int.tmod_eq_emod_of_nonneg hn
    clear hd h1 ht
    have h0 : 0 ≤ n % 21600000 := by omega
    go_enter Try.func79, Try.ntmps79
    go_wp2
    go_ret
    exact ⟨rfl, rfl⟩
  · have hs : t ≤ 0 := by
      have e : n.tmod 21600000 = -((-n).tmod 21600000) := by rw [Int.neg_tmod, Int.neg_neg]
      rw [ht, Int.tmod_eq_emod_of_nonneg (show 0 ≤ -n by omega)] at e
      omega
    generalize n.tdiv 21600000 = q at *
    by_cases hz : t < 0
    · have E : Hid (t + 21600000 = n % 21600000) := by unfold Hid; omega
      have l1 := h1.1
      have l2 := h1.2
      clear hd h1
      go_enter Try.func79, Try.ntmps79
      go_wp2
      go_ret
      exact ⟨ret_one E.out, rfl⟩
    · have E : Hid (t = n % 21600000) := by unfold Hid; omega
      have l1 := h1.1
      have l2 := h1.2
      clear hd h1
      go_enter Try.func79, Try.ntmps79
      go_wp2
      go_ret
      exact ⟨ret_one E.out, rfl⟩

def upB (r : Int) : Int := if exactB r then sinLo r else sinLo r + 1
/-- the angle of the first quarter that has the same sine, but for the sign -/
def redA (n : Int) : Int :=
  if 10800000 < n % 21600000 then (if 5400000 < n % 21600000 - 10800000 then 10800000 - (n % 21600000 - 10800000) else n % 21600000 - 10800000)
  else (if 5400000 < n % 21600000 then 10800000 - n % 21600000 else n % 21600000)
def bLo (n : Int) : Int := if 10800000 < n % 21600000 then -(upB (redA n)) else sinLo (redA n)
def bHi (n : Int) : Int := if 10800000 < n % 21600000 then -(sinLo (redA n)) else upB (redA n)
theorem redA_bd (n : Int) : 0 ≤ redA n ∧ redA n ≤ 5400000 := by unfold redA; split <;> split <;> omega
set_option maxHeartbeats 1000000 in
theorem bounds_walk (n m r lo : Int) (E : Bool) (up : Int) (w : World) (hm : n % 21600000 = m) (m0 : 0 ≤ m) (m1 : m < 21600000)
    (hr : r = if 10800000 < m then (if 5400000 < m - 10800000 then 10800000 - (m - 10800000) else m - 10800000) else (if 5400000 < m then 10800000 - m else m))
    (S : Hid (∀ w, Calls Try.prog 80 #[.int .i64 r] w fun e w' => e = .returned (.tuple #[.int .i64 lo, .bool E]) ∧ Below w.heap.size w w')) (l0 : 0 ≤ lo) (l1 : lo ≤ 1073741824) (hu : up = if E then lo else lo + 1) :
    Calls Try.prog 75 #[.int .i64 n] w fun e w' => e = .returned (.tuple #[.int .i64 (if 10800000 < m then -up else lo), .int .i64 (if 10800000 < m then -lo else up)]) ∧ Below w.heap.size w w' := by
  have T := hidden fun w => turned_any n w
  rw [hm] at T
  clear hm
  by_cases h1 : 10800000 < m
  · rw [if_pos h1] at hr
    rw [if_pos h1, if_pos h1]
    by_cases h2 : 5400000 < m - 10800000
    · rw [if_pos h2] at hr
      subst hr
      cases E
      all_goals
        simp at hu
        subst hu
        go_enter Try.func75, Try.ntmps75
        go_wp2_with (first | (go_at_call 79; ((with_reducible refine (T.out _).mono ?_); rintro e w' ⟨rfl, rfl⟩)) | (go_at_call 80; ((with_reducible refine (S.out _).mono ?_); rintro e w' ⟨rfl, hb⟩); (try replace hb := below_undrew hb); (try replace hb := below_undrewN hb); obtain ⟨hcell, hfroz⟩ := bcell hb; have hz := hb.size; (try simp at hz); (try (have z6 := Nat.lt_of_lt_of_le z7 hz)); (try (have z7 := Nat.lt_of_lt_of_le z8 hz)); (try (have z8 := Nat.lt_of_lt_of_le z9 hz)); (try (have z9 := Nat.lt_of_lt_of_le (Nat.lt_succ_self _) hz)); (try (have z0 : w.heap.size < w'.heap.size := by omega)); (try (have z1 : w.heap.size + 1 < w'.heap.size := by omega)); (try (have z2 : w.heap.size + 1 + 1 < w'.heap.size := by omega)); (try (have z3 : w.heap.size + 1 + 1 + 1 < w'.heap.size := by omega)); (try (have y1 : w1.heap.size < w'.heap.size := by omega)); (try (have y2 : w2.heap.size < w'.heap.size := by omega)); (try (have y3 : w3.heap.size < w'.heap.size := by omega)); (try (have y4 : w4.heap.size < w'.heap.size := by omega)); (try (have y5 : w5.heap.size < w'.heap.size := by omega)); (try (have y6 : w6.heap.size < w'.heap.size := by omega)); (try (have x1 : w1.heap.size + 1 < w'.heap.size := by omega)); (try (have x2 : w2.heap.size + 1 < w'.heap.size := by omega)); (try (have x3 : w3.heap.size + 1 < w'.heap.size := by omega)); (try (have x4 : w4.heap.size + 1 < w'.heap.size := by omega)); (try (have x5 : w5.heap.size + 1 < w'.heap.size := by omega)); (try (have x6 : w6.heap.size + 1 < w'.heap.size := by omega))))
        go_ret2
        exact ⟨rfl, by (repeat (first | exact Below.refl _ _ | refine bl_drewN ?_ | refine bl_drew ?_ | refine bl_alloc ?_ _ | refine Below.setCell ?_ (by (first | (simp; done) | (simp; omega) | omega)) _ | refine bl_step (by assumption) ?_))⟩
    · rw [if_neg h2] at hr
      subst hr
      cases E
      all_goals
        simp at hu
        subst hu
        go_enter Try.func75, Try.ntmps75
        go_wp2_with (first | (go_at_call 79; ((with_reducible refine (T.out _).mono ?_); rintro e w' ⟨rfl, rfl⟩)) | (go_at_call 80; ((with_reducible refine (S.out _).mono ?_); rintro e w' ⟨rfl, hb⟩); (try replace hb := below_undrew hb); (try replace hb := below_undrewN hb); obtain ⟨hcell, hfroz⟩ := bcell hb; have hz := hb.size; (try simp at hz); (try (have z6 := Nat.lt_of_lt_of_le z7 hz)); (try (have z7 := Nat.lt_of_lt_of_le z8 hz)); (try (have z8 := Nat.lt_of_lt_of_le z9 hz)); (try (have z9 := Nat.lt_of_lt_of_le (Nat.lt_succ_self _) hz)); (try (have z0 : w.heap.size < w'.heap.size := by omega)); (try (have z1 : w.heap.size + 1 < w'.heap.size := by omega)); (try (have z2 : w.heap.size + 1 + 1 < w'.heap.size := by omega)); (try (have z3 : w.heap.size + 1 + 1 + 1 < w'.heap.size := by omega)); (try (have y1 : w1.heap.size < w'.heap.size := by omega)); (try (have y2 : w2.heap.size < w'.heap.size := by omega)); (try (have y3 : w3.heap.size < w'.heap.size := by omega)); (try (have y4 : w4.heap.size < w'.heap.size := by omega)); (try (have y5 : w5.heap.size < w'.heap.size := by omega)); (try (have y6 : w6.heap.size < w'.heap.size := by omega)); (try (have x1 : w1.heap.size + 1 < w'.heap.size := by omega)); (try (have x2 : w2.heap.size + 1 < w'.heap.size := by omega)); (try (have x3 : w3.heap.size + 1 < w'.heap.size := by omega)); (try (have x4 : w4.heap.size + 1 < w'.heap.size := by omega)); (try (have x5 : w5.heap.size + 1 < w'.heap.size := by omega)); (try (have x6 : w6.heap.size + 1 < w'.heap.size := by omega))))
        go_ret2
        exact ⟨rfl, by (repeat (first | exact Below.refl _ _ | refine bl_drewN ?_ | refine bl_drew ?_ | refine bl_alloc ?_ _ | refine Below.setCell ?_ (by (first | (simp; done) | (simp; omega) | omega)) _ | refine bl_step (by assumption) ?_))⟩
  · rw [if_neg h1] at hr
    rw [if_neg h1, if_neg h1]
    by_cases h2 : 5400000 < m
    · rw [if_pos h2] at hr
      subst hr
      cases E
      all_goals
        simp at hu
        subst hu
        go_enter Try.func75, Try.ntmps75
        go_wp2_with (first | (go_at_call 79; ((with_reducible refine (T.out _).mono ?_); rintro e w' ⟨rfl, rfl⟩)) | (go_at_call 80; ((with_reducible refine (S.out _).mono ?_); rintro e w' ⟨rfl, hb⟩); (try replace hb := below_undrew hb); (try replace hb := below_undrewN hb); obtain ⟨hcell, hfroz⟩ := bcell hb; have hz := hb.size; (try simp at hz); (try (have z6 := Nat.lt_of_lt_of_le z7 hz)); (try (have z7 := Nat.lt_of_lt_of_le z8 hz)); (try (have z8 := Nat.lt_of_lt_of_le z9 hz)); (try (have z9 := Nat.lt_of_lt_of_le (Nat.lt_succ_self _) hz)); (try (have z0 : w.heap.size < w'.heap.size := by omega)); (try (have z1 : w.heap.size + 1 < w'.heap.size := by omega)); (try (have z2 : w.heap.size + 1 + 1 < w'.heap.size := by omega)); (try (have z3 : w.heap.size + 1 + 1 + 1 < w'.heap.size := by omega)); (try (have y1 : w1.heap.size < w'.heap.size := by omega)); (try (have y2 : w2.heap.size < w'.heap.size := by omega)); (try (have y3 : w3.heap.size < w'.heap.size := by omega)); (try (have y4 : w4.heap.size < w'.heap.size := by omega)); (try (have y5 : w5.heap.size < w'.heap.size := by omega)); (try (have y6 : w6.heap.size < w'.heap.size := by omega)); (try (have x1 : w1.heap.size + 1 < w'.heap.size := by omega)); (try (have x2 : w2.heap.size + 1 < w'.heap.size := by omega)); (try (have x3 : w3.heap.size + 1 < w'.heap.size := by omega)); (try (have x4 : w4.heap.size + 1 < w'.heap.size := by omega)); (try (have x5 : w5.heap.size + 1 < w'.heap.size := by omega)); (try (have x6 : w6.heap.size + 1 < w'.heap.size := by omega))))
        go_ret2
        exact ⟨rfl, by (repeat (first | exact Below.refl _ _ | refine bl_drewN ?_ | refine bl_drew ?_ | refine bl_alloc ?_ _ | refine Below.setCell ?_ (by (first | (simp; done) | (simp; omega) | omega)) _ | refine bl_step (by assumption) ?_))⟩
    · rw [if_neg h2] at hr
      subst hr
      cases E
      all_goals
        simp at hu
        subst hu
        go_enter Try.func75, Try.ntmps75
        go_wp2_with (first | (go_at_call 79; ((with_reducible refine (T.out _).mono ?_); rintro e w' ⟨rfl, rfl⟩)) | (go_at_call 80; ((with_reducible refine (S.out _).mono ?_); rintro e w' ⟨rfl, hb⟩); (try replace hb := below_undrew hb); (try replace hb := below_undrewN hb); obtain ⟨hcell, hfroz⟩ := bcell hb; have hz := hb.size; (try simp at hz); (try (have z6 := Nat.lt_of_lt_of_le z7 hz)); (try (have z7 := Nat.lt_of_lt_of_le z8 hz)); (try (have z8 := Nat.lt_of_lt_of_le z9 hz)); (try (have z9 := Nat.lt_of_lt_of_le (Nat.lt_succ_self _) hz)); (try (have z0 : w.heap.size < w'.heap.size := by omega)); (try (have z1 : w.heap.size + 1 < w'.heap.size := by omega)); (try (have z2 : w.heap.size + 1 + 1 < w'.heap.size := by omega)); (try (have z3 : w.heap.size + 1 + 1 + 1 < w'.heap.size := by omega)); (try (have y1 : w1.heap.size < w'.heap.size := by omega)); (try (have y2 : w2.heap.size < w'.heap.size := by omega)); (try (have y3 : w3.heap.size < w'.heap.size := by omega)); (try (have y4 : w4.heap.size < w'.heap.size := by omega)); (try (have y5 : w5.heap.size < w'.heap.size := by omega)); (try (have y6 : w6.heap.size < w'.heap.size := by omega)); (try (have x1 : w1.heap.size + 1 < w'.heap.size := by omega)); (try (have x2 : w2.heap.size + 1 < w'.heap.size := by omega)); (try (have x3 : w3.heap.size + 1 < w'.heap.size := by omega)); (try (have x4 : w4.heap.size + 1 < w'.heap.size := by omega)); (try (have x5 : w5.heap.size + 1 < w'.heap.size := by omega)); (try (have x6 : w6.heap.size + 1 < w'.heap.size := by omega))))
        go_ret2
        exact ⟨rfl, by (repeat (first | exact Below.refl _ _ | refine bl_drewN ?_ | refine bl_drew ?_ | refine bl_alloc ?_ _ | refine Below.setCell ?_ (by (first | (simp; done) | (simp; omega) | omega)) _ | refine bl_step (by assumption) ?_))⟩

theorem bounds_any (n : Int) (w : World) :
    Calls Try.prog 75 #[.int .i64 n] w fun e w' => e = .returned (.tuple #[.int .i64 (bLo n), .int .i64 (bHi n)]) ∧ Below w.heap.size w w' := by
  have r := redA_bd n
  have b := sinLo_bd (redA n) r.1 r.2
  exact bounds_walk n (n % 21600000) (redA n) (sinLo (redA n)) (exactB (redA n)) (upB (redA n)) w rfl (by omega) (by omega) rfl (hidden fun w => sine_any (redA n) w r.1 r.2) b.1 b.2 rfl

end Go.Proofs.Ytjceofmhodcefaa
