/- Enclosures of sines, cosines and haversines over arcs, and Below, as contracts. -/
import Derived.Test.YtjceofmhodcefaaTrig5
namespace Go.Proofs.Ytjceofmhodcefaa
open Go.RowKit

def arcV (lo hi : Int) : Bool := decide (-1099511627776 ≤ lo) && decide (lo ≤ hi) && decide (hi ≤ 1099511627776)
theorem arcV_t {lo hi : Int} (h : arcV lo hi = true) : -1099511627776 ≤ lo ∧ lo ≤ hi ∧ hi ≤ 1099511627776 := by simp [arcV] at h; omega
theorem arcV_mk {lo hi : Int} (h : -1099511627776 ≤ lo ∧ lo ≤ hi ∧ hi ≤ 1099511627776) : arcV lo hi = true := by simp [arcV]; omega
theorem arcV_not {lo hi : Int} (h : ¬ (-1099511627776 ≤ lo ∧ lo ≤ hi ∧ hi ≤ 1099511627776)) : arcV lo hi = false := by simp [arcV]; omega

set_option maxHeartbeats 400000 in
theorem tvalid6_any (a b : Int) (w : World) :
    Calls Try.prog 63 #[.agg #[.int .i64 (a), .int .i64 (b)]] w fun e w' => e = .returned (.bool (arcV a b)) ∧ Below w.heap.size w w' := by
  by_cases h1 : -1099511627776 ≤ a
  · by_cases h2 : a ≤ b
    · by_cases h3 : b ≤ 1099511627776
      · have H := hidden (arcV_mk ⟨h1, h2, h3⟩)
        go_enter Try.func63, Try.ntmps63
        go_wp2
        go_ret
        exact ⟨by rw [H.out]; rfl, by (repeat (first | exact Below.refl _ _ | refine bl_drewN ?_ | refine bl_drew ?_ | refine bl_alloc ?_ _ | refine Below.setCell ?_ (by (first | (simp; done) | (simp; omega) | omega)) _ | refine bl_step (by assumption) ?_))⟩
      · have H := hidden (arcV_not (lo := a) (hi := b) (by omega))
        go_enter Try.func63, Try.ntmps63
        go_wp2
        go_ret
        exact ⟨by rw [H.out]; rfl, by (repeat (first | exact Below.refl _ _ | refine bl_drewN ?_ | refine bl_drew ?_ | refine bl_alloc ?_ _ | refine Below.setCell ?_ (by (first | (simp; done) | (simp; omega) | omega)) _ | refine bl_step (by assumption) ?_))⟩
    · have H := hidden (arcV_not (lo := a) (hi := b) (by omega))
      go_enter Try.func63, Try.ntmps63
      go_wp2
      go_ret
      exact ⟨by rw [H.out]; rfl, by (repeat (first | exact Below.refl _ _ | refine bl_drewN ?_ | refine bl_drew ?_ | refine bl_alloc ?_ _ | refine Below.setCell ?_ (by (first | (simp; done) | (simp; omega) | omega)) _ | refine bl_step (by assumption) ?_))⟩
  · have H := hidden (arcV_not (lo := a) (hi := b) (by omega))
    go_enter Try.func63, Try.ntmps63
    go_wp2
    go_ret
    exact ⟨by rw [H.out]; rfl, by (repeat (first | exact Below.refl _ _ | refine bl_drewN ?_ | refine bl_drew ?_ | refine bl_alloc ?_ _ | refine Below.setCell ?_ (by (first | (simp; done) | (simp; omega) | omega)) _ | refine bl_step (by assumption) ?_))⟩

/-- whether an arc has an angle with the direction of n -/
def meetB (a b n : Int) : Bool := decide ((n - a) % 21600000 ≤ b - a)

set_option maxHeartbeats 400000 in
theorem meets_any (a b n : Int) (w : World) (a0 : -1099517027776 ≤ a) (a1 : a ≤ 1099517027776) (b0 : -1099517027776 ≤ b) (b1 : b ≤ 1099517027776) (n0 : 0 ≤ n) (n1 : n ≤ 21600000) :
    Calls Try.prog 76 #[.agg #[.int .i64 (a), .int .i64 (b)], .int .i64 n] w fun e w' => e = .returned (.bool (meetB a b n)) ∧ Below w.heap.size w w' := by
  obtain ⟨t, ht⟩ : ∃ t, (n - a) % 21600000 = t := ⟨_, rfl⟩
  have T := fun w => turned_any (n - a) w
  have E : Hid (decide (t ≤ b - a) = meetB a b n) := by unfold Hid meetB; rw [ht]
  rw [ht] at T
  replace T := hidden T
  clear ht
  go_enter Try.func76, Try.ntmps76
  go_wp2
  go_quiet ((go_at_call 79; (with_reducible exact quiet_same (T.out _))))
  go_wp2
  go_ret
  exact ⟨by rw [← E.out]; rfl, by (repeat (first | exact Below.refl _ _ | refine bl_drewN ?_ | refine bl_drew ?_ | refine bl_alloc ?_ _ | refine Below.setCell ?_ (by (first | (simp; done) | (simp; omega) | omega)) _ | refine bl_step (by assumption) ?_))⟩

/-- the ends of the least enclosure over an arc -/
def encLo (a b : Int) : Int := if meetB a b 16200000 then -1073741824 else min (bLo a) (bLo b)
def encHi (a b : Int) : Int := if meetB a b 5400000 then 1073741824 else max (bHi a) (bHi b)

set_option maxHeartbeats 1000000 in
theorem enc_walk (a b p q r s L H : Int) (U V : Bool) (w : World) (_a0 : -1099517027776 ≤ a) (_a1 : a ≤ 1099517027776) (_b0 : -1099517027776 ≤ b) (_b1 : b ≤ 1099517027776)
    (A : Hid (∀ w, Calls Try.prog 75 #[.int .i64 a] w fun e w' => e = .returned (.tuple #[.int .i64 p, .int .i64 q]) ∧ Below w.heap.size w w'))
    (B : Hid (∀ w, Calls Try.prog 75 #[.int .i64 b] w fun e w' => e = .returned (.tuple #[.int .i64 r, .int .i64 s]) ∧ Below w.heap.size w w'))
    (M1 : Hid (∀ w, Calls Try.prog 76 #[.agg #[.int .i64 (a), .int .i64 (b)], .int .i64 5400000] w fun e w' => e = .returned (.bool U) ∧ Below w.heap.size w w'))
    (M3 : Hid (∀ w, Calls Try.prog 76 #[.agg #[.int .i64 (a), .int .i64 (b)], .int .i64 16200000] w fun e w' => e = .returned (.bool V) ∧ Below w.heap.size w w'))
    (hL : (if V then -1073741824 else min p r) = L) (hH : (if U then 1073741824 else max q s) = H) :
    Calls Try.prog 64 #[.agg #[.int .i64 (a), .int .i64 (b)]] w fun e w' => e = .returned (.agg #[.int .i64 (L), .int .i64 (H)]) ∧ Below w.heap.size w w' := by
  cases U <;> cases V
  all_goals
    simp at hL hH
    subst hL hH
    go_enter Try.func64, Try.ntmps64
    go_wp2_with (first | (go_at_call 75; ((with_reducible refine (A.out _).mono ?_); rintro e w' ⟨rfl, hb⟩); (try replace hb := below_undrew hb); (try replace hb := below_undrewN hb); obtain ⟨hcell, hfroz⟩ := bcell hb; have hz := hb.size; (try simp at hz); (try (have z6 := Nat.lt_of_lt_of_le z7 hz)); (try (have z7 := Nat.lt_of_lt_of_le z8 hz)); (try (have z8 := Nat.lt_of_lt_of_le z9 hz)); (try (have z9 := Nat.lt_of_lt_of_le (Nat.lt_succ_self _) hz)); (try (have z0 : w.heap.size < w'.heap.size := by omega)); (try (have z1 : w.heap.size + 1 < w'.heap.size := by omega)); (try (have z2 : w.heap.size + 1 + 1 < w'.heap.size := by omega)); (try (have z3 : w.heap.size + 1 + 1 + 1 < w'.heap.size := by omega)); (try (have y1 : w1.heap.size < w'.heap.size := by omega)); (try (have y2 : w2.heap.size < w'.heap.size := by omega)); (try (have y3 : w3.heap.size < w'.heap.size := by omega)); (try (have y4 : w4.heap.size < w'.heap.size := by omega)); (try (have y5 : w5.heap.size < w'.heap.size := by omega)); (try (have y6 : w6.heap.size < w'.heap.size := by omega)); (try (have x1 : w1.heap.size + 1 < w'.heap.size := by omega)); (try (have x2 : w2.heap.size + 1 < w'.heap.size := by omega)); (try (have x3 : w3.heap.size + 1 < w'.heap.size := by omega)); (try (have x4 : w4.heap.size + 1 < w'.heap.size := by omega)); (try (have x5 : w5.heap.size + 1 < w'.heap.size := by omega)); (try (have x6 : w6.heap.size + 1 < w'.heap.size := by omega))) | (go_at_call 75; ((with_reducible refine (B.out _).mono ?_); rintro e w' ⟨rfl, hb⟩); (try replace hb := below_undrew hb); (try replace hb := below_undrewN hb); obtain ⟨hcell, hfroz⟩ := bcell hb; have hz := hb.size; (try simp at hz); (try (have z6 := Nat.lt_of_lt_of_le z7 hz)); (try (have z7 := Nat.lt_of_lt_of_le z8 hz)); (try (have z8 := Nat.lt_of_lt_of_le z9 hz)); (try (have z9 := Nat.lt_of_lt_of_le (Nat.lt_succ_self _) hz)); (try (have z0 : w.heap.size < w'.heap.size := by omega)); (try (have z1 : w.heap.size + 1 < w'.heap.size := by omega)); (try (have z2 : w.heap.size + 1 + 1 < w'.heap.size := by omega)); (try (have z3 : w.heap.size + 1 + 1 + 1 < w'.heap.size := by omega)); (try (have y1 : w1.heap.size < w'.heap.size := by omega)); (try (have y2 : w2.heap.size < w'.heap.size := by omega)); (try (have y3 : w3.heap.size < w'.heap.size := by omega)); (try (have y4 : w4.heap.size < w'.heap.size := by omega)); (try (have y5 : w5.heap.size < w'.heap.size := by omega)); (try (have y6 : w6.heap.size < w'.heap.size := by omega)); (try (have x1 : w1.heap.size + 1 < w'.heap.size := by omega)); (try (have x2 : w2.heap.size + 1 < w'.heap.size := by omega)); (try (have x3 : w3.heap.size + 1 < w'.heap.size := by omega)); (try (have x4 : w4.heap.size + 1 < w'.heap.size := by omega)); (try (have x5 : w5.heap.size + 1 < w'.heap.size := by omega)); (try (have x6 : w6.heap.size + 1 < w'.heap.size := by omega))) | (go_at_call 76; ((with_reducible refine (M1.out _).mono ?_); rintro e w' ⟨rfl, hb⟩); (try replace hb := below_undrew hb); (try replace hb := below_undrewN hb); obtain ⟨hcell, hfroz⟩ := bcell hb; have hz := hb.size; (try simp at hz); (try (have z6 := Nat.lt_of_lt_of_le z7 hz)); (try (have z7 := Nat.lt_of_lt_of_le z8 hz)); (try (have z8 := Nat.lt_of_lt_of_le z9 hz)); (try (have z9 := Nat.lt_of_lt_of_le (Nat.lt_succ_self _) hz)); (try (have z0 : w.heap.size < w'.heap.size := by omega)); (try (have z1 : w.heap.size + 1 < w'.heap.size := by omega)); (try (have z2 : w.heap.size + 1 + 1 < w'.heap.size := by omega)); (try (have z3 : w.heap.size + 1 + 1 + 1 < w'.heap.size := by omega)); (try (have y1 : w1.heap.size < w'.heap.size := by omega)); (try (have y2 : w2.heap.size < w'.heap.size := by omega)); (try (have y3 : w3.heap.size < w'.heap.size := by omega)); (try (have y4 : w4.heap.size < w'.heap.size := by omega)); (try (have y5 : w5.heap.size < w'.heap.size := by omega)); (try (have y6 : w6.heap.size < w'.heap.size := by omega)); (try (have x1 : w1.heap.size + 1 < w'.heap.size := by omega)); (try (have x2 : w2.heap.size + 1 < w'.heap.size := by omega)); (try (have x3 : w3.heap.size + 1 < w'.heap.size := by omega)); (try (have x4 : w4.heap.size + 1 < w'.heap.size := by omega)); (try (have x5 : w5.heap.size + 1 < w'.heap.size := by omega)); (try (have x6 : w6.heap.size + 1 < w'.heap.size := by omega))) | (go_at_call 76; ((with_reducible refine (M3.out _).mono ?_); rintro e w' ⟨rfl, hb⟩); (try replace hb := below_undrew hb); (try replace hb := below_undrewN hb); obtain ⟨hcell, hfroz⟩ := bcell hb; have hz := hb.size; (try simp at hz); (try (have z6 := Nat.lt_of_lt_of_le z7 hz)); (try (have z7 := Nat.lt_of_lt_of_le z8 hz)); (try (have z8 := Nat.lt_of_lt_of_le z9 hz)); (try (have z9 := Nat.lt_of_lt_of_le (Nat.lt_succ_self _) hz)); (try (have z0 : w.heap.size < w'.heap.size := by omega)); (try (have z1 : w.heap.size + 1 < w'.heap.size := by omega)); (try (have z2 : w.heap.size + 1 + 1 < w'.heap.size := by omega)); (try (have z3 : w.heap.size + 1 + 1 + 1 < w'.heap.size := by omega)); (try (have y1 : w1.heap.size < w'.heap.size := by omega)); (try (have y2 : w2.heap.size < w'.heap.size := by omega)); (try (have y3 : w3.heap.size < w'.heap.size := by omega)); (try (have y4 : w4.heap.size < w'.heap.size := by omega)); (try (have y5 : w5.heap.size < w'.heap.size := by omega)); (try (have y6 : w6.heap.size < w'.heap.size := by omega)); (try (have x1 : w1.heap.size + 1 < w'.heap.size := by omega)); (try (have x2 : w2.heap.size + 1 < w'.heap.size := by omega)); (try (have x3 : w3.heap.size + 1 < w'.heap.size := by omega)); (try (have x4 : w4.heap.size + 1 < w'.heap.size := by omega)); (try (have x5 : w5.heap.size + 1 < w'.heap.size := by omega)); (try (have x6 : w6.heap.size + 1 < w'.heap.size := by omega))))
    first
      | exact bodyPost_ret (v := .agg #[.int .i64 (min p r), .int .i64 (max q s)]) (by first | (simp only [results, Try.results64]; go_simp; done) | simp [results, Try.results64, go_sem, *]) rfl ⟨rfl, by (repeat (first | exact Below.refl _ _ | refine bl_drewN ?_ | refine bl_drew ?_ | refine bl_alloc ?_ _ | refine Below.setCell ?_ (by (first | (simp; done) | (simp; omega) | omega)) _ | refine bl_step (by assumption) ?_))⟩
      | exact bodyPost_ret (v := .agg #[.int .i64 (-1073741824), .int .i64 (max q s)]) (by first | (simp only [results, Try.results64]; go_simp; done) | simp [results, Try.results64, go_sem, *]) rfl ⟨rfl, by (repeat (first | exact Below.refl _ _ | refine bl_drewN ?_ | refine bl_drew ?_ | refine bl_alloc ?_ _ | refine Below.setCell ?_ (by (first | (simp; done) | (simp; omega) | omega)) _ | refine bl_step (by assumption) ?_))⟩
      | exact bodyPost_ret (v := .agg #[.int .i64 (min p r), .int .i64 (1073741824)]) (by first | (simp only [results, Try.results64]; go_simp; done) | simp [results, Try.results64, go_sem, *]) rfl ⟨rfl, by (repeat (first | exact Below.refl _ _ | refine bl_drewN ?_ | refine bl_drew ?_ | refine bl_alloc ?_ _ | refine Below.setCell ?_ (by (first | (simp; done) | (simp; omega) | omega)) _ | refine bl_step (by assumption) ?_))⟩
      | exact bodyPost_ret (v := .agg #[.int .i64 (-1073741824), .int .i64 (1073741824)]) (by first | (simp only [results, Try.results64]; go_simp; done) | simp [results, Try.results64, go_sem, *]) rfl ⟨rfl, by (repeat (first | exact Below.refl _ _ | refine bl_drewN ?_ | refine bl_drew ?_ | refine bl_alloc ?_ _ | refine Below.setCell ?_ (by (first | (simp; done) | (simp; omega) | omega)) _ | refine bl_step (by assumption) ?_))⟩

theorem enc_any (a b : Int) (w : World) (a0 : -1099517027776 ≤ a) (a1 : a ≤ 1099517027776) (b0 : -1099517027776 ≤ b) (b1 : b ≤ 1099517027776) :
    Calls Try.prog 64 #[.agg #[.int .i64 (a), .int .i64 (b)]] w fun e w' => e = .returned (.agg #[.int .i64 (encLo a b), .int .i64 (encHi a b)]) ∧ Below w.heap.size w w' :=
  enc_walk a b _ _ _ _ _ _ _ _ w a0 a1 b0 b1 (hidden fun w => bounds_any a w) (hidden fun w => bounds_any b w) (hidden fun w => meets_any a b 5400000 w a0 a1 b0 b1 (by omega) (by omega)) (hidden fun w => meets_any a b 16200000 w a0 a1 b0 b1 (by omega) (by omega)) rfl rfl

theorem further_any (a b : Int) (w : World) (a0 : -1099511627776 ≤ a) (a1 : a ≤ 1099511627776) (b0 : -1099511627776 ≤ b) (b1 : b ≤ 1099511627776) :
    Calls Try.prog 65 #[.agg #[.int .i64 (a), .int .i64 (b)]] w fun e w' => e = .returned (.agg #[.int .i64 (a + 5400000), .int .i64 (b + 5400000)]) ∧ Below w.heap.size w w' := by
  go_enter Try.func65, Try.ntmps65
  go_wp2
  exact bodyPost_ret (v := .agg #[.int .i64 (a + 5400000), .int .i64 (b + 5400000)]) (by first | (simp only [results, Try.results65]; go_simp; done) | simp [results, Try.results65, go_sem, *]) rfl ⟨rfl, by (repeat (first | exact Below.refl _ _ | refine bl_drewN ?_ | refine bl_drew ?_ | refine bl_alloc ?_ _ | refine Below.setCell ?_ (by (first | (simp; done) | (simp; omega) | omega)) _ | refine bl_step (by assumption) ?_))⟩

end Go.Proofs.Ytjceofmhodcefaa
