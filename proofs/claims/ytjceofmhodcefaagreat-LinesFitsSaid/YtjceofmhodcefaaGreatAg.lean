/- Several small texts in one: XAng, XAng2, XAng3. -/
import Derived.Test.YtjceofmhodcefaaGreatBase
import Derived.Deep.RegionHeld3
namespace Go.Proofs.YtjceofmhodcefaaGreat
open Go.RowKit

def fitsB (n : Int) : Bool := decide (-1099511627776 ≤ n) && decide (n ≤ 1099511627776)
def arcB (a b : Int) : Bool := decide (a ≤ b) && fitsB a && fitsB b

theorem fitsB_mk {n : Int} (h : -1099511627776 ≤ n ∧ n ≤ 1099511627776) : fitsB n = true := by simpa [fitsB] using h
theorem fitsB_not {n : Int} (h : n < -1099511627776 ∨ 1099511627776 < n) : fitsB n = false := by simp [fitsB]; omega
theorem arcB_t {a b : Int} (h : arcB a b = true) : a ≤ b ∧ -1099511627776 ≤ a ∧ b ≤ 1099511627776 := by simp [arcB, fitsB] at h; omega
theorem arcB_mk {a b : Int} (h : a ≤ b ∧ -1099511627776 ≤ a ∧ b ≤ 1099511627776) : arcB a b = true := by simp [arcB, fitsB]; omega
theorem arcB_not {a b : Int} (h : ¬ (a ≤ b ∧ -1099511627776 ≤ a ∧ b ≤ 1099511627776)) : arcB a b = false := by simp [arcB, fitsB]; omega

set_option maxHeartbeats 400000 in
theorem fits_any (n : Int) (w : World) :
    Calls Tryz.prog 63 #[.int .i64 n] w fun e w' => e = .returned (.bool (fitsB n)) ∧ w = w' := by
  by_cases h1 : -1099511627776 ≤ n
  · by_cases h2 : n ≤ 1099511627776
    · have H := hidden (fitsB_mk ⟨h1, h2⟩)
      go_enter Tryz.func63, Tryz.ntmps63
      go_wp2
      go_ret
      exact ⟨by rw [H.out]; rfl, rfl⟩
    · have H := hidden (fitsB_not (n := n) (by omega))
      go_enter Tryz.func63, Tryz.ntmps63
      go_wp2
      go_ret
      exact ⟨by rw [H.out]; rfl, rfl⟩
  · have H := hidden (fitsB_not (n := n) (by omega))
    go_enter Tryz.func63, Tryz.ntmps63
    go_wp2
    go_ret
    exact ⟨by rw [H.out]; rfl, rfl⟩

set_option maxHeartbeats 400000 in
theorem valid_any (a b : Int) (w : World) :
    Calls Tryz.prog 38 #[.agg #[.int .i64 a, .int .i64 b]] w fun e w' => e = .returned (.bool (arcB a b)) ∧ Below w.heap.size w w' := by
  by_cases h1 : a ≤ b
  · cases h2 : fitsB a
    · have H := hidden (show arcB a b = false by simp [arcB, h2])
      go_enter Tryz.func38, Tryz.ntmps38
      go_wp2_with (go_at_call 63; refine (fits_any _ _).mono ?_; rintro e w' ⟨rfl, rfl⟩)
      go_ret
      exact ⟨by rw [H.out]; rfl, (Below.refl _ _).alloc (Nat.le_refl _) _⟩
    · cases h3 : fitsB b
      · have H := hidden (show arcB a b = false by simp [arcB, h3])
        go_enter Tryz.func38, Tryz.ntmps38
        go_wp2_with (go_at_call 63; refine (fits_any _ _).mono ?_; rintro e w' ⟨rfl, rfl⟩)
        go_ret
        exact ⟨by rw [H.out]; rfl, (Below.refl _ _).alloc (Nat.le_refl _) _⟩
      · have H := hidden (show arcB a b = true by simp [arcB, h1, h2, h3])
        go_enter Tryz.func38, Tryz.ntmps38
        go_wp2_with (go_at_call 63; refine (fits_any _ _).mono ?_; rintro e w' ⟨rfl, rfl⟩)
        go_ret
        exact ⟨by rw [H.out]; rfl, (Below.refl _ _).alloc (Nat.le_refl _) _⟩
  · have H := hidden (show arcB a b = false by simp [arcB, h1])
    go_enter Tryz.func38, Tryz.ntmps38
    go_wp2_with (go_at_call 63; refine (fits_any _ _).mono ?_; rintro e w' ⟨rfl, rfl⟩)
    go_ret
    exact ⟨by rw [H.out]; rfl, (Below.refl _ _).alloc (Nat.le_refl _) _⟩

end Go.Proofs.YtjceofmhodcefaaGreat

namespace Go.Proofs.YtjceofmhodcefaaGreat
open Go.RowKit

set_option maxHeartbeats 400000 in
theorem wrap_any (n : Int) (w : World) (_h0 : -9223372036854775808 ≤ n) (_h1 : n ≤ 9223372036854775807) :
    Calls Tryz.prog 45 #[.int .i64 n] w fun e w' => e = .returned (.int .i64 (n % 21600000)) ∧ w = w' := by
  have e : n.tmod 21600000 = if 0 ≤ n ∨ n % 21600000 = 0 then n % 21600000 else n % 21600000 - 21600000 := by
    have := Int.tmod_eq_emod (a := n) (b := 21600000)
    simp only [Int.natAbs] at this
    rw [this]; split <;> split <;> omega
  by_cases hc : 0 ≤ n ∨ n % 21600000 = 0
  · rw [if_pos hc] at e
    have m0 : 0 ≤ n % 21600000 := by omega
    have m1 : n % 21600000 < 21600000 := by omega
    clear hc
    go_enter Tryz.func45, Tryz.ntmps45
    go_wp2
    go_ret
    exact ⟨rfl, rfl⟩
  · rw [if_neg hc] at e
    have m0 : 0 < n % 21600000 := by omega
    have m1 : n % 21600000 < 21600000 := by omega
    have H : Hid (n % 21600000 - 21600000 + 21600000 = n % 21600000) := by unfold Hid; omega
    have hn : n < 0 := by omega
    clear hc
    go_enter Tryz.func45, Tryz.ntmps45
    go_wp2
    go_ret
    exact ⟨by simp, rfl⟩



/-- the direction form of an arc -/
def arcLo (lo hi : Int) : Int := if 21600000 ≤ hi - lo then 0 else lo % 21600000
def arcHi (lo hi : Int) : Int := if 21600000 ≤ hi - lo then 21600000 else lo % 21600000 + (hi - lo)
/-- the number of the same direction from -10800000 on -/
def sgn (n : Int) : Int := if 10800000 ≤ n % 21600000 then n % 21600000 - 21600000 else n % 21600000

set_option maxHeartbeats 400000 in
theorem signed_any (n : Int) (w : World) (_h0 : -9223372036854775808 ≤ n) (_h1 : n ≤ 9223372036854775807) :
    Calls Tryz.prog 19 #[.int .i64 n] w fun e w' => e = .returned (.int .i64 (sgn n)) ∧ w = w' := by
  have m0 : 0 ≤ n % 21600000 := by omega
  have m1 : n % 21600000 < 21600000 := by omega
  by_cases hc : 10800000 ≤ n % 21600000
  · have H : Hid (sgn n = n % 21600000 - 21600000) := by simp [sgn, hc, Hid]
    go_enter Tryz.func19, Tryz.ntmps19
    go_wp2_with (go_at_call 45; refine (wrap_any _ _ (by omega) (by omega)).mono ?_; rintro e w' ⟨rfl, rfl⟩)
    go_ret
    exact ⟨ret_one (by rw [H.out]), rfl⟩
  · have H : Hid (sgn n = n % 21600000) := by simp [sgn, hc, Hid]
    go_enter Tryz.func19, Tryz.ntmps19
    go_wp2_with (go_at_call 45; refine (wrap_any _ _ (by omega) (by omega)).mono ?_; rintro e w' ⟨rfl, rfl⟩)
    go_ret
    exact ⟨ret_one (by rw [H.out]), rfl⟩

set_option maxHeartbeats 400000 in
theorem result_ok (a b : Int) (w : World) (h1 : fitsB a = true) (h2 : fitsB b = true) :
    Calls Tryz.prog 83 #[.int .i64 a, .int .i64 b] w fun e w' => e = .returned (.tuple #[.agg #[.int .i64 (a), .int .i64 (b)], .int .i64 (0)]) ∧ Below w.heap.size w w' := by
  go_enter Tryz.func83, Tryz.ntmps83
  go_wp2_with (go_at_call 63; refine (fits_any _ _).mono ?_; rintro e w' ⟨rfl, rfl⟩)
  exact bodyPost_ret (v := .tuple #[.agg #[.int .i64 (a), .int .i64 (b)], .int .i64 (0)]) (by first | (simp only [results, Tryz.results83]; go_simp; done) | simp [results, Tryz.results83, go_sem, *]) rfl ⟨rfl, by (repeat (first | exact Below.refl _ _ | refine bl_drewN ?_ | refine bl_drew ?_ | refine bl_alloc ?_ _ | refine Below.setCell ?_ (by (first | (simp; done) | (simp; omega) | omega)) _ | refine bl_step (by assumption) ?_))⟩

set_option maxHeartbeats 400000 in
theorem add_ok (a b c d : Int) (w : World) (h1 : arcB a b = true) (h2 : arcB c d = true) (h3 : fitsB (a + c) = true) (h4 : fitsB (b + d) = true) :
    Calls Tryz.prog 59 #[.agg #[.int .i64 (a), .int .i64 (b)], .agg #[.int .i64 (c), .int .i64 (d)]] w fun e w' => e = .returned (.tuple #[.agg #[.int .i64 (a + c), .int .i64 (b + d)], .int .i64 (0)]) ∧ Below w.heap.size w w' := by
  have e1 := arcB_t h1
  have e2 := arcB_t h2
  have e3 := e1.1; have e4 := e1.2.1; have e5 := e1.2.2; have e6 := e2.1; have e7 := e2.2.1; have e8 := e2.2.2
  clear e1 e2
  have H3 := hidden h3
  have H4 := hidden h4
  clear h3 h4
  go_enter Tryz.func59, Tryz.ntmps59
  go_wp2_with ((first | (go_at_call 38; refine (valid_any _ _ _).mono ?_; rintro e w' ⟨rfl, hb⟩) | (go_at_call 83; refine (result_ok _ _ _ H3.out H4.out).mono ?_; rintro e w' ⟨rfl, hb⟩)); (try replace hb := below_undrew hb); (try replace hb := below_undrewN hb); obtain ⟨hcell, hfroz⟩ := bcell hb; have hz := hb.size; (try simp at hz); (try (have z6 := Nat.lt_of_lt_of_le z7 hz)); (try (have z7 := Nat.lt_of_lt_of_le z8 hz)); (try (have z8 := Nat.lt_of_lt_of_le z9 hz)); (try (have z9 := Nat.lt_of_lt_of_le (Nat.lt_succ_self _) hz)); (try (have z0 : w.heap.size < w'.heap.size := by omega)); (try (have z1 : w.heap.size + 1 < w'.heap.size := by omega)); (try (have z2 : w.heap.size + 1 + 1 < w'.heap.size := by omega)); (try (have z3 : w.heap.size + 1 + 1 + 1 < w'.heap.size := by omega)))
  exact bodyPost_ret (v := .tuple #[.agg #[.int .i64 (a + c), .int .i64 (b + d)], .int .i64 (0)]) (by first | (simp only [results, Tryz.results59]; go_simp; done) | simp [results, Tryz.results59, go_sem, *]) rfl ⟨rfl, by (repeat (first | exact Below.refl _ _ | refine bl_drewN ?_ | refine bl_drew ?_ | refine bl_alloc ?_ _ | refine Below.setCell ?_ (by (first | (simp; done) | (simp; omega) | omega)) _ | refine bl_step (by assumption) ?_))⟩

end Go.Proofs.YtjceofmhodcefaaGreat

namespace Go.Proofs.YtjceofmhodcefaaGreat
open Go.RowKit




set_option maxHeartbeats 400000 in
theorem neg_ok (a b : Int) (w : World) (h1 : arcB a b = true) :
    Calls Tryz.prog 58 #[.agg #[.int .i64 (a), .int .i64 (b)]] w fun e w' => e = .returned (.tuple #[.agg #[.int .i64 (-b), .int .i64 (-a)], .int .i64 (0)]) ∧ Below w.heap.size w w' := by
  have e1 := arcB_t h1; have e3 := e1.1; have e4 := e1.2.1; have e5 := e1.2.2; clear e1
  have H3 := hidden (fitsB_mk (n := -b) (by omega))
  have H4 := hidden (fitsB_mk (n := -a) (by omega))
  go_enter Tryz.func58, Tryz.ntmps58
  go_wp2_with ((first | (go_at_call 38; refine (valid_any _ _ _).mono ?_; rintro e w' ⟨rfl, hb⟩) | (go_at_call 83; refine (result_ok _ _ _ H3.out H4.out).mono ?_; rintro e w' ⟨rfl, hb⟩)); (try replace hb := below_undrew hb); (try replace hb := below_undrewN hb); obtain ⟨hcell, hfroz⟩ := bcell hb; have hz := hb.size; (try simp at hz); (try (have z6 := Nat.lt_of_lt_of_le z7 hz)); (try (have z7 := Nat.lt_of_lt_of_le z8 hz)); (try (have z8 := Nat.lt_of_lt_of_le z9 hz)); (try (have z9 := Nat.lt_of_lt_of_le (Nat.lt_succ_self _) hz)); (try (have z0 : w.heap.size < w'.heap.size := by omega)); (try (have z1 : w.heap.size + 1 < w'.heap.size := by omega)); (try (have z2 : w.heap.size + 1 + 1 < w'.heap.size := by omega)); (try (have z3 : w.heap.size + 1 + 1 + 1 < w'.heap.size := by omega)))
  exact bodyPost_ret (v := .tuple #[.agg #[.int .i64 (-b), .int .i64 (-a)], .int .i64 (0)]) (by first | (simp only [results, Tryz.results58]; go_simp; done) | simp [results, Tryz.results58, go_sem, *]) rfl ⟨rfl, by (repeat (first | exact Below.refl _ _ | refine bl_drewN ?_ | refine bl_drew ?_ | refine bl_alloc ?_ _ | refine Below.setCell ?_ (by (first | (simp; done) | (simp; omega) | omega)) _ | refine bl_step (by assumption) ?_))⟩

theorem neg_valid {a b : Int} (h : arcB a b = true) : arcB (-b) (-a) = true := by
  have := arcB_t h; exact arcB_mk (by omega)

set_option maxHeartbeats 400000 in
theorem sub_ok (a b c d : Int) (w : World) (h1 : arcB a b = true) (h2 : arcB c d = true) (h3 : fitsB (a - d) = true) (h4 : fitsB (b - c) = true) :
    Calls Tryz.prog 29 #[.agg #[.int .i64 (a), .int .i64 (b)], .agg #[.int .i64 (c), .int .i64 (d)]] w fun e w' => e = .returned (.tuple #[.agg #[.int .i64 (a - d), .int .i64 (b - c)], .int .i64 (0)]) ∧ Below w.heap.size w w' := by
  have H1 := hidden h1
  have H2 := hidden h2
  have H3 := hidden h3
  have H4 := hidden h4
  clear h1 h2 h3 h4
  go_enter Tryz.func29, Tryz.ntmps29
  go_wp2_with ((first | (go_at_call 58; refine (neg_ok _ _ _ H2.out).mono ?_; rintro e w' ⟨rfl, hb⟩) | (go_at_call 59; refine (add_ok _ _ _ _ _ H1.out (neg_valid H2.out) ?_ ?_).mono ?_; (rw [← Int.sub_eq_add_neg]; exact H3.out); (rw [← Int.sub_eq_add_neg]; exact H4.out); rintro e w' ⟨rfl, hb⟩; rw [← Int.sub_eq_add_neg, ← Int.sub_eq_add_neg])); (try replace hb := below_undrew hb); (try replace hb := below_undrewN hb); obtain ⟨hcell, hfroz⟩ := bcell hb; have hz := hb.size; (try simp at hz); (try (have z6 := Nat.lt_of_lt_of_le z7 hz)); (try (have z7 := Nat.lt_of_lt_of_le z8 hz)); (try (have z8 := Nat.lt_of_lt_of_le z9 hz)); (try (have z9 := Nat.lt_of_lt_of_le (Nat.lt_succ_self _) hz)); (try (have z0 : w.heap.size < w'.heap.size := by omega)); (try (have z1 : w.heap.size + 1 < w'.heap.size := by omega)); (try (have z2 : w.heap.size + 1 + 1 < w'.heap.size := by omega)); (try (have z3 : w.heap.size + 1 + 1 + 1 < w'.heap.size := by omega)))
  exact bodyPost_ret (v := .tuple #[.agg #[.int .i64 (a - d), .int .i64 (b - c)], .int .i64 (0)]) (by first | (simp only [results, Tryz.results29]; go_simp; done) | simp [results, Tryz.results29, go_sem, *]) rfl ⟨rfl, by (repeat (first | exact Below.refl _ _ | refine bl_drewN ?_ | refine bl_drew ?_ | refine bl_alloc ?_ _ | refine Below.setCell ?_ (by (first | (simp; done) | (simp; omega) | omega)) _ | refine bl_step (by assumption) ?_))⟩

end Go.Proofs.YtjceofmhodcefaaGreat
