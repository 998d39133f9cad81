/- Several small texts in one: XAng, XAng2, XAng3. -/
import Derived.Test.YtdhbeoahpfimbaaGreatBase
import Derived.Deep.RegionHeld3
namespace Go.Proofs.YtdhbeoahpfimbaaGreat
open Go.RowKit
def fitsB (n : Int) : Bool := decide (-1099511627776 ≤ n) && decide (n ≤ 1099511627776)
def arcB (a b : Int) : Bool := decide (a ≤ b) && fitsB a && fitsB b
theorem fitsB_t {n : Int} (h : fitsB n = true) : -1099511627776 ≤ n ∧ n ≤ 1099511627776 := by simpa [fitsB] using h
theorem fitsB_mk {n : Int} (h : -1099511627776 ≤ n ∧ n ≤ 1099511627776) : fitsB n = true := by simpa [fitsB] using h
theorem fitsB_not {n : Int} (h : n < -1099511627776 ∨ 1099511627776 < n) : fitsB n = false := by simp [fitsB]; omega
theorem arcB_t {a b : Int} (h : arcB a b = true) : a ≤ b ∧ -1099511627776 ≤ a ∧ b ≤ 1099511627776 := by simp [arcB, fitsB] at h; omega
theorem arcB_mk {a b : Int} (h : a ≤ b ∧ -1099511627776 ≤ a ∧ b ≤ 1099511627776) : arcB a b = true := by simp [arcB, fitsB]; omega
theorem arcB_not {a b : Int} (h : ¬ (a ≤ b ∧ -1099511627776 ≤ a ∧ b ≤ 1099511627776)) : arcB a b = false := by simp [arcB, fitsB]; omega
set_option maxHeartbeats 400000 in
theorem fits_any (n : Int) (w : World) :
    Calls Tryz.prog 127 #[.int .i64 n] w fun e w' => e = .returned (.bool (fitsB n)) ∧ w = w' := by
  by_cases h1 : -1099511627776 ≤ n
  · by_cases h2 : n ≤ 1099511627776
    · have H := hidden (fitsB_mk ⟨h1, h2⟩)
      go_enter Tryz.func127, Tryz.ntmps127
      go_wp2
      go_ret
      exact ⟨by rw [H.out]; rfl, rfl⟩
    · have H := hidden (fitsB_not (n := n) (by omega))
      go_enter Tryz.func127, Tryz.ntmps127
      go_wp2
      go_ret
      exact ⟨by rw [H.out]; rfl, rfl⟩
  · have H := hidden (fitsB_not (n := n) (by omega))
    go_enter Tryz.func127, Tryz.ntmps127
    go_wp2
    go_ret
    exact ⟨by rw [H.out]; rfl, rfl⟩
set_option maxHeartbeats 400000 in
theorem valid_any (a b : Int) (w : World) :
    Calls Tryz.prog 45 #[.agg #[.int .i64 a, .int .i64 b]] w fun e w' => e = .returned (.bool (arcB a b)) ∧ Below w.heap.size w w' := by
  by_cases h1 : a ≤ b
  · cases h2 : fitsB a
    · have H := hidden (show arcB a b = false by simp [arcB, h2])
      go_enter Tryz.func45, Tryz.ntmps45
      go_wp2_with (go_at_call 127; refine (fits_any _ _).mono ?_; rintro e w' ⟨rfl, rfl⟩)
      go_ret
      exact ⟨by rw [H.out]; rfl, (Below.refl _ _).alloc (Nat.le_refl _) _⟩
    · cases h3 : fitsB b
      · have H := hidden (show arcB a b = false by simp [arcB, h3])
        go_enter Tryz.func45, Tryz.ntmps45
        go_wp2_with (go_at_call 127; refine (fits_any _ _).mono ?_; rintro e w' ⟨rfl, rfl⟩)
        go_ret
        exact ⟨by rw [H.out]; rfl, (Below.refl _ _).alloc (Nat.le_refl _) _⟩
      · have H := hidden (show arcB a b = true by simp [arcB, h1, h2, h3])
        go_enter Tryz.func45, Tryz.ntmps45
        go_wp2_with (go_at_call 127; refine (fits_any _ _).mono ?_; rintro e w' ⟨rfl, rfl⟩)
        go_ret
        exact ⟨by rw [H.out]; rfl, (Below.refl _ _).alloc (Nat.le_refl _) _⟩
  · have H := hidden (show arcB a b = false by simp [arcB, h1])
    go_enter Tryz.func45, Tryz.ntmps45
    go_wp2_with (go_at_call 127; refine (fits_any _ _).mono ?_; rintro e w' ⟨rfl, rfl⟩)
    go_ret
    exact ⟨by rw [H.out]; rfl, (Below.refl _ _).alloc (Nat.le_refl _) _⟩
set_option maxHeartbeats 400000 in
theorem wrap_any (n : Int) (w : World) (_h0 : -9223372036854775808 ≤ n) (_h1 : n ≤ 9223372036854775807) :
    Calls Tryz.prog 56 #[.int .i64 n] w fun e w' => e = .returned (.int .i64 (n % 21600000)) ∧ w = w' := by
  have e : n.tmod 21600000 = if 0 ≤ n ∨ n % 21600000 = 0 then n % 21600000 else n % 21600000 - 21600000 := by
    have := Int.tmod_eq_emod (a := n) (b := 21600000)
    simp only [Int.natAbs] at this
    rw [this]; split <;> split <;> omega
  by_cases hc : 0 ≤ n ∨ n % 21600000 = 0
  · rw [if_pos hc] at e
    have m0 : 0 ≤ n % 21600000 := by omega
    have m1 : n % 21600000 < 21600000 := by omega
    clear hc
    go_enter Tryz.func56, Tryz.ntmps56
    go_wp2
    go_ret
    exact ⟨rfl, rfl⟩
  · rw [if_neg hc] at e
    have m0 : 0 < n % 21600000 := by omega
    have m1 : n % 21600000 < 21600000 := by omega
    have H : Hid (n % 21600000 - 21600000 + 21600000 = n % 21600000) := by unfold Hid; omega
    have hn : n < 0 := by omega
    clear hc
    go_enter Tryz.func56, Tryz.ntmps56
    go_wp2
    go_ret
    exact ⟨by simp, rfl⟩
/-- the direction form of an arc -/
def arcLo (lo hi : Int) : Int := if 21600000 ≤ hi - lo then 0 else lo % 21600000
def arcHi (lo hi : Int) : Int := if 21600000 ≤ hi - lo then 21600000 else lo % 21600000 + (hi - lo)
/-- the number of the same direction from -10800000 on -/
def sgn (n : Int) : Int := if 10800000 ≤ n % 21600000 then n % 21600000 - 21600000 else n % 21600000
set_option maxHeartbeats 400000 in
theorem signed_any (n : Int) (w : World) (_h0 : -9223372036854775808 ≤ n) (_h1 : n ≤ 9223372036854775807) :
    Calls Tryz.prog 21 #[.int .i64 n] w fun e w' => e = .returned (.int .i64 (sgn n)) ∧ w = w' := by
  have m0 : 0 ≤ n % 21600000 := by omega
  have m1 : n % 21600000 < 21600000 := by omega
  by_cases hc : 10800000 ≤ n % 21600000
  · have H : Hid (sgn n = n % 21600000 - 21600000) := by simp [sgn, hc, Hid]
    go_enter Tryz.func21, Tryz.ntmps21
    go_wp2_with (go_at_call 56; refine (wrap_any _ _ (by omega) (by omega)).mono ?_; rintro e w' ⟨rfl, rfl⟩)
    go_ret
    exact ⟨ret_one (by rw [H.out]), rfl⟩
  · have H : Hid (sgn n = n % 21600000) := by simp [sgn, hc, Hid]
    go_enter Tryz.func21, Tryz.ntmps21
    go_wp2_with (go_at_call 56; refine (wrap_any _ _ (by omega) (by omega)).mono ?_; rintro e w' ⟨rfl, rfl⟩)
    go_ret
    exact ⟨ret_one (by rw [H.out]), rfl⟩
set_option maxHeartbeats 400000 in
theorem result_ok (a b : Int) (w : World) (h1 : fitsB a = true) (h2 : fitsB b = true) :
    Calls Tryz.prog 123 #[.int .i64 a, .int .i64 b] w fun e w' => e = .returned (.tuple #[.agg #[.int .i64 a, .int .i64 b], .int .i64 0]) ∧ Below w.heap.size w w' := by
  go_enter Tryz.func123, Tryz.ntmps123
  go_wp2_with (go_at_call 127; refine (fits_any _ _).mono ?_; rintro e w' ⟨rfl, rfl⟩)
  exact bodyPost_ret (v := .tuple #[.agg #[.int .i64 a, .int .i64 b], .int .i64 0]) (by first | (simp only [results, Tryz.results123]; go_simp; done) | simp [results, Tryz.results123, go_sem, *]) rfl ⟨rfl, by (repeat (first | exact Below.refl _ _ | refine bl_drewN ?_ | refine bl_drew ?_ | refine bl_alloc ?_ _ | refine Below.setCell ?_ (by (first | (simp; done) | (simp; omega) | omega)) _ | refine bl_step (by assumption) ?_))⟩
set_option maxHeartbeats 400000 in
theorem add_ok (a b c d : Int) (w : World) (h1 : arcB a b = true) (h2 : arcB c d = true) (h3 : fitsB (a + c) = true) (h4 : fitsB (b + d) = true) :
    Calls Tryz.prog 42 #[.agg #[.int .i64 a, .int .i64 b], .agg #[.int .i64 c, .int .i64 d]] w fun e w' => e = .returned (.tuple #[.agg #[.int .i64 (a + c), .int .i64 (b + d)], .int .i64 0]) ∧ Below w.heap.size w w' := by
  have e1 := arcB_t h1
  have e2 := arcB_t h2
  have e3 := e1.1; have e4 := e1.2.1; have e5 := e1.2.2; have e6 := e2.1; have e7 := e2.2.1; have e8 := e2.2.2
  clear e1 e2
  have H3 := hidden h3
  have H4 := hidden h4
  clear h3 h4
  go_enter Tryz.func42, Tryz.ntmps42
  go_wp2_with (((first | (go_at_call 45; refine (valid_any _ _ _).mono ?_; rintro e w' ⟨rfl, hb⟩) | (go_at_call 123; refine (result_ok _ _ _ H3.out H4.out).mono ?_; rintro e w' ⟨rfl, hb⟩)); (try replace hb := below_undrew hb); (try replace hb := below_undrewN hb); obtain ⟨hcell, hfroz⟩ := bcell hb; have hz := hb.size; (try simp at hz); (try (have z6 := Nat.lt_of_lt_of_le z7 hz)); (try (have z7 := Nat.lt_of_lt_of_le z8 hz)); (try (have z8 := Nat.lt_of_lt_of_le z9 hz)); (try (have z9 := Nat.lt_of_lt_of_le (Nat.lt_succ_self _) hz)); (try have z0 : w.heap.size < w'.heap.size := by omega); (try have z1 : w.heap.size + 1 < w'.heap.size := by omega); (try have z2 : w.heap.size + 1 + 1 < w'.heap.size := by omega); (try have z3 : w.heap.size + 1 + 1 + 1 < w'.heap.size := by omega)))
  exact bodyPost_ret (v := .tuple #[.agg #[.int .i64 (a + c), .int .i64 (b + d)], .int .i64 0]) (by first | (simp only [results, Tryz.results42]; go_simp; done) | simp [results, Tryz.results42, go_sem, *]) rfl ⟨rfl, by (repeat (first | exact Below.refl _ _ | refine bl_drewN ?_ | refine bl_drew ?_ | refine bl_alloc ?_ _ | refine Below.setCell ?_ (by (first | (simp; done) | (simp; omega) | omega)) _ | refine bl_step (by assumption) ?_))⟩
set_option maxHeartbeats 400000 in
theorem turn_ok (a b : Int) (w : World) (h1 : arcB a b = true) :
    Calls Tryz.prog 105 #[.agg #[.int .i64 a, .int .i64 b]] w fun e w' => e = .returned (.tuple #[.agg #[.int .i64 (arcLo a b), .int .i64 (arcHi a b)], .int .i64 0]) ∧ Below w.heap.size w w' := by
  have e1 := arcB_t h1; have e3 := e1.1; have e4 := e1.2.1; have e5 := e1.2.2; clear e1
  by_cases hc : 21600000 ≤ b - a
  · have H : Hid (arcLo a b = 0 ∧ arcHi a b = 21600000) := by simp [arcLo, arcHi, hc, Hid]
    go_enter Tryz.func105, Tryz.ntmps105
    go_wp2_with (go_at_call 45; refine (valid_any _ _ _).mono ?_; rintro e w' ⟨rfl, hb⟩; (try replace hb := below_undrew hb); (try replace hb := below_undrewN hb); obtain ⟨hcell, hfroz⟩ := bcell hb; have hz := hb.size; (try simp at hz); (try (have z6 := Nat.lt_of_lt_of_le z7 hz)); (try (have z7 := Nat.lt_of_lt_of_le z8 hz)); (try (have z8 := Nat.lt_of_lt_of_le z9 hz)); (try (have z9 := Nat.lt_of_lt_of_le (Nat.lt_succ_self _) hz)); (try have z0 : w.heap.size < w'.heap.size := by omega); (try have z1 : w.heap.size + 1 < w'.heap.size := by omega); (try have z2 : w.heap.size + 1 + 1 < w'.heap.size := by omega); (try have z3 : w.heap.size + 1 + 1 + 1 < w'.heap.size := by omega))
    exact bodyPost_ret (v := .tuple #[.agg #[.int .i64 0, .int .i64 21600000], .int .i64 0]) (by first | (simp only [results, Tryz.results105]; go_simp; done) | simp [results, Tryz.results105, go_sem, *]) rfl ⟨by rw [H.out.1, H.out.2], by (repeat (first | exact Below.refl _ _ | refine bl_drewN ?_ | refine bl_drew ?_ | refine bl_alloc ?_ _ | refine Below.setCell ?_ (by (first | (simp; done) | (simp; omega) | omega)) _ | refine bl_step (by assumption) ?_))⟩
  · have H : Hid (arcLo a b = a % 21600000 ∧ arcHi a b = a % 21600000 + (b - a)) := by simp [arcLo, arcHi, hc, Hid]
    have m0 : 0 ≤ a % 21600000 := by omega
    have m1 : a % 21600000 < 21600000 := by omega
    go_enter Tryz.func105, Tryz.ntmps105
    go_wp2_with (first | (go_at_call 45; refine (valid_any _ _ _).mono ?_; rintro e w' ⟨rfl, hb⟩; (try replace hb := below_undrew hb); (try replace hb := below_undrewN hb); obtain ⟨hcell, hfroz⟩ := bcell hb; have hz := hb.size; (try simp at hz); (try (have z6 := Nat.lt_of_lt_of_le z7 hz)); (try (have z7 := Nat.lt_of_lt_of_le z8 hz)); (try (have z8 := Nat.lt_of_lt_of_le z9 hz)); (try (have z9 := Nat.lt_of_lt_of_le (Nat.lt_succ_self _) hz)); (try have z0 : w.heap.size < w'.heap.size := by omega); (try have z1 : w.heap.size + 1 < w'.heap.size := by omega); (try have z2 : w.heap.size + 1 + 1 < w'.heap.size := by omega); (try have z3 : w.heap.size + 1 + 1 + 1 < w'.heap.size := by omega)) | (go_at_call 56; refine (wrap_any _ _ (by omega) (by omega)).mono ?_; rintro e w' ⟨rfl, rfl⟩))
    exact bodyPost_ret (v := .tuple #[.agg #[.int .i64 (a % 21600000), .int .i64 (a % 21600000 + (b - a))], .int .i64 0]) (by first | (simp only [results, Tryz.results105]; go_simp; done) | simp [results, Tryz.results105, go_sem, *]) rfl ⟨by rw [H.out.1, H.out.2], by (repeat (first | exact Below.refl _ _ | refine bl_drewN ?_ | refine bl_drew ?_ | refine bl_alloc ?_ _ | refine Below.setCell ?_ (by (first | (simp; done) | (simp; omega) | omega)) _ | refine bl_step (by assumption) ?_))⟩
def agreeB (a b c d : Int) : Bool := decide ((c - a) % 21600000 ≤ b - a) || decide ((a - c) % 21600000 ≤ d - c)
set_option maxHeartbeats 400000 in
theorem agree_ok (a b c d : Int) (w : World) (h1 : arcB a b = true) (h2 : arcB c d = true) :
    Calls Tryz.prog 14 #[.agg #[.int .i64 a, .int .i64 b], .agg #[.int .i64 c, .int .i64 d]] w fun e w' => e = .returned (.tuple #[.bool (agreeB a b c d), .int .i64 0]) ∧ Below w.heap.size w w' := by
  have e1 := arcB_t h1; have e2 := arcB_t h2; have e3 := e1.1; have e4 := e1.2.1; have e5 := e1.2.2; have e6 := e2.1; have e7 := e2.2.1; have e8 := e2.2.2; clear e1 e2
  by_cases g1 : (c - a) % 21600000 ≤ b - a
  · have H : Hid (agreeB a b c d = true) := by simp [agreeB, g1, Hid]
    have g2 : decide ((c - a) % 21600000 ≤ b - a) = true := by simpa using g1
    go_enter Tryz.func14, Tryz.ntmps14
    go_wp2_with (go_at_call 45; refine (valid_any _ _ _).mono ?_; rintro e w' ⟨rfl, hb⟩; (try replace hb := below_undrew hb); (try replace hb := below_undrewN hb); obtain ⟨hcell, hfroz⟩ := bcell hb; have hz := hb.size; (try simp at hz); (try (have z6 := Nat.lt_of_lt_of_le z7 hz)); (try (have z7 := Nat.lt_of_lt_of_le z8 hz)); (try (have z8 := Nat.lt_of_lt_of_le z9 hz)); (try (have z9 := Nat.lt_of_lt_of_le (Nat.lt_succ_self _) hz)); (try have z0 : w.heap.size < w'.heap.size := by omega); (try have z1 : w.heap.size + 1 < w'.heap.size := by omega); (try have z2 : w.heap.size + 1 + 1 < w'.heap.size := by omega); (try have z3 : w.heap.size + 1 + 1 + 1 < w'.heap.size := by omega))
    go_quiet ((go_at_call 56; exact quiet_same (wrap_any _ _ (by omega) (by omega))))
    go_wp2
    go_ret2
    exact ⟨ret_bool2 (by rw [H.out]), by (repeat (first | exact Below.refl _ _ | refine bl_drewN ?_ | refine bl_drew ?_ | refine bl_alloc ?_ _ | refine Below.setCell ?_ (by (first | (simp; done) | (simp; omega) | omega)) _ | refine bl_step (by assumption) ?_))⟩
  · by_cases g3 : (a - c) % 21600000 ≤ d - c
    · have H : Hid (agreeB a b c d = true) := by simp [agreeB, g3, Hid]
      have g2 : decide ((c - a) % 21600000 ≤ b - a) = false := by simpa using g1
      go_enter Tryz.func14, Tryz.ntmps14
      go_wp2_with (go_at_call 45; refine (valid_any _ _ _).mono ?_; rintro e w' ⟨rfl, hb⟩; (try replace hb := below_undrew hb); (try replace hb := below_undrewN hb); obtain ⟨hcell, hfroz⟩ := bcell hb; have hz := hb.size; (try simp at hz); (try (have z6 := Nat.lt_of_lt_of_le z7 hz)); (try (have z7 := Nat.lt_of_lt_of_le z8 hz)); (try (have z8 := Nat.lt_of_lt_of_le z9 hz)); (try (have z9 := Nat.lt_of_lt_of_le (Nat.lt_succ_self _) hz)); (try have z0 : w.heap.size < w'.heap.size := by omega); (try have z1 : w.heap.size + 1 < w'.heap.size := by omega); (try have z2 : w.heap.size + 1 + 1 < w'.heap.size := by omega); (try have z3 : w.heap.size + 1 + 1 + 1 < w'.heap.size := by omega))
      go_quiet ((go_at_call 56; exact quiet_same (wrap_any _ _ (by omega) (by omega))))
      go_wp2
      go_ret2
      exact ⟨ret_bool2 (by rw [H.out]), by (repeat (first | exact Below.refl _ _ | refine bl_drewN ?_ | refine bl_drew ?_ | refine bl_alloc ?_ _ | refine Below.setCell ?_ (by (first | (simp; done) | (simp; omega) | omega)) _ | refine bl_step (by assumption) ?_))⟩
    · have H : Hid (agreeB a b c d = false) := by simp [agreeB, g3, g1, Hid]
      have g2 : decide ((c - a) % 21600000 ≤ b - a) = false := by simpa using g1
      go_enter Tryz.func14, Tryz.ntmps14
      go_wp2_with (go_at_call 45; refine (valid_any _ _ _).mono ?_; rintro e w' ⟨rfl, hb⟩; (try replace hb := below_undrew hb); (try replace hb := below_undrewN hb); obtain ⟨hcell, hfroz⟩ := bcell hb; have hz := hb.size; (try simp at hz); (try (have z6 := Nat.lt_of_lt_of_le z7 hz)); (try (have z7 := Nat.lt_of_lt_of_le z8 hz)); (try (have z8 := Nat.lt_of_lt_of_le z9 hz)); (try (have z9 := Nat.lt_of_lt_of_le (Nat.lt_succ_self _) hz)); (try have z0 : w.heap.size < w'.heap.size := by omega); (try have z1 : w.heap.size + 1 < w'.heap.size := by omega); (try have z2 : w.heap.size + 1 + 1 < w'.heap.size := by omega); (try have z3 : w.heap.size + 1 + 1 + 1 < w'.heap.size := by omega))
      go_quiet ((go_at_call 56; exact quiet_same (wrap_any _ _ (by omega) (by omega))))
      go_wp2
      go_ret2
      exact ⟨ret_bool2 (by rw [H.out, decide_eq_false_iff_not]; omega), by (repeat (first | exact Below.refl _ _ | refine bl_drewN ?_ | refine bl_drew ?_ | refine bl_alloc ?_ _ | refine Below.setCell ?_ (by (first | (simp; done) | (simp; omega) | omega)) _ | refine bl_step (by assumption) ?_))⟩
end Go.Proofs.YtdhbeoahpfimbaaGreat
