/- Several small texts in one: XFix, XFix2, XFix3, XFix4, XFix5, XFix6, XFix7, XFix8, XFix9, XFixA. -/
import Derived.Test.YtdhbeoahpfimbaaGreatWd
namespace Go.Proofs.YtdhbeoahpfimbaaGreat
open Go.RowKit
def fixB (lo hi : Int) : Bool := decide (-2147483648 ≤ lo) && decide (lo ≤ hi) && decide (hi ≤ 2147483648)
theorem fixB_t {lo hi : Int} (h : fixB lo hi = true) : -2147483648 ≤ lo ∧ lo ≤ hi ∧ hi ≤ 2147483648 := by simp [fixB] at h; omega
theorem fixB_mk {lo hi : Int} (h : -2147483648 ≤ lo ∧ lo ≤ hi ∧ hi ≤ 2147483648) : fixB lo hi = true := by simp [fixB]; omega
theorem fixB_not {lo hi : Int} (h : ¬ (-2147483648 ≤ lo ∧ lo ≤ hi ∧ hi ≤ 2147483648)) : fixB lo hi = false := by simp [fixB]; omega
set_option maxHeartbeats 400000 in
theorem fvalid_any (a b : Int) (w : World) :
    Calls Tryz.prog 129 #[.agg #[.int .i64 a, .int .i64 b]] w fun e w' => e = .returned (.bool (fixB a b)) ∧ Below w.heap.size w w' := by
  by_cases h1 : -2147483648 ≤ a
  · by_cases h2 : a ≤ b
    · by_cases h3 : b ≤ 2147483648
      · have H := hidden (fixB_mk ⟨h1, h2, h3⟩)
        go_enter Tryz.func129, Tryz.ntmps129
        go_wp2
        go_ret
        exact ⟨by rw [H.out]; rfl, by (repeat (first | exact Below.refl _ _ | refine bl_drewN ?_ | refine bl_drew ?_ | refine bl_alloc ?_ _ | refine Below.setCell ?_ (by (first | (simp; done) | (simp; omega) | omega)) _ | refine bl_step (by assumption) ?_))⟩
      · have H := hidden (fixB_not (lo := a) (hi := b) (by omega))
        go_enter Tryz.func129, Tryz.ntmps129
        go_wp2
        go_ret
        exact ⟨by rw [H.out]; rfl, by (repeat (first | exact Below.refl _ _ | refine bl_drewN ?_ | refine bl_drew ?_ | refine bl_alloc ?_ _ | refine Below.setCell ?_ (by (first | (simp; done) | (simp; omega) | omega)) _ | refine bl_step (by assumption) ?_))⟩
    · have H := hidden (fixB_not (lo := a) (hi := b) (by omega))
      go_enter Tryz.func129, Tryz.ntmps129
      go_wp2
      go_ret
      exact ⟨by rw [H.out]; rfl, by (repeat (first | exact Below.refl _ _ | refine bl_drewN ?_ | refine bl_drew ?_ | refine bl_alloc ?_ _ | refine Below.setCell ?_ (by (first | (simp; done) | (simp; omega) | omega)) _ | refine bl_step (by assumption) ?_))⟩
  · have H := hidden (fixB_not (lo := a) (hi := b) (by omega))
    go_enter Tryz.func129, Tryz.ntmps129
    go_wp2
    go_ret
    exact ⟨by rw [H.out]; rfl, by (repeat (first | exact Below.refl _ _ | refine bl_drewN ?_ | refine bl_drew ?_ | refine bl_alloc ?_ _ | refine Below.setCell ?_ (by (first | (simp; done) | (simp; omega) | omega)) _ | refine bl_step (by assumption) ?_))⟩
set_option maxHeartbeats 400000 in
theorem both_any (a b c d : Int) (w : World) :
    Calls Tryz.prog 135 #[.agg #[.int .i64 a, .int .i64 b], .agg #[.int .i64 c, .int .i64 d]] w fun e w' => e = .returned (.bool (fixB a b && fixB c d)) ∧ Below w.heap.size w w' := by
  cases h1 : fixB a b <;> cases h2 : fixB c d
  all_goals
   go_enter Tryz.func135, Tryz.ntmps135
   go_wp2_with (go_at_call 129; refine (fvalid_any _ _ _).mono ?_; rintro e w' ⟨rfl, hb⟩; (try replace hb := below_undrew hb); (try replace hb := below_undrewN hb); obtain ⟨hcell, hfroz⟩ := bcell hb; have hz := hb.size; (try simp at hz); (try (have z6 := Nat.lt_of_lt_of_le z7 hz)); (try (have z7 := Nat.lt_of_lt_of_le z8 hz)); (try (have z8 := Nat.lt_of_lt_of_le z9 hz)); (try (have z9 := Nat.lt_of_lt_of_le (Nat.lt_succ_self _) hz)); (try have z0 : w.heap.size < w'.heap.size := by omega); (try have z1 : w.heap.size + 1 < w'.heap.size := by omega); (try have z2 : w.heap.size + 1 + 1 < w'.heap.size := by omega); (try have z3 : w.heap.size + 1 + 1 + 1 < w'.heap.size := by omega))
   go_ret
   exact ⟨rfl, by (repeat (first | exact Below.refl _ _ | refine bl_drewN ?_ | refine bl_drew ?_ | refine bl_alloc ?_ _ | refine Below.setCell ?_ (by (first | (simp; done) | (simp; omega) | omega)) _ | refine bl_step (by assumption) ?_))⟩
theorem ffit_ok (a b : Int) (w : World) (h : fixB a b = true) :
    Calls Tryz.prog 132 #[.int .i64 a, .int .i64 b] w fun e w' => e = .returned (.tuple #[.agg #[.int .i64 a, .int .i64 b], .int .i64 0]) ∧ Below w.heap.size w w' := by
  go_enter Tryz.func132, Tryz.ntmps132
  go_wp2_with (go_at_call 129; refine (fvalid_any _ _ _).mono ?_; rintro e w' ⟨rfl, hb⟩; (try replace hb := below_undrew hb); (try replace hb := below_undrewN hb); obtain ⟨hcell, hfroz⟩ := bcell hb; have hz := hb.size; (try simp at hz); (try (have z6 := Nat.lt_of_lt_of_le z7 hz)); (try (have z7 := Nat.lt_of_lt_of_le z8 hz)); (try (have z8 := Nat.lt_of_lt_of_le z9 hz)); (try (have z9 := Nat.lt_of_lt_of_le (Nat.lt_succ_self _) hz)); (try have z0 : w.heap.size < w'.heap.size := by omega); (try have z1 : w.heap.size + 1 < w'.heap.size := by omega); (try have z2 : w.heap.size + 1 + 1 < w'.heap.size := by omega); (try have z3 : w.heap.size + 1 + 1 + 1 < w'.heap.size := by omega))
  exact bodyPost_ret (v := .tuple #[.agg #[.int .i64 a, .int .i64 b], .int .i64 0]) (by first | (simp only [results, Tryz.results132]; go_simp; done) | simp [results, Tryz.results132, go_sem, *]) rfl ⟨rfl, by (repeat (first | exact Below.refl _ _ | refine bl_drewN ?_ | refine bl_drew ?_ | refine bl_alloc ?_ _ | refine Below.setCell ?_ (by (first | (simp; done) | (simp; omega) | omega)) _ | refine bl_step (by assumption) ?_))⟩
theorem ffit_no (a b : Int) (w : World) (h : fixB a b = false) :
    Calls Tryz.prog 132 #[.int .i64 a, .int .i64 b] w fun e w' => e = .returned (.tuple #[.agg #[.int .i64 0, .int .i64 0], .int .i64 5]) ∧ Below w.heap.size w w' := by
  go_enter Tryz.func132, Tryz.ntmps132
  go_wp2_with (go_at_call 129; refine (fvalid_any _ _ _).mono ?_; rintro e w' ⟨rfl, hb⟩; (try replace hb := below_undrew hb); (try replace hb := below_undrewN hb); obtain ⟨hcell, hfroz⟩ := bcell hb; have hz := hb.size; (try simp at hz); (try (have z6 := Nat.lt_of_lt_of_le z7 hz)); (try (have z7 := Nat.lt_of_lt_of_le z8 hz)); (try (have z8 := Nat.lt_of_lt_of_le z9 hz)); (try (have z9 := Nat.lt_of_lt_of_le (Nat.lt_succ_self _) hz)); (try have z0 : w.heap.size < w'.heap.size := by omega); (try have z1 : w.heap.size + 1 < w'.heap.size := by omega); (try have z2 : w.heap.size + 1 + 1 < w'.heap.size := by omega); (try have z3 : w.heap.size + 1 + 1 + 1 < w'.heap.size := by omega))
  exact bodyPost_ret (v := .tuple #[.agg #[.int .i64 0, .int .i64 0], .int .i64 5]) (by first | (simp only [results, Tryz.results132]; go_simp; done) | simp [results, Tryz.results132, go_sem, *]) rfl ⟨rfl, by (repeat (first | exact Below.refl _ _ | refine bl_drewN ?_ | refine bl_drew ?_ | refine bl_alloc ?_ _ | refine Below.setCell ?_ (by (first | (simp; done) | (simp; omega) | omega)) _ | refine bl_step (by assumption) ?_))⟩
/-- an interval and no error if it is valid, else nought and the error -/
def fitF (a b : Int) : Value := if fixB a b = true then .tuple #[.agg #[.int .i64 a, .int .i64 b], .int .i64 0] else .tuple #[.agg #[.int .i64 0, .int .i64 0], .int .i64 5]
theorem fitF_ok {a b : Int} (h : fixB a b = true) : fitF a b = .tuple #[.agg #[.int .i64 a, .int .i64 b], .int .i64 0] := if_pos h
theorem fitF_no {a b : Int} (h : fixB a b = false) : fitF a b = .tuple #[.agg #[.int .i64 0, .int .i64 0], .int .i64 5] := by simp [fitF, h]
theorem tdiv_abs (n d : Int) : n.tdiv d = if (decide (n < 0) != decide (d < 0)) = true then -(absI n / absI d) else absI n / absI d := by
  unfold absI
  by_cases hn : n < 0 <;> by_cases hd : d < 0
  · have h : n.tdiv d = (-n).tdiv (-d) := by rw [Int.neg_tdiv, Int.tdiv_neg, Int.neg_neg]
    simp only [hn, hd, h, if_true, decide_true, bne_self_eq_false, Bool.false_eq_true, if_false]
    exact Int.tdiv_eq_ediv_of_nonneg (by omega)
  · have h : n.tdiv d = -((-n).tdiv d) := by rw [Int.neg_tdiv, Int.neg_neg]
    simp only [hn, hd, h, if_true, decide_true, decide_false, Bool.true_bne, Bool.not_false, if_false]
    rw [Int.tdiv_eq_ediv_of_nonneg (by omega)]
  · have h : n.tdiv d = -(n.tdiv (-d)) := by rw [Int.tdiv_neg, Int.neg_neg]
    simp only [hn, hd, h, if_true, decide_true, decide_false, Bool.false_bne, if_false]
    rw [Int.tdiv_eq_ediv_of_nonneg (by omega)]
  · simp only [hn, hd, decide_false, bne_self_eq_false, Bool.false_eq_true, if_false]
    exact Int.tdiv_eq_ediv_of_nonneg (by omega)
theorem tmod_abs (n d : Int) : n.tmod d = if n < 0 then -(absI n % absI d) else absI n % absI d := by
  have e : n.tmod d = n.tmod (absI d) := by unfold absI; split; · rw [Int.tmod_neg]
                                            · rfl
  rw [e]
  by_cases hn : n < 0
  · have e2 : absI n = -n := by unfold absI; rw [if_pos hn]
    have h : n.tmod (absI d) = -((-n).tmod (absI d)) := by rw [Int.neg_tmod, Int.neg_neg]
    rw [if_pos hn, h, e2, Int.tmod_eq_emod_of_nonneg (by omega)]
  · have e2 : absI n = n := by unfold absI; rw [if_neg hn]
    rw [if_neg hn, e2, Int.tmod_eq_emod_of_nonneg (by omega)]
theorem fl_ways (n d : Int) (hd : d ≠ 0) (h0 : -4611686018427387904 ≤ n) (h1 : n ≤ 4611686018427387904) :
    -4611686018427387905 ≤ fl n d ∧ fl n d ≤ 4611686018427387904 ∧ ((n.tmod d = 0 ∧ n.tdiv d = fl n d) ∨ (n.tmod d ≠ 0 ∧ decide (n < 0) = decide (d < 0) ∧ n.tdiv d = fl n d) ∨ (n.tmod d ≠ 0 ∧ decide (n < 0) = !decide (d < 0) ∧ n.tdiv d = fl n d + 1)) := by
  have t := tdiv_abs n d
  have m := tmod_abs n d
  have f := fl_abs n d hd
  have a0 := absI_nn n
  have a1 : absI n ≤ 4611686018427387904 := by unfold absI; split <;> omega
  have D0 : 0 < absI d := by unfold absI; split <;> omega
  have r0 := Int.emod_nonneg (absI n) (Int.ne_of_gt D0)
  have q0 : 0 ≤ absI n / absI d := Int.ediv_nonneg a0 (by omega)
  have q1 : absI n / absI d ≤ absI n := Int.ediv_le_self _ a0
  generalize absI n / absI d = Q at *
  generalize absI n % absI d = R at *
  generalize fl n d = f0 at *
  generalize n.tdiv d = t0 at *
  generalize n.tmod d = m0 at *
  cases hn : decide (n < 0) <;> cases hd2 : decide (d < 0) <;> simp only [hn, hd2, Bool.true_bne, Bool.false_bne, Bool.not_true, Bool.not_false, Bool.false_eq_true, if_false, if_true, and_false, false_or, or_false, reduceCtorEq, true_and, false_and] at t f ⊢ <;> (first | have hn := of_decide_eq_true hn | have hn := of_decide_eq_false hn) <;> (first | rw [if_pos hn] at m | rw [if_neg hn] at m) <;> (try split at f) <;> omega
set_option maxHeartbeats 400000 in
theorem ffloor_any (n d : Int) (w : World) (hd : d ≠ 0) (h0 : -4611686018427387904 ≤ n) (h1 : n ≤ 4611686018427387904) (_d0 : -9223372036854775808 ≤ d) (_d1 : d ≤ 9223372036854775807) :
    Calls Tryz.prog 133 #[.int .i64 n, .int .i64 d] w fun e w' => e = .returned (.int .i64 (fl n d)) ∧ w = w' := by
  obtain ⟨k0, k1, ⟨a, b⟩ | ⟨a, b, c⟩ | ⟨a, b, c⟩⟩ := fl_ways n d hd h0 h1
  · go_enter Tryz.func133, Tryz.ntmps133
    go_wp2
    go_ret
    exact ⟨rfl, rfl⟩
  · obtain ⟨sd, hsd⟩ : ∃ sd, decide (d < 0) = sd := ⟨_, rfl⟩
    rw [hsd] at b
    cases sd
    all_goals
     go_enter Tryz.func133, Tryz.ntmps133
     go_wp2
     go_ret
     exact ⟨rfl, rfl⟩
  · obtain ⟨sd, hsd⟩ : ∃ sd, decide (d < 0) = sd := ⟨_, rfl⟩
    rw [hsd] at b
    have e : Hid (fl n d + 1 - 1 = fl n d) := by unfold Hid; omega
    cases sd
    all_goals
     go_enter Tryz.func133, Tryz.ntmps133
     go_wp2
     go_ret
     exact ⟨by first | rfl | exact ret_one (by omega), rfl⟩
theorem fceil_any (n d : Int) (w : World) (hd : d ≠ 0) (h0 : -4611686018427387904 ≤ n) (h1 : n ≤ 4611686018427387904) (d0 : -9223372036854775808 ≤ d) (d1 : d ≤ 9223372036854775807) :
    Calls Tryz.prog 134 #[.int .i64 n, .int .i64 d] w fun e w' => e = .returned (.int .i64 (ce n d)) ∧ w = w' := by
  have k := fl_ways (-n) d hd (by omega) (by omega)
  have k0 := k.1
  have k1 := k.2.1
  clear k
  have e : Hid (-(fl (-n) d) = ce n d) := rfl
  go_enter Tryz.func134, Tryz.ntmps134
  go_wp2_with (go_at_call 133; refine (ffloor_any _ _ _ (by omega) (by omega) (by omega) (by omega) (by omega)).mono ?_; rintro e w' ⟨rfl, rfl⟩)
  go_ret
  exact ⟨ret_one e.out, rfl⟩
def zeroB (lo hi : Int) : Bool := decide (lo ≤ 0) && decide (0 ≤ hi)
theorem zeroB_f {lo hi : Int} (h : zeroB lo hi = false) : 0 < lo ∨ hi < 0 := by
  by_cases a : lo ≤ 0
  · by_cases b : 0 ≤ hi
    · simp [zeroB, a, b] at h
    · omega
  · omega
theorem zeroB_mk {lo hi : Int} (h : lo ≤ 0 ∧ 0 ≤ hi) : zeroB lo hi = true := by simp [zeroB]; omega
theorem zeroB_not {lo hi : Int} (h : ¬ (lo ≤ 0 ∧ 0 ≤ hi)) : zeroB lo hi = false := by simp [zeroB]; omega
theorem fzero_any (a b : Int) (w : World) :
    Calls Tryz.prog 254 #[.agg #[.int .i64 a, .int .i64 b]] w fun e w' => e = .returned (.bool (zeroB a b)) ∧ Below w.heap.size w w' := by
  by_cases h1 : a ≤ 0
  · by_cases h2 : 0 ≤ b
    · have H := hidden (zeroB_mk ⟨h1, h2⟩)
      go_enter Tryz.func254, Tryz.ntmps254
      go_wp2
      go_ret
      exact ⟨by rw [H.out]; rfl, by (repeat (first | exact Below.refl _ _ | refine bl_drewN ?_ | refine bl_drew ?_ | refine bl_alloc ?_ _ | refine Below.setCell ?_ (by (first | (simp; done) | (simp; omega) | omega)) _ | refine bl_step (by assumption) ?_))⟩
    · have H := hidden (zeroB_not (lo := a) (hi := b) (by omega))
      go_enter Tryz.func254, Tryz.ntmps254
      go_wp2
      go_ret
      exact ⟨by rw [H.out]; rfl, by (repeat (first | exact Below.refl _ _ | refine bl_drewN ?_ | refine bl_drew ?_ | refine bl_alloc ?_ _ | refine Below.setCell ?_ (by (first | (simp; done) | (simp; omega) | omega)) _ | refine bl_step (by assumption) ?_))⟩
  · have H := hidden (zeroB_not (lo := a) (hi := b) (by omega))
    go_enter Tryz.func254, Tryz.ntmps254
    go_wp2
    go_ret
    exact ⟨by rw [H.out]; rfl, by (repeat (first | exact Below.refl _ _ | refine bl_drewN ?_ | refine bl_drew ?_ | refine bl_alloc ?_ _ | refine Below.setCell ?_ (by (first | (simp; done) | (simp; omega) | omega)) _ | refine bl_step (by assumption) ?_))⟩
theorem wfloor_any (a b d : Int) (w : World) (h : wideB a b = true) (hd : d ≠ 0) (d1 : -9223372036854775808 ≤ d) (d2 : d ≤ 9223372036854775807) :
    Calls Tryz.prog 222 #[.agg #[.int .i64 a, .int .i64 b], .int .i64 d] w fun e w' => e = .returned (fitT (fl (a * 1152921504606846976 + b) d)) ∧ Below w.heap.size w w' := by
  have V := fun w => quo_down a b d w h hd d1 d2
  generalize fl (a * 1152921504606846976 + b) d = X at *
  by_cases hf : -9223372036854775808 ≤ X ∧ X ≤ 9223372036854775807
  · rw [fitT_ok X hf] at *
    replace V := hidden V
    go_enter Tryz.func222, Tryz.ntmps222
    go_wp2_with (go_at_call 273; refine (V.out _).mono ?_; rintro e w' ⟨rfl, hb⟩; (try replace hb := below_undrew hb); (try replace hb := below_undrewN hb); obtain ⟨hcell, hfroz⟩ := bcell hb; have hz := hb.size; (try simp at hz); (try (have z6 := Nat.lt_of_lt_of_le z7 hz)); (try (have z7 := Nat.lt_of_lt_of_le z8 hz)); (try (have z8 := Nat.lt_of_lt_of_le z9 hz)); (try (have z9 := Nat.lt_of_lt_of_le (Nat.lt_succ_self _) hz)); (try have z0 : w.heap.size < w'.heap.size := by omega); (try have z1 : w.heap.size + 1 < w'.heap.size := by omega); (try have z2 : w.heap.size + 1 + 1 < w'.heap.size := by omega); (try have z3 : w.heap.size + 1 + 1 + 1 < w'.heap.size := by omega))
    go_ret2
    exact ⟨rfl, by (repeat (first | exact Below.refl _ _ | refine bl_drewN ?_ | refine bl_drew ?_ | refine bl_alloc ?_ _ | refine Below.setCell ?_ (by (first | (simp; done) | (simp; omega) | omega)) _ | refine bl_step (by assumption) ?_))⟩
  · rw [fitT_no X hf] at *
    replace V := hidden V
    go_enter Tryz.func222, Tryz.ntmps222
    go_wp2_with (go_at_call 273; refine (V.out _).mono ?_; rintro e w' ⟨rfl, hb⟩; (try replace hb := below_undrew hb); (try replace hb := below_undrewN hb); obtain ⟨hcell, hfroz⟩ := bcell hb; have hz := hb.size; (try simp at hz); (try (have z6 := Nat.lt_of_lt_of_le z7 hz)); (try (have z7 := Nat.lt_of_lt_of_le z8 hz)); (try (have z8 := Nat.lt_of_lt_of_le z9 hz)); (try (have z9 := Nat.lt_of_lt_of_le (Nat.lt_succ_self _) hz)); (try have z0 : w.heap.size < w'.heap.size := by omega); (try have z1 : w.heap.size + 1 < w'.heap.size := by omega); (try have z2 : w.heap.size + 1 + 1 < w'.heap.size := by omega); (try have z3 : w.heap.size + 1 + 1 + 1 < w'.heap.size := by omega))
    go_ret2
    exact ⟨rfl, by (repeat (first | exact Below.refl _ _ | refine bl_drewN ?_ | refine bl_drew ?_ | refine bl_alloc ?_ _ | refine Below.setCell ?_ (by (first | (simp; done) | (simp; omega) | omega)) _ | refine bl_step (by assumption) ?_))⟩
theorem wceil_any (a b d : Int) (w : World) (h : wideB a b = true) (hd : d ≠ 0) (d1 : -9223372036854775808 ≤ d) (d2 : d ≤ 9223372036854775807) :
    Calls Tryz.prog 223 #[.agg #[.int .i64 a, .int .i64 b], .int .i64 d] w fun e w' => e = .returned (fitT (ce (a * 1152921504606846976 + b) d)) ∧ Below w.heap.size w w' := by
  have V := fun w => quo_up a b d w h hd d1 d2
  generalize ce (a * 1152921504606846976 + b) d = X at *
  by_cases hf : -9223372036854775808 ≤ X ∧ X ≤ 9223372036854775807
  · rw [fitT_ok X hf] at *
    replace V := hidden V
    go_enter Tryz.func223, Tryz.ntmps223
    go_wp2_with (go_at_call 273; refine (V.out _).mono ?_; rintro e w' ⟨rfl, hb⟩; (try replace hb := below_undrew hb); (try replace hb := below_undrewN hb); obtain ⟨hcell, hfroz⟩ := bcell hb; have hz := hb.size; (try simp at hz); (try (have z6 := Nat.lt_of_lt_of_le z7 hz)); (try (have z7 := Nat.lt_of_lt_of_le z8 hz)); (try (have z8 := Nat.lt_of_lt_of_le z9 hz)); (try (have z9 := Nat.lt_of_lt_of_le (Nat.lt_succ_self _) hz)); (try have z0 : w.heap.size < w'.heap.size := by omega); (try have z1 : w.heap.size + 1 < w'.heap.size := by omega); (try have z2 : w.heap.size + 1 + 1 < w'.heap.size := by omega); (try have z3 : w.heap.size + 1 + 1 + 1 < w'.heap.size := by omega))
    go_ret2
    exact ⟨rfl, by (repeat (first | exact Below.refl _ _ | refine bl_drewN ?_ | refine bl_drew ?_ | refine bl_alloc ?_ _ | refine Below.setCell ?_ (by (first | (simp; done) | (simp; omega) | omega)) _ | refine bl_step (by assumption) ?_))⟩
  · rw [fitT_no X hf] at *
    replace V := hidden V
    go_enter Tryz.func223, Tryz.ntmps223
    go_wp2_with (go_at_call 273; refine (V.out _).mono ?_; rintro e w' ⟨rfl, hb⟩; (try replace hb := below_undrew hb); (try replace hb := below_undrewN hb); obtain ⟨hcell, hfroz⟩ := bcell hb; have hz := hb.size; (try simp at hz); (try (have z6 := Nat.lt_of_lt_of_le z7 hz)); (try (have z7 := Nat.lt_of_lt_of_le z8 hz)); (try (have z8 := Nat.lt_of_lt_of_le z9 hz)); (try (have z9 := Nat.lt_of_lt_of_le (Nat.lt_succ_self _) hz)); (try have z0 : w.heap.size < w'.heap.size := by omega); (try have z1 : w.heap.size + 1 < w'.heap.size := by omega); (try have z2 : w.heap.size + 1 + 1 < w'.heap.size := by omega); (try have z3 : w.heap.size + 1 + 1 + 1 < w'.heap.size := by omega))
    go_ret2
    exact ⟨rfl, by (repeat (first | exact Below.refl _ _ | refine bl_drewN ?_ | refine bl_drew ?_ | refine bl_alloc ?_ _ | refine Below.setCell ?_ (by (first | (simp; done) | (simp; omega) | omega)) _ | refine bl_step (by assumption) ?_))⟩
theorem enc_parts (x n d : Int) (hx0 : -9223372036854775808 ≤ x) (hx1 : x ≤ 9223372036854775807) (hn0 : -9223372036854775808 ≤ n) (hn1 : n ≤ 9223372036854775807) (hd : d ≠ 0) (d1 : -9223372036854775808 ≤ d) (d2 : d ≤ 9223372036854775807)
    (p0 : -1267650600228229401496703205376 ≤ x * n) (p1 : x * n ≤ 1267650600228229401496703205376) : ∃ a b : Int,
    (∀ w, Calls Tryz.prog 221 #[.int .i64 x, .int .i64 n] w fun r w' => r = .returned (.tuple #[.agg #[.int .i64 a, .int .i64 b], .int .i64 0]) ∧ Below w.heap.size w w') ∧
    (∀ w, Calls Tryz.prog 222 #[.agg #[.int .i64 a, .int .i64 b], .int .i64 d] w fun e w' => e = .returned (fitT (fl (x * n) d)) ∧ Below w.heap.size w w') ∧
    (∀ w, Calls Tryz.prog 223 #[.agg #[.int .i64 a, .int .i64 b], .int .i64 d] w fun e w' => e = .returned (fitT (ce (x * n) d)) ∧ Below w.heap.size w w') := by
  have hv : fitsW (x * n) = true := by simp [fitsW]; omega
  have hw : wideB (x * n / 1152921504606846976) (x * n % 1152921504606846976) = true := wideB_mk (by omega)
  have e : x * n / 1152921504606846976 * 1152921504606846976 + x * n % 1152921504606846976 = x * n := by omega
  refine ⟨_, _, fun w => product_ok x n w hx0 hx1 hn0 hn1 hv, fun w => ?_, fun w => ?_⟩
  · have := wfloor_any _ _ d w hw hd d1 d2
    rw [e] at this; exact this
  · have := wceil_any _ _ d w hw hd d1 d2
    rw [e] at this; exact this
theorem enclose_ok (x n d L U : Int) (w : World) (hx0 : -9223372036854775808 ≤ x) (hx1 : x ≤ 9223372036854775807) (hn0 : -9223372036854775808 ≤ n) (hn1 : n ≤ 9223372036854775807) (hd : d ≠ 0) (d1 : -9223372036854775808 ≤ d) (d2 : d ≤ 9223372036854775807)
    (p0 : -1267650600228229401496703205376 ≤ x * n) (p1 : x * n ≤ 1267650600228229401496703205376) (hL : fl (x * n) d = L) (hU : ce (x * n) d = U)
    (fL : -9223372036854775808 ≤ L ∧ L ≤ 9223372036854775807) (fU : -9223372036854775808 ≤ U ∧ U ≤ 9223372036854775807) :
    Calls Tryz.prog 138 #[.int .i64 x, .int .i64 n, .int .i64 d] w fun e w' => e = .returned (.tuple #[.int .i64 L, .int .i64 U, .int .i64 0]) ∧ Below w.heap.size w w' := by
  obtain ⟨a, b, P, F, C⟩ := enc_parts x n d hx0 hx1 hn0 hn1 hd d1 d2 p0 p1
  rw [hL, fitT_ok L fL] at F
  rw [hU, fitT_ok U fU] at C
  replace P := hidden P
  replace F := hidden F
  replace C := hidden C
  clear hL hU p0 p1
  go_enter Tryz.func138, Tryz.ntmps138
  go_wp2_with (((first | (go_at_call 221; refine (P.out _).mono ?_; rintro e w' ⟨rfl, hb⟩; have nm0 := trivial) | (go_at_call 222; refine (F.out _).mono ?_; rintro e w' ⟨rfl, hb⟩; have nm1 := trivial) | (go_at_call 223; refine (C.out _).mono ?_; rintro e w' ⟨rfl, hb⟩; have nm2 := trivial)); (try replace hb := below_undrew hb); (try replace hb := below_undrewN hb); obtain ⟨hcell, hfroz⟩ := bcell hb; have hz := hb.size; (try simp at hz); (try (have z6 := Nat.lt_of_lt_of_le z7 hz)); (try (have z7 := Nat.lt_of_lt_of_le z8 hz)); (try (have z8 := Nat.lt_of_lt_of_le z9 hz)); (try (have z9 := Nat.lt_of_lt_of_le (Nat.lt_succ_self _) hz)); (try have z0 : w.heap.size < w'.heap.size := by omega); (try have z1 : w.heap.size + 1 < w'.heap.size := by omega); (try have z2 : w.heap.size + 1 + 1 < w'.heap.size := by omega); (try have z3 : w.heap.size + 1 + 1 + 1 < w'.heap.size := by omega); (try have y1 : w1.heap.size < w'.heap.size := by omega); (try have y2 : w2.heap.size < w'.heap.size := by omega); (first | (clear nm0; obtain ⟨w1, rfl⟩ : ∃ v, v = w' := ⟨_, rfl⟩) | (clear nm1; obtain ⟨w2, rfl⟩ : ∃ v, v = w' := ⟨_, rfl⟩) | (clear nm2))))
  exact bodyPost_ret (v := .tuple #[.int .i64 L, .int .i64 U, .int .i64 0]) (by first | (simp only [results, Tryz.results138]; go_simp; done) | simp [results, Tryz.results138, go_sem, *]) rfl ⟨rfl, by (repeat (first | exact Below.refl _ _ | refine bl_drewN ?_ | refine bl_drew ?_ | refine bl_alloc ?_ _ | refine Below.setCell ?_ (by (first | (simp; done) | (simp; omega) | omega)) _ | refine bl_step (by assumption) ?_))⟩
theorem enclose_no (x n d L U : Int) (w : World) (hx0 : -9223372036854775808 ≤ x) (hx1 : x ≤ 9223372036854775807) (hn0 : -9223372036854775808 ≤ n) (hn1 : n ≤ 9223372036854775807) (hd : d ≠ 0) (d1 : -9223372036854775808 ≤ d) (d2 : d ≤ 9223372036854775807)
    (p0 : -1267650600228229401496703205376 ≤ x * n) (p1 : x * n ≤ 1267650600228229401496703205376) (hL : fl (x * n) d = L) (hU : ce (x * n) d = U)
    (f : ¬ ((-9223372036854775808 ≤ L ∧ L ≤ 9223372036854775807) ∧ (-9223372036854775808 ≤ U ∧ U ≤ 9223372036854775807))) :
    Calls Tryz.prog 138 #[.int .i64 x, .int .i64 n, .int .i64 d] w fun e w' => (∃ p q : Int, e = .returned (.tuple #[.int .i64 p, .int .i64 q, .int .i64 5])) ∧ Below w.heap.size w w' := by
  obtain ⟨a, b, P, F, C⟩ := enc_parts x n d hx0 hx1 hn0 hn1 hd d1 d2 p0 p1
  rw [hL] at F
  rw [hU] at C
  by_cases fL : -9223372036854775808 ≤ L ∧ L ≤ 9223372036854775807
  · have fU : ¬ (-9223372036854775808 ≤ U ∧ U ≤ 9223372036854775807) := fun h => f ⟨fL, h⟩
    rw [fitT_ok L fL] at F
    rw [fitT_no U fU] at C
    replace P := hidden P
    replace F := hidden F
    replace C := hidden C
    clear hL hU p0 p1 f fU
    go_enter Tryz.func138, Tryz.ntmps138
    go_wp2_with (((first | (go_at_call 221; refine (P.out _).mono ?_; rintro e w' ⟨rfl, hb⟩; have nm0 := trivial) | (go_at_call 222; refine (F.out _).mono ?_; rintro e w' ⟨rfl, hb⟩; have nm1 := trivial) | (go_at_call 223; refine (C.out _).mono ?_; rintro e w' ⟨rfl, hb⟩; have nm2 := trivial)); (try replace hb := below_undrew hb); (try replace hb := below_undrewN hb); obtain ⟨hcell, hfroz⟩ := bcell hb; have hz := hb.size; (try simp at hz); (try (have z6 := Nat.lt_of_lt_of_le z7 hz)); (try (have z7 := Nat.lt_of_lt_of_le z8 hz)); (try (have z8 := Nat.lt_of_lt_of_le z9 hz)); (try (have z9 := Nat.lt_of_lt_of_le (Nat.lt_succ_self _) hz)); (try have z0 : w.heap.size < w'.heap.size := by omega); (try have z1 : w.heap.size + 1 < w'.heap.size := by omega); (try have z2 : w.heap.size + 1 + 1 < w'.heap.size := by omega); (try have z3 : w.heap.size + 1 + 1 + 1 < w'.heap.size := by omega); (try have y1 : w1.heap.size < w'.heap.size := by omega); (try have y2 : w2.heap.size < w'.heap.size := by omega); (first | (clear nm0; obtain ⟨w1, rfl⟩ : ∃ v, v = w' := ⟨_, rfl⟩) | (clear nm1; obtain ⟨w2, rfl⟩ : ∃ v, v = w' := ⟨_, rfl⟩) | (clear nm2))))
    exact bodyPost_ret (v := .tuple #[.int .i64 L, .int .i64 0, .int .i64 5]) (by first | (simp only [results, Tryz.results138]; go_simp; done) | simp [results, Tryz.results138, go_sem, *]) rfl ⟨⟨_, _, rfl⟩, by (repeat (first | exact Below.refl _ _ | refine bl_drewN ?_ | refine bl_drew ?_ | refine bl_alloc ?_ _ | refine Below.setCell ?_ (by (first | (simp; done) | (simp; omega) | omega)) _ | refine bl_step (by assumption) ?_))⟩
  · rw [fitT_no L fL] at F
    replace P := hidden P
    replace F := hidden F
    clear hL hU p0 p1 f fL C
    go_enter Tryz.func138, Tryz.ntmps138
    go_wp2_with (((first | (go_at_call 221; refine (P.out _).mono ?_; rintro e w' ⟨rfl, hb⟩; have nm0 := trivial) | (go_at_call 222; refine (F.out _).mono ?_; rintro e w' ⟨rfl, hb⟩; have nm1 := trivial)); (try replace hb := below_undrew hb); (try replace hb := below_undrewN hb); obtain ⟨hcell, hfroz⟩ := bcell hb; have hz := hb.size; (try simp at hz); (try (have z6 := Nat.lt_of_lt_of_le z7 hz)); (try (have z7 := Nat.lt_of_lt_of_le z8 hz)); (try (have z8 := Nat.lt_of_lt_of_le z9 hz)); (try (have z9 := Nat.lt_of_lt_of_le (Nat.lt_succ_self _) hz)); (try have z0 : w.heap.size < w'.heap.size := by omega); (try have z1 : w.heap.size + 1 < w'.heap.size := by omega); (try have z2 : w.heap.size + 1 + 1 < w'.heap.size := by omega); (try have z3 : w.heap.size + 1 + 1 + 1 < w'.heap.size := by omega); (try have y1 : w1.heap.size < w'.heap.size := by omega); (first | (clear nm0; obtain ⟨w1, rfl⟩ : ∃ v, v = w' := ⟨_, rfl⟩) | (clear nm1; obtain ⟨w2, rfl⟩ : ∃ v, v = w' := ⟨_, rfl⟩))))
    exact bodyPost_ret (v := .tuple #[.int .i64 0, .int .i64 0, .int .i64 5]) (by first | (simp only [results, Tryz.results138]; go_simp; done) | simp [results, Tryz.results138, go_sem, *]) rfl ⟨⟨_, _, rfl⟩, by (repeat (first | exact Below.refl _ _ | refine bl_drewN ?_ | refine bl_drew ?_ | refine bl_alloc ?_ _ | refine Below.setCell ?_ (by (first | (simp; done) | (simp; omega) | omega)) _ | refine bl_step (by assumption) ?_))⟩
set_option maxHeartbeats 400000 in
theorem add_any (a b c d : Int) (w : World) (h1 : fixB a b = true) (h2 : fixB c d = true) :
    Calls Tryz.prog 49 #[.agg #[.int .i64 a, .int .i64 b], .agg #[.int .i64 c, .int .i64 d]] w fun e w' => e = .returned (fitF (a + c) (b + d)) ∧ Below w.heap.size w w' := by
  have a0 := fixB_t h1
  have a1 := a0.1
  have a2 := a0.2.1
  have a3 := a0.2.2
  have c0 := fixB_t h2
  have c1 := c0.1
  have c2 := c0.2.1
  have c3 := c0.2.2
  clear a0 c0
  have h : (fixB a b && fixB c d) = true := by rw [h1, h2]; rfl
  clear h1 h2
  cases hf : fixB (a + c) (b + d)
  · rw [fitF_no hf]
    have FI := fun w => ffit_no _ _ w hf
    replace FI := hidden FI
    clear hf
    go_enter Tryz.func49, Tryz.ntmps49
    go_wp2_with (((first | (go_at_call 135; refine (both_any _ _ _ _ _).mono ?_; rintro e w' ⟨rfl, hb⟩) | (go_at_call 132; refine (FI.out _).mono ?_; rintro e w' ⟨rfl, hb⟩)); (try replace hb := below_undrew hb); (try replace hb := below_undrewN hb); obtain ⟨hcell, hfroz⟩ := bcell hb; have hz := hb.size; (try simp at hz); (try (have z6 := Nat.lt_of_lt_of_le z7 hz)); (try (have z7 := Nat.lt_of_lt_of_le z8 hz)); (try (have z8 := Nat.lt_of_lt_of_le z9 hz)); (try (have z9 := Nat.lt_of_lt_of_le (Nat.lt_succ_self _) hz)); (try have z0 : w.heap.size < w'.heap.size := by omega); (try have z1 : w.heap.size + 1 < w'.heap.size := by omega); (try have z2 : w.heap.size + 1 + 1 < w'.heap.size := by omega); (try have z3 : w.heap.size + 1 + 1 + 1 < w'.heap.size := by omega)))
    exact bodyPost_ret (v := .tuple #[.agg #[.int .i64 0, .int .i64 0], .int .i64 5]) (by first | (simp only [results, Tryz.results49]; go_simp; done) | simp [results, Tryz.results49, go_sem, *]) rfl ⟨rfl, by (repeat (first | exact Below.refl _ _ | refine bl_drewN ?_ | refine bl_drew ?_ | refine bl_alloc ?_ _ | refine Below.setCell ?_ (by (first | (simp; done) | (simp; omega) | omega)) _ | refine bl_step (by assumption) ?_))⟩
  · rw [fitF_ok hf]
    have FI := fun w => ffit_ok _ _ w hf
    replace FI := hidden FI
    clear hf
    go_enter Tryz.func49, Tryz.ntmps49
    go_wp2_with (((first | (go_at_call 135; refine (both_any _ _ _ _ _).mono ?_; rintro e w' ⟨rfl, hb⟩) | (go_at_call 132; refine (FI.out _).mono ?_; rintro e w' ⟨rfl, hb⟩)); (try replace hb := below_undrew hb); (try replace hb := below_undrewN hb); obtain ⟨hcell, hfroz⟩ := bcell hb; have hz := hb.size; (try simp at hz); (try (have z6 := Nat.lt_of_lt_of_le z7 hz)); (try (have z7 := Nat.lt_of_lt_of_le z8 hz)); (try (have z8 := Nat.lt_of_lt_of_le z9 hz)); (try (have z9 := Nat.lt_of_lt_of_le (Nat.lt_succ_self _) hz)); (try have z0 : w.heap.size < w'.heap.size := by omega); (try have z1 : w.heap.size + 1 < w'.heap.size := by omega); (try have z2 : w.heap.size + 1 + 1 < w'.heap.size := by omega); (try have z3 : w.heap.size + 1 + 1 + 1 < w'.heap.size := by omega)))
    exact bodyPost_ret (v := .tuple #[.agg #[.int .i64 (a + c), .int .i64 (b + d)], .int .i64 0]) (by first | (simp only [results, Tryz.results49]; go_simp; done) | simp [results, Tryz.results49, go_sem, *]) rfl ⟨rfl, by (repeat (first | exact Below.refl _ _ | refine bl_drewN ?_ | refine bl_drew ?_ | refine bl_alloc ?_ _ | refine Below.setCell ?_ (by (first | (simp; done) | (simp; omega) | omega)) _ | refine bl_step (by assumption) ?_))⟩
set_option maxHeartbeats 400000 in
theorem sub_any (a b c d : Int) (w : World) (h1 : fixB a b = true) (h2 : fixB c d = true) :
    Calls Tryz.prog 224 #[.agg #[.int .i64 a, .int .i64 b], .agg #[.int .i64 c, .int .i64 d]] w fun e w' => e = .returned (fitF (a - d) (b - c)) ∧ Below w.heap.size w w' := by
  have a0 := fixB_t h1
  have a1 := a0.1
  have a2 := a0.2.1
  have a3 := a0.2.2
  have c0 := fixB_t h2
  have c1 := c0.1
  have c2 := c0.2.1
  have c3 := c0.2.2
  clear a0 c0
  have h : (fixB a b && fixB c d) = true := by rw [h1, h2]; rfl
  clear h1 h2
  cases hf : fixB (a - d) (b - c)
  · rw [fitF_no hf]
    have FI := fun w => ffit_no _ _ w hf
    replace FI := hidden FI
    clear hf
    go_enter Tryz.func224, Tryz.ntmps224
    go_wp2_with (((first | (go_at_call 135; refine (both_any _ _ _ _ _).mono ?_; rintro e w' ⟨rfl, hb⟩) | (go_at_call 132; refine (FI.out _).mono ?_; rintro e w' ⟨rfl, hb⟩)); (try replace hb := below_undrew hb); (try replace hb := below_undrewN hb); obtain ⟨hcell, hfroz⟩ := bcell hb; have hz := hb.size; (try simp at hz); (try (have z6 := Nat.lt_of_lt_of_le z7 hz)); (try (have z7 := Nat.lt_of_lt_of_le z8 hz)); (try (have z8 := Nat.lt_of_lt_of_le z9 hz)); (try (have z9 := Nat.lt_of_lt_of_le (Nat.lt_succ_self _) hz)); (try have z0 : w.heap.size < w'.heap.size := by omega); (try have z1 : w.heap.size + 1 < w'.heap.size := by omega); (try have z2 : w.heap.size + 1 + 1 < w'.heap.size := by omega); (try have z3 : w.heap.size + 1 + 1 + 1 < w'.heap.size := by omega)))
    exact bodyPost_ret (v := .tuple #[.agg #[.int .i64 0, .int .i64 0], .int .i64 5]) (by first | (simp only [results, Tryz.results224]; go_simp; done) | simp [results, Tryz.results224, go_sem, *]) rfl ⟨rfl, by (repeat (first | exact Below.refl _ _ | refine bl_drewN ?_ | refine bl_drew ?_ | refine bl_alloc ?_ _ | refine Below.setCell ?_ (by (first | (simp; done) | (simp; omega) | omega)) _ | refine bl_step (by assumption) ?_))⟩
  · rw [fitF_ok hf]
    have FI := fun w => ffit_ok _ _ w hf
    replace FI := hidden FI
    clear hf
    go_enter Tryz.func224, Tryz.ntmps224
    go_wp2_with (((first | (go_at_call 135; refine (both_any _ _ _ _ _).mono ?_; rintro e w' ⟨rfl, hb⟩) | (go_at_call 132; refine (FI.out _).mono ?_; rintro e w' ⟨rfl, hb⟩)); (try replace hb := below_undrew hb); (try replace hb := below_undrewN hb); obtain ⟨hcell, hfroz⟩ := bcell hb; have hz := hb.size; (try simp at hz); (try (have z6 := Nat.lt_of_lt_of_le z7 hz)); (try (have z7 := Nat.lt_of_lt_of_le z8 hz)); (try (have z8 := Nat.lt_of_lt_of_le z9 hz)); (try (have z9 := Nat.lt_of_lt_of_le (Nat.lt_succ_self _) hz)); (try have z0 : w.heap.size < w'.heap.size := by omega); (try have z1 : w.heap.size + 1 < w'.heap.size := by omega); (try have z2 : w.heap.size + 1 + 1 < w'.heap.size := by omega); (try have z3 : w.heap.size + 1 + 1 + 1 < w'.heap.size := by omega)))
    exact bodyPost_ret (v := .tuple #[.agg #[.int .i64 (a - d), .int .i64 (b - c)], .int .i64 0]) (by first | (simp only [results, Tryz.results224]; go_simp; done) | simp [results, Tryz.results224, go_sem, *]) rfl ⟨rfl, by (repeat (first | exact Below.refl _ _ | refine bl_drewN ?_ | refine bl_drew ?_ | refine bl_alloc ?_ _ | refine Below.setCell ?_ (by (first | (simp; done) | (simp; omega) | omega)) _ | refine bl_step (by assumption) ?_))⟩
theorem le_min (x y : Int) : (if y < x then y else x) = min x y := by split <;> omega
theorem le_max (x y : Int) : (if x < y then y else x) = max x y := by split <;> omega
@[go_sem high] theorem run_min_four {P : Program} (w : World) (ts : Array TypeId) (t : TypeId) (k1 k2 k3 k4 : IntKind) (x y z u : Int) :
    (Builtin.min_ ts t #[.int k1 x, .int k2 y, .int k3 z, .int k4 u]).run P w = .ok (.int k1 (min (min (min x y) z) u)) w := by
  rw [← le_min, ← le_min (min x y), ← le_min x y]
  simp [Builtin.min_, Builtin.min2, go_sem]
@[go_sem high] theorem run_max_four {P : Program} (w : World) (ts : Array TypeId) (t : TypeId) (k1 k2 k3 k4 : IntKind) (x y z u : Int) :
    (Builtin.max_ ts t #[.int k1 x, .int k2 y, .int k3 z, .int k4 u]).run P w = .ok (.int k1 (max (max (max x y) z) u)) w := by
  rw [← le_max, ← le_max (max x y), ← le_max x y]
  simp [Builtin.max_, Builtin.max2, go_sem]
theorem wrap_id {n : Int} (h0 : -9223372036854775808 ≤ n) (h1 : n ≤ 9223372036854775807) : IntKind.i64.wrap n = n := by rw [IntKind.wrap_i64]; omega
theorem prod_bd (x y : Int) (x0 : -2147483648 ≤ x) (x1 : x ≤ 2147483648) (y0 : -2147483648 ≤ y) (y1 : y ≤ 2147483648) : -4611686018427387904 ≤ x * y ∧ x * y ≤ 4611686018427387904 := by
  have e := Int.natAbs_mul x y
  have h : x.natAbs * y.natAbs ≤ 2147483648 * 2147483648 := Nat.mul_le_mul (by omega) (by omega)
  rw [← e] at h
  omega
set_option maxHeartbeats 400000 in
theorem mul_any (a b c d : Int) (w : World) (h1 : fixB a b = true) (h2 : fixB c d = true) :
    Calls Tryz.prog 150 #[.agg #[.int .i64 a, .int .i64 b], .agg #[.int .i64 c, .int .i64 d]] w fun e w' => e = .returned (fitF (fl (min (a * c) (min (a * d) (min (b * c) (b * d)))) 1073741824) (ce (max (a * c) (max (a * d) (max (b * c) (b * d)))) 1073741824)) ∧ Below w.heap.size w w' := by
  have a0 := fixB_t h1
  have a1 := a0.1
  have a2 := a0.2.1
  have a3 := a0.2.2
  have c0 := fixB_t h2
  have c1 := c0.1
  have c2 := c0.2.1
  have c3 := c0.2.2
  clear a0 c0
  have h : (fixB a b && fixB c d) = true := by rw [h1, h2]; rfl
  clear h1 h2
  obtain ⟨p1, p2⟩ := prod_bd a c (by omega) (by omega) (by omega) (by omega)
  obtain ⟨p3, p4⟩ := prod_bd a d (by omega) (by omega) (by omega) (by omega)
  obtain ⟨p5, p6⟩ := prod_bd b c (by omega) (by omega) (by omega) (by omega)
  obtain ⟨p7, p8⟩ := prod_bd b d (by omega) (by omega) (by omega) (by omega)
  have r1 : IntKind.i64.wrap (a * c) = a * c := wrap_id (by omega) (by omega)
  have r2 : IntKind.i64.wrap (a * d) = a * d := wrap_id (by omega) (by omega)
  have r3 : IntKind.i64.wrap (b * c) = b * c := wrap_id (by omega) (by omega)
  have r4 : IntKind.i64.wrap (b * d) = b * d := wrap_id (by omega) (by omega)
  have FA := fun w => ffloor_any (min (a * c) (min (a * d) (min (b * c) (b * d)))) 1073741824 w (by omega) (by omega) (by omega) (by omega) (by omega)
  have FB := fun w => fceil_any (max (a * c) (max (a * d) (max (b * c) (b * d)))) 1073741824 w (by omega) (by omega) (by omega) (by omega) (by omega)
  generalize fl (min (a * c) (min (a * d) (min (b * c) (b * d)))) 1073741824 = X at *
  generalize ce (max (a * c) (max (a * d) (max (b * c) (b * d)))) 1073741824 = Y at *
  replace FA := hidden FA
  replace FB := hidden FB
  clear p1 p2 p3 p4 p5 p6 p7 p8
  cases hf : fixB (X) (Y)
  · rw [fitF_no hf]
    have FI := fun w => ffit_no _ _ w hf
    replace FI := hidden FI
    clear hf
    go_enter Tryz.func150, Tryz.ntmps150
    go_wp2_with (go_at_call 135; refine (both_any _ _ _ _ _).mono ?_; rintro e w' ⟨rfl, hb⟩; (try replace hb := below_undrew hb); (try replace hb := below_undrewN hb); obtain ⟨hcell, hfroz⟩ := bcell hb; have hz := hb.size; (try simp at hz); (try (have z6 := Nat.lt_of_lt_of_le z7 hz)); (try (have z7 := Nat.lt_of_lt_of_le z8 hz)); (try (have z8 := Nat.lt_of_lt_of_le z9 hz)); (try (have z9 := Nat.lt_of_lt_of_le (Nat.lt_succ_self _) hz)); (try have z0 : w.heap.size < w'.heap.size := by omega); (try have z1 : w.heap.size + 1 < w'.heap.size := by omega); (try have z2 : w.heap.size + 1 + 1 < w'.heap.size := by omega); (try have z3 : w.heap.size + 1 + 1 + 1 < w'.heap.size := by omega))
    go_quiet (fail)
    go_wp2_with (first | (((first | (go_at_call 135; refine (both_any _ _ _ _ _).mono ?_; rintro e w' ⟨rfl, hb⟩) | (go_at_call 132; refine (FI.out _).mono ?_; rintro e w' ⟨rfl, hb⟩)); (try replace hb := below_undrew hb); (try replace hb := below_undrewN hb); obtain ⟨hcell, hfroz⟩ := bcell hb; have hz := hb.size; (try simp at hz); (try (have z6 := Nat.lt_of_lt_of_le z7 hz)); (try (have z7 := Nat.lt_of_lt_of_le z8 hz)); (try (have z8 := Nat.lt_of_lt_of_le z9 hz)); (try (have z9 := Nat.lt_of_lt_of_le (Nat.lt_succ_self _) hz)); (try have z0 : w.heap.size < w'.heap.size := by omega); (try have z1 : w.heap.size + 1 < w'.heap.size := by omega); (try have z2 : w.heap.size + 1 + 1 < w'.heap.size := by omega); (try have z3 : w.heap.size + 1 + 1 + 1 < w'.heap.size := by omega))) | (go_at_call 133; refine (FA.out _).mono ?_; rintro e w' ⟨rfl, rfl⟩) | (go_at_call 134; refine (FB.out _).mono ?_; rintro e w' ⟨rfl, rfl⟩))
    exact bodyPost_ret (v := .tuple #[.agg #[.int .i64 0, .int .i64 0], .int .i64 5]) (by first | (simp only [results, Tryz.results150]; go_simp; done) | simp [results, Tryz.results150, go_sem, *]) rfl ⟨rfl, by (repeat (first | exact Below.refl _ _ | refine bl_drewN ?_ | refine bl_drew ?_ | refine bl_alloc ?_ _ | refine Below.setCell ?_ (by (first | (simp; done) | (simp; omega) | omega)) _ | refine bl_step (by assumption) ?_))⟩
  · rw [fitF_ok hf]
    have FI := fun w => ffit_ok _ _ w hf
    replace FI := hidden FI
    clear hf
    go_enter Tryz.func150, Tryz.ntmps150
    go_wp2_with (go_at_call 135; refine (both_any _ _ _ _ _).mono ?_; rintro e w' ⟨rfl, hb⟩; (try replace hb := below_undrew hb); (try replace hb := below_undrewN hb); obtain ⟨hcell, hfroz⟩ := bcell hb; have hz := hb.size; (try simp at hz); (try (have z6 := Nat.lt_of_lt_of_le z7 hz)); (try (have z7 := Nat.lt_of_lt_of_le z8 hz)); (try (have z8 := Nat.lt_of_lt_of_le z9 hz)); (try (have z9 := Nat.lt_of_lt_of_le (Nat.lt_succ_self _) hz)); (try have z0 : w.heap.size < w'.heap.size := by omega); (try have z1 : w.heap.size + 1 < w'.heap.size := by omega); (try have z2 : w.heap.size + 1 + 1 < w'.heap.size := by omega); (try have z3 : w.heap.size + 1 + 1 + 1 < w'.heap.size := by omega))
    go_quiet (fail)
    go_wp2_with (first | (((first | (go_at_call 135; refine (both_any _ _ _ _ _).mono ?_; rintro e w' ⟨rfl, hb⟩) | (go_at_call 132; refine (FI.out _).mono ?_; rintro e w' ⟨rfl, hb⟩)); (try replace hb := below_undrew hb); (try replace hb := below_undrewN hb); obtain ⟨hcell, hfroz⟩ := bcell hb; have hz := hb.size; (try simp at hz); (try (have z6 := Nat.lt_of_lt_of_le z7 hz)); (try (have z7 := Nat.lt_of_lt_of_le z8 hz)); (try (have z8 := Nat.lt_of_lt_of_le z9 hz)); (try (have z9 := Nat.lt_of_lt_of_le (Nat.lt_succ_self _) hz)); (try have z0 : w.heap.size < w'.heap.size := by omega); (try have z1 : w.heap.size + 1 < w'.heap.size := by omega); (try have z2 : w.heap.size + 1 + 1 < w'.heap.size := by omega); (try have z3 : w.heap.size + 1 + 1 + 1 < w'.heap.size := by omega))) | (go_at_call 133; refine (FA.out _).mono ?_; rintro e w' ⟨rfl, rfl⟩) | (go_at_call 134; refine (FB.out _).mono ?_; rintro e w' ⟨rfl, rfl⟩))
    exact bodyPost_ret (v := .tuple #[.agg #[.int .i64 X, .int .i64 Y], .int .i64 0]) (by first | (simp only [results, Tryz.results150]; go_simp; done) | simp [results, Tryz.results150, go_sem, *]) rfl ⟨rfl, by (repeat (first | exact Below.refl _ _ | refine bl_drewN ?_ | refine bl_drew ?_ | refine bl_alloc ?_ _ | refine Below.setCell ?_ (by (first | (simp; done) | (simp; omega) | omega)) _ | refine bl_step (by assumption) ?_))⟩
end Go.Proofs.YtdhbeoahpfimbaaGreat
