/- Several small texts in one: XFix, XFix2, XFix3, XFix4, XFix5, XFix6, XFix7, XFix8, XFix9, XFixA. -/
import Derived.Test.YtjceofmhodcefaaGreatWd
namespace Go.Proofs.YtjceofmhodcefaaGreat
open Go.RowKit

def fixB (lo hi : Int) : Bool := decide (-2147483648 ≤ lo) && decide (lo ≤ hi) && decide (hi ≤ 2147483648)
theorem fixB_t {lo hi : Int} (h : fixB lo hi = true) : -2147483648 ≤ lo ∧ lo ≤ hi ∧ hi ≤ 2147483648 := by simp [fixB] at h; omega
theorem fixB_mk {lo hi : Int} (h : -2147483648 ≤ lo ∧ lo ≤ hi ∧ hi ≤ 2147483648) : fixB lo hi = true := by simp [fixB]; omega
theorem fixB_not {lo hi : Int} (h : ¬ (-2147483648 ≤ lo ∧ lo ≤ hi ∧ hi ≤ 2147483648)) : fixB lo hi = false := by simp [fixB]; omega

set_option maxHeartbeats 400000 in
theorem fvalid_any (a b : Int) (w : World) :
    Calls Tryz.prog 88 #[.agg #[.int .i64 (a), .int .i64 (b)]] w fun e w' => e = .returned (.bool (fixB a b)) ∧ Below w.heap.size w w' := by
  by_cases h1 : -2147483648 ≤ a
  · by_cases h2 : a ≤ b
    · by_cases h3 : b ≤ 2147483648
      · have H := hidden (fixB_mk ⟨h1, h2, h3⟩)
        go_enter Tryz.func88, Tryz.ntmps88
        go_wp2
        go_ret
        exact ⟨by rw [H.out]; rfl, by (repeat (first | exact Below.refl _ _ | refine bl_drewN ?_ | refine bl_drew ?_ | refine bl_alloc ?_ _ | refine Below.setCell ?_ (by (first | (simp; done) | (simp; omega) | omega)) _ | refine bl_step (by assumption) ?_))⟩
      · have H := hidden (fixB_not (lo := a) (hi := b) (by omega))
        go_enter Tryz.func88, Tryz.ntmps88
        go_wp2
        go_ret
        exact ⟨by rw [H.out]; rfl, by (repeat (first | exact Below.refl _ _ | refine bl_drewN ?_ | refine bl_drew ?_ | refine bl_alloc ?_ _ | refine Below.setCell ?_ (by (first | (simp; done) | (simp; omega) | omega)) _ | refine bl_step (by assumption) ?_))⟩
    · have H := hidden (fixB_not (lo := a) (hi := b) (by omega))
      go_enter Tryz.func88, Tryz.ntmps88
      go_wp2
      go_ret
      exact ⟨by rw [H.out]; rfl, by (repeat (first | exact Below.refl _ _ | refine bl_drewN ?_ | refine bl_drew ?_ | refine bl_alloc ?_ _ | refine Below.setCell ?_ (by (first | (simp; done) | (simp; omega) | omega)) _ | refine bl_step (by assumption) ?_))⟩
  · have H := hidden (fixB_not (lo := a) (hi := b) (by omega))
    go_enter Tryz.func88, Tryz.ntmps88
    go_wp2
    go_ret
    exact ⟨by rw [H.out]; rfl, by (repeat (first | exact Below.refl _ _ | refine bl_drewN ?_ | refine bl_drew ?_ | refine bl_alloc ?_ _ | refine Below.setCell ?_ (by (first | (simp; done) | (simp; omega) | omega)) _ | refine bl_step (by assumption) ?_))⟩

set_option maxHeartbeats 400000 in
theorem both_any (a b c d : Int) (w : World) :
    Calls Tryz.prog 84 #[.agg #[.int .i64 (a), .int .i64 (b)], .agg #[.int .i64 (c), .int .i64 (d)]] w fun e w' => e = .returned (.bool (fixB a b && fixB c d)) ∧ Below w.heap.size w w' := by
  cases h1 : fixB a b <;> cases h2 : fixB c d
  all_goals
   go_enter Tryz.func84, Tryz.ntmps84
   go_wp2_with (go_at_call 88; refine (fvalid_any _ _ _).mono ?_; rintro e w' ⟨rfl, hb⟩; (try replace hb := below_undrew hb); (try replace hb := below_undrewN hb); obtain ⟨hcell, hfroz⟩ := bcell hb; have hz := hb.size; (try simp at hz); (try (have z6 := Nat.lt_of_lt_of_le z7 hz)); (try (have z7 := Nat.lt_of_lt_of_le z8 hz)); (try (have z8 := Nat.lt_of_lt_of_le z9 hz)); (try (have z9 := Nat.lt_of_lt_of_le (Nat.lt_succ_self _) hz)); (try (have z0 : w.heap.size < w'.heap.size := by omega)); (try (have z1 : w.heap.size + 1 < w'.heap.size := by omega)); (try (have z2 : w.heap.size + 1 + 1 < w'.heap.size := by omega)); (try (have z3 : w.heap.size + 1 + 1 + 1 < w'.heap.size := by omega)))
   go_ret
   exact ⟨rfl, by (repeat (first | exact Below.refl _ _ | refine bl_drewN ?_ | refine bl_drew ?_ | refine bl_alloc ?_ _ | refine Below.setCell ?_ (by (first | (simp; done) | (simp; omega) | omega)) _ | refine bl_step (by assumption) ?_))⟩

end Go.Proofs.YtjceofmhodcefaaGreat

namespace Go.Proofs.YtjceofmhodcefaaGreat
open Go.RowKit

end Go.Proofs.YtjceofmhodcefaaGreat

namespace Go.Proofs.YtjceofmhodcefaaGreat
open Go.RowKit

def zeroB (lo hi : Int) : Bool := decide (lo ≤ 0) && decide (0 ≤ hi)
theorem zeroB_f {lo hi : Int} (h : zeroB lo hi = false) : 0 < lo ∨ hi < 0 := by
  by_cases a : lo ≤ 0
  · by_cases b : 0 ≤ hi
    · simp [zeroB, a, b] at h
    · omega
  · omega
theorem zeroB_mk {lo hi : Int} (h : lo ≤ 0 ∧ 0 ≤ hi) : zeroB lo hi = true := by simp [zeroB]; omega
theorem zeroB_not {lo hi : Int} (h : ¬ (lo ≤ 0 ∧ 0 ≤ hi)) : zeroB lo hi = false := by simp [zeroB]; omega

theorem fzero_any (a b : Int) (w : World) :
    Calls Tryz.prog 86 #[.agg #[.int .i64 (a), .int .i64 (b)]] w fun e w' => e = .returned (.bool (zeroB a b)) ∧ Below w.heap.size w w' := by
  by_cases h1 : a ≤ 0
  · by_cases h2 : 0 ≤ b
    · have H := hidden (zeroB_mk ⟨h1, h2⟩)
      go_enter Tryz.func86, Tryz.ntmps86
      go_wp2
      go_ret
      exact ⟨by rw [H.out]; rfl, by (repeat (first | exact Below.refl _ _ | refine bl_drewN ?_ | refine bl_drew ?_ | refine bl_alloc ?_ _ | refine Below.setCell ?_ (by (first | (simp; done) | (simp; omega) | omega)) _ | refine bl_step (by assumption) ?_))⟩
    · have H := hidden (zeroB_not (lo := a) (hi := b) (by omega))
      go_enter Tryz.func86, Tryz.ntmps86
      go_wp2
      go_ret
      exact ⟨by rw [H.out]; rfl, by (repeat (first | exact Below.refl _ _ | refine bl_drewN ?_ | refine bl_drew ?_ | refine bl_alloc ?_ _ | refine Below.setCell ?_ (by (first | (simp; done) | (simp; omega) | omega)) _ | refine bl_step (by assumption) ?_))⟩
  · have H := hidden (zeroB_not (lo := a) (hi := b) (by omega))
    go_enter Tryz.func86, Tryz.ntmps86
    go_wp2
    go_ret
    exact ⟨by rw [H.out]; rfl, by (repeat (first | exact Below.refl _ _ | refine bl_drewN ?_ | refine bl_drew ?_ | refine bl_alloc ?_ _ | refine Below.setCell ?_ (by (first | (simp; done) | (simp; omega) | omega)) _ | refine bl_step (by assumption) ?_))⟩

end Go.Proofs.YtjceofmhodcefaaGreat

namespace Go.Proofs.YtjceofmhodcefaaGreat
open Go.RowKit

theorem wfloor_any (a b d : Int) (w : World) (h : wideB a b = true) (hd : d ≠ 0) (d1 : -9223372036854775808 ≤ d) (d2 : d ≤ 9223372036854775807) :
    Calls Tryz.prog 44 #[.agg #[.int .i64 (a), .int .i64 (b)], .int .i64 d] w fun e w' => e = .returned (fitT (fl (a * 1152921504606846976 + b) d)) ∧ Below w.heap.size w w' := by
  have V := fun w => quo_down a b d w h hd d1 d2
  generalize fl (a * 1152921504606846976 + b) d = X at *
  by_cases hf : -9223372036854775808 ≤ X ∧ X ≤ 9223372036854775807
  · rw [fitT_ok X hf] at *
    replace V := hidden V
    go_enter Tryz.func44, Tryz.ntmps44
    go_wp2_with (go_at_call 72; refine (V.out _).mono ?_; rintro e w' ⟨rfl, hb⟩; (try replace hb := below_undrew hb); (try replace hb := below_undrewN hb); obtain ⟨hcell, hfroz⟩ := bcell hb; have hz := hb.size; (try simp at hz); (try (have z6 := Nat.lt_of_lt_of_le z7 hz)); (try (have z7 := Nat.lt_of_lt_of_le z8 hz)); (try (have z8 := Nat.lt_of_lt_of_le z9 hz)); (try (have z9 := Nat.lt_of_lt_of_le (Nat.lt_succ_self _) hz)); (try (have z0 : w.heap.size < w'.heap.size := by omega)); (try (have z1 : w.heap.size + 1 < w'.heap.size := by omega)); (try (have z2 : w.heap.size + 1 + 1 < w'.heap.size := by omega)); (try (have z3 : w.heap.size + 1 + 1 + 1 < w'.heap.size := by omega)))
    go_ret2
    exact ⟨rfl, by (repeat (first | exact Below.refl _ _ | refine bl_drewN ?_ | refine bl_drew ?_ | refine bl_alloc ?_ _ | refine Below.setCell ?_ (by (first | (simp; done) | (simp; omega) | omega)) _ | refine bl_step (by assumption) ?_))⟩
  · rw [fitT_no X hf] at *
    replace V := hidden V
    go_enter Tryz.func44, Tryz.ntmps44
    go_wp2_with (go_at_call 72; refine (V.out _).mono ?_; rintro e w' ⟨rfl, hb⟩; (try replace hb := below_undrew hb); (try replace hb := below_undrewN hb); obtain ⟨hcell, hfroz⟩ := bcell hb; have hz := hb.size; (try simp at hz); (try (have z6 := Nat.lt_of_lt_of_le z7 hz)); (try (have z7 := Nat.lt_of_lt_of_le z8 hz)); (try (have z8 := Nat.lt_of_lt_of_le z9 hz)); (try (have z9 := Nat.lt_of_lt_of_le (Nat.lt_succ_self _) hz)); (try (have z0 : w.heap.size < w'.heap.size := by omega)); (try (have z1 : w.heap.size + 1 < w'.heap.size := by omega)); (try (have z2 : w.heap.size + 1 + 1 < w'.heap.size := by omega)); (try (have z3 : w.heap.size + 1 + 1 + 1 < w'.heap.size := by omega)))
    go_ret2
    exact ⟨rfl, by (repeat (first | exact Below.refl _ _ | refine bl_drewN ?_ | refine bl_drew ?_ | refine bl_alloc ?_ _ | refine Below.setCell ?_ (by (first | (simp; done) | (simp; omega) | omega)) _ | refine bl_step (by assumption) ?_))⟩

theorem wceil_any (a b d : Int) (w : World) (h : wideB a b = true) (hd : d ≠ 0) (d1 : -9223372036854775808 ≤ d) (d2 : d ≤ 9223372036854775807) :
    Calls Tryz.prog 95 #[.agg #[.int .i64 (a), .int .i64 (b)], .int .i64 d] w fun e w' => e = .returned (fitT (ce (a * 1152921504606846976 + b) d)) ∧ Below w.heap.size w w' := by
  have V := fun w => quo_up a b d w h hd d1 d2
  generalize ce (a * 1152921504606846976 + b) d = X at *
  by_cases hf : -9223372036854775808 ≤ X ∧ X ≤ 9223372036854775807
  · rw [fitT_ok X hf] at *
    replace V := hidden V
    go_enter Tryz.func95, Tryz.ntmps95
    go_wp2_with (go_at_call 72; refine (V.out _).mono ?_; rintro e w' ⟨rfl, hb⟩; (try replace hb := below_undrew hb); (try replace hb := below_undrewN hb); obtain ⟨hcell, hfroz⟩ := bcell hb; have hz := hb.size; (try simp at hz); (try (have z6 := Nat.lt_of_lt_of_le z7 hz)); (try (have z7 := Nat.lt_of_lt_of_le z8 hz)); (try (have z8 := Nat.lt_of_lt_of_le z9 hz)); (try (have z9 := Nat.lt_of_lt_of_le (Nat.lt_succ_self _) hz)); (try (have z0 : w.heap.size < w'.heap.size := by omega)); (try (have z1 : w.heap.size + 1 < w'.heap.size := by omega)); (try (have z2 : w.heap.size + 1 + 1 < w'.heap.size := by omega)); (try (have z3 : w.heap.size + 1 + 1 + 1 < w'.heap.size := by omega)))
    go_ret2
    exact ⟨rfl, by (repeat (first | exact Below.refl _ _ | refine bl_drewN ?_ | refine bl_drew ?_ | refine bl_alloc ?_ _ | refine Below.setCell ?_ (by (first | (simp; done) | (simp; omega) | omega)) _ | refine bl_step (by assumption) ?_))⟩
  · rw [fitT_no X hf] at *
    replace V := hidden V
    go_enter Tryz.func95, Tryz.ntmps95
    go_wp2_with (go_at_call 72; refine (V.out _).mono ?_; rintro e w' ⟨rfl, hb⟩; (try replace hb := below_undrew hb); (try replace hb := below_undrewN hb); obtain ⟨hcell, hfroz⟩ := bcell hb; have hz := hb.size; (try simp at hz); (try (have z6 := Nat.lt_of_lt_of_le z7 hz)); (try (have z7 := Nat.lt_of_lt_of_le z8 hz)); (try (have z8 := Nat.lt_of_lt_of_le z9 hz)); (try (have z9 := Nat.lt_of_lt_of_le (Nat.lt_succ_self _) hz)); (try (have z0 : w.heap.size < w'.heap.size := by omega)); (try (have z1 : w.heap.size + 1 < w'.heap.size := by omega)); (try (have z2 : w.heap.size + 1 + 1 < w'.heap.size := by omega)); (try (have z3 : w.heap.size + 1 + 1 + 1 < w'.heap.size := by omega)))
    go_ret2
    exact ⟨rfl, by (repeat (first | exact Below.refl _ _ | refine bl_drewN ?_ | refine bl_drew ?_ | refine bl_alloc ?_ _ | refine Below.setCell ?_ (by (first | (simp; done) | (simp; omega) | omega)) _ | refine bl_step (by assumption) ?_))⟩

theorem enc_parts (x n d : Int) (hx0 : -9223372036854775808 ≤ x) (hx1 : x ≤ 9223372036854775807) (hn0 : -9223372036854775808 ≤ n) (hn1 : n ≤ 9223372036854775807) (hd : d ≠ 0) (d1 : -9223372036854775808 ≤ d) (d2 : d ≤ 9223372036854775807)
    (p0 : -1267650600228229401496703205376 ≤ x * n) (p1 : x * n ≤ 1267650600228229401496703205376) : ∃ a b : Int,
    (∀ w, Calls Tryz.prog 42 #[.int .i64 x, .int .i64 n] w fun r w' => r = .returned (.tuple #[.agg #[.int .i64 (a), .int .i64 (b)], .int .i64 (0)]) ∧ Below w.heap.size w w') ∧
    (∀ w, Calls Tryz.prog 44 #[.agg #[.int .i64 (a), .int .i64 (b)], .int .i64 d] w fun e w' => e = .returned (fitT (fl (x * n) d)) ∧ Below w.heap.size w w') ∧
    (∀ w, Calls Tryz.prog 95 #[.agg #[.int .i64 (a), .int .i64 (b)], .int .i64 d] w fun e w' => e = .returned (fitT (ce (x * n) d)) ∧ Below w.heap.size w w') := by
  have hv : fitsW (x * n) = true := by simp [fitsW]; omega
  have hw : wideB (x * n / 1152921504606846976) (x * n % 1152921504606846976) = true := wideB_mk (by omega)
  have e : x * n / 1152921504606846976 * 1152921504606846976 + x * n % 1152921504606846976 = x * n := by omega
  refine ⟨_, _, fun w => product_ok x n w hx0 hx1 hn0 hn1 hv, fun w => ?_, fun w => ?_⟩
  · have := wfloor_any _ _ d w hw hd d1 d2
    rw [e] at this; exact this
  · have := wceil_any _ _ d w hw hd d1 d2
    rw [e] at this; exact this

theorem enclose_ok (x n d L U : Int) (w : World) (hx0 : -9223372036854775808 ≤ x) (hx1 : x ≤ 9223372036854775807) (hn0 : -9223372036854775808 ≤ n) (hn1 : n ≤ 9223372036854775807) (hd : d ≠ 0) (d1 : -9223372036854775808 ≤ d) (d2 : d ≤ 9223372036854775807)
    (p0 : -1267650600228229401496703205376 ≤ x * n) (p1 : x * n ≤ 1267650600228229401496703205376) (hL : fl (x * n) d = L) (hU : ce (x * n) d = U)
    (fL : -9223372036854775808 ≤ L ∧ L ≤ 9223372036854775807) (fU : -9223372036854775808 ≤ U ∧ U ≤ 9223372036854775807) :
    Calls Tryz.prog 87 #[.int .i64 x, .int .i64 n, .int .i64 d] w fun e w' => e = .returned (.tuple #[.int .i64 L, .int .i64 U, .int .i64 0]) ∧ Below w.heap.size w w' := by
  obtain ⟨a, b, P, F, C⟩ := enc_parts x n d hx0 hx1 hn0 hn1 hd d1 d2 p0 p1
  rw [hL, fitT_ok L fL] at F
  rw [hU, fitT_ok U fU] at C
  replace P := hidden P
  replace F := hidden F
  replace C := hidden C
  clear hL hU p0 p1
  go_enter Tryz.func87, Tryz.ntmps87
  go_wp2_with ((first | (go_at_call 42; refine (P.out _).mono ?_; rintro e w' ⟨rfl, hb⟩; have nm0 := trivial) | (go_at_call 44; refine (F.out _).mono ?_; rintro e w' ⟨rfl, hb⟩; have nm1 := trivial) | (go_at_call 95; refine (C.out _).mono ?_; rintro e w' ⟨rfl, hb⟩; have nm2 := trivial)); (try replace hb := below_undrew hb); (try replace hb := below_undrewN hb); obtain ⟨hcell, hfroz⟩ := bcell hb; have hz := hb.size; (try simp at hz); (try (have z6 := Nat.lt_of_lt_of_le z7 hz)); (try (have z7 := Nat.lt_of_lt_of_le z8 hz)); (try (have z8 := Nat.lt_of_lt_of_le z9 hz)); (try (have z9 := Nat.lt_of_lt_of_le (Nat.lt_succ_self _) hz)); (try (have z0 : w.heap.size < w'.heap.size := by omega)); (try (have z1 : w.heap.size + 1 < w'.heap.size := by omega)); (try (have z2 : w.heap.size + 1 + 1 < w'.heap.size := by omega)); (try (have z3 : w.heap.size + 1 + 1 + 1 < w'.heap.size := by omega)); (try (have y1 : w1.heap.size < w'.heap.size := by omega)); (try (have y2 : w2.heap.size < w'.heap.size := by omega)); (first | (clear nm0; obtain ⟨w1, rfl⟩ : ∃ v, v = w' := ⟨_, rfl⟩) | (clear nm1; obtain ⟨w2, rfl⟩ : ∃ v, v = w' := ⟨_, rfl⟩) | (clear nm2)))
  exact bodyPost_ret (v := .tuple #[.int .i64 L, .int .i64 U, .int .i64 0]) (by first | (simp only [results, Tryz.results87]; go_simp; done) | simp [results, Tryz.results87, go_sem, *]) rfl ⟨rfl, by (repeat (first | exact Below.refl _ _ | refine bl_drewN ?_ | refine bl_drew ?_ | refine bl_alloc ?_ _ | refine Below.setCell ?_ (by (first | (simp; done) | (simp; omega) | omega)) _ | refine bl_step (by assumption) ?_))⟩

theorem enclose_no (x n d L U : Int) (w : World) (hx0 : -9223372036854775808 ≤ x) (hx1 : x ≤ 9223372036854775807) (hn0 : -9223372036854775808 ≤ n) (hn1 : n ≤ 9223372036854775807) (hd : d ≠ 0) (d1 : -9223372036854775808 ≤ d) (d2 : d ≤ 9223372036854775807)
    (p0 : -1267650600228229401496703205376 ≤ x * n) (p1 : x * n ≤ 1267650600228229401496703205376) (hL : fl (x * n) d = L) (hU : ce (x * n) d = U)
    (f : ¬ ((-9223372036854775808 ≤ L ∧ L ≤ 9223372036854775807) ∧ (-9223372036854775808 ≤ U ∧ U ≤ 9223372036854775807))) :
    Calls Tryz.prog 87 #[.int .i64 x, .int .i64 n, .int .i64 d] w fun e w' => (∃ p q : Int, e = .returned (.tuple #[.int .i64 p, .int .i64 q, .int .i64 5])) ∧ Below w.heap.size w w' := by
  obtain ⟨a, b, P, F, C⟩ := enc_parts x n d hx0 hx1 hn0 hn1 hd d1 d2 p0 p1
  rw [hL] at F
  rw [hU] at C
  by_cases fL : -9223372036854775808 ≤ L ∧ L ≤ 9223372036854775807
  · have fU : ¬ (-9223372036854775808 ≤ U ∧ U ≤ 9223372036854775807) := fun h => f ⟨fL, h⟩
    rw [fitT_ok L fL] at F
    rw [fitT_no U fU] at C
    replace P := hidden P
    replace F := hidden F
    replace C := hidden C
    clear hL hU p0 p1 f fU
    go_enter Tryz.func87, Tryz.ntmps87
    go_wp2_with ((first | (go_at_call 42; refine (P.out _).mono ?_; rintro e w' ⟨rfl, hb⟩; have nm0 := trivial) | (go_at_call 44; refine (F.out _).mono ?_; rintro e w' ⟨rfl, hb⟩; have nm1 := trivial) | (go_at_call 95; refine (C.out _).mono ?_; rintro e w' ⟨rfl, hb⟩; have nm2 := trivial)); (try replace hb := below_undrew hb); (try replace hb := below_undrewN hb); obtain ⟨hcell, hfroz⟩ := bcell hb; have hz := hb.size; (try simp at hz); (try (have z6 := Nat.lt_of_lt_of_le z7 hz)); (try (have z7 := Nat.lt_of_lt_of_le z8 hz)); (try (have z8 := Nat.lt_of_lt_of_le z9 hz)); (try (have z9 := Nat.lt_of_lt_of_le (Nat.lt_succ_self _) hz)); (try (have z0 : w.heap.size < w'.heap.size := by omega)); (try (have z1 : w.heap.size + 1 < w'.heap.size := by omega)); (try (have z2 : w.heap.size + 1 + 1 < w'.heap.size := by omega)); (try (have z3 : w.heap.size + 1 + 1 + 1 < w'.heap.size := by omega)); (try (have y1 : w1.heap.size < w'.heap.size := by omega)); (try (have y2 : w2.heap.size < w'.heap.size := by omega)); (first | (clear nm0; obtain ⟨w1, rfl⟩ : ∃ v, v = w' := ⟨_, rfl⟩) | (clear nm1; obtain ⟨w2, rfl⟩ : ∃ v, v = w' := ⟨_, rfl⟩) | (clear nm2)))
    exact bodyPost_ret (v := .tuple #[.int .i64 L, .int .i64 0, .int .i64 5]) (by first | (simp only [results, Tryz.results87]; go_simp; done) | simp [results, Tryz.results87, go_sem, *]) rfl ⟨⟨_, _, rfl⟩, by (repeat (first | exact Below.refl _ _ | refine bl_drewN ?_ | refine bl_drew ?_ | refine bl_alloc ?_ _ | refine Below.setCell ?_ (by (first | (simp; done) | (simp; omega) | omega)) _ | refine bl_step (by assumption) ?_))⟩
  · rw [fitT_no L fL] at F
    replace P := hidden P
    replace F := hidden F
    clear hL hU p0 p1 f fL C
    go_enter Tryz.func87, Tryz.ntmps87
    go_wp2_with ((first | (go_at_call 42; refine (P.out _).mono ?_; rintro e w' ⟨rfl, hb⟩; have nm0 := trivial) | (go_at_call 44; refine (F.out _).mono ?_; rintro e w' ⟨rfl, hb⟩; have nm1 := trivial)); (try replace hb := below_undrew hb); (try replace hb := below_undrewN hb); obtain ⟨hcell, hfroz⟩ := bcell hb; have hz := hb.size; (try simp at hz); (try (have z6 := Nat.lt_of_lt_of_le z7 hz)); (try (have z7 := Nat.lt_of_lt_of_le z8 hz)); (try (have z8 := Nat.lt_of_lt_of_le z9 hz)); (try (have z9 := Nat.lt_of_lt_of_le (Nat.lt_succ_self _) hz)); (try (have z0 : w.heap.size < w'.heap.size := by omega)); (try (have z1 : w.heap.size + 1 < w'.heap.size := by omega)); (try (have z2 : w.heap.size + 1 + 1 < w'.heap.size := by omega)); (try (have z3 : w.heap.size + 1 + 1 + 1 < w'.heap.size := by omega)); (try (have y1 : w1.heap.size < w'.heap.size := by omega)); (first | (clear nm0; obtain ⟨w1, rfl⟩ : ∃ v, v = w' := ⟨_, rfl⟩) | (clear nm1; obtain ⟨w2, rfl⟩ : ∃ v, v = w' := ⟨_, rfl⟩)))
    exact bodyPost_ret (v := .tuple #[.int .i64 0, .int .i64 0, .int .i64 5]) (by first | (simp only [results, Tryz.results87]; go_simp; done) | simp [results, Tryz.results87, go_sem, *]) rfl ⟨⟨_, _, rfl⟩, by (repeat (first | exact Below.refl _ _ | refine bl_drewN ?_ | refine bl_drew ?_ | refine bl_alloc ?_ _ | refine Below.setCell ?_ (by (first | (simp; done) | (simp; omega) | omega)) _ | refine bl_step (by assumption) ?_))⟩

end Go.Proofs.YtjceofmhodcefaaGreat

namespace Go.Proofs.YtjceofmhodcefaaGreat
open Go.RowKit

end Go.Proofs.YtjceofmhodcefaaGreat

namespace Go.Proofs.YtjceofmhodcefaaGreat
open Go.RowKit

end Go.Proofs.YtjceofmhodcefaaGreat

namespace Go.Proofs.YtjceofmhodcefaaGreat
open Go.RowKit

theorem le_min (x y : Int) : (if y < x then y else x) = min x y := by split <;> omega
theorem le_max (x y : Int) : (if x < y then y else x) = max x y := by split <;> omega
@[go_sem high] theorem run_min_four {P : Program} (w : World) (ts : Array TypeId) (t : TypeId) (k1 k2 k3 k4 : IntKind) (x y z u : Int) :
    (Builtin.min_ ts t #[.int k1 x, .int k2 y, .int k3 z, .int k4 u]).run P w = .ok (.int k1 (min (min (min x y) z) u)) w := by
  rw [← le_min, ← le_min (min x y), ← le_min x y]
  simp [Builtin.min_, Builtin.min2, go_sem]
@[go_sem high] theorem run_max_four {P : Program} (w : World) (ts : Array TypeId) (t : TypeId) (k1 k2 k3 k4 : IntKind) (x y z u : Int) :
    (Builtin.max_ ts t #[.int k1 x, .int k2 y, .int k3 z, .int k4 u]).run P w = .ok (.int k1 (max (max (max x y) z) u)) w := by
  rw [← le_max, ← le_max (max x y), ← le_max x y]
  simp [Builtin.max_, Builtin.max2, go_sem]

end Go.Proofs.YtjceofmhodcefaaGreat

namespace Go.Proofs.YtjceofmhodcefaaGreat
open Go.RowKit

end Go.Proofs.YtjceofmhodcefaaGreat

namespace Go.Proofs.YtjceofmhodcefaaGreat
open Go.RowKit

end Go.Proofs.YtjceofmhodcefaaGreat

namespace Go.Proofs.YtjceofmhodcefaaGreat
open Go.RowKit

end Go.Proofs.YtjceofmhodcefaaGreat
