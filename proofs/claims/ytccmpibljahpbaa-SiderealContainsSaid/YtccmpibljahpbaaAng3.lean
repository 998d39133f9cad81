/- Neg, Sub, Turn and Agree of package angle, each as a contract; the world is below as it was. -/
import Derived.Test.YtccmpibljahpbaaAng2
namespace Go.Proofs.Ytccmpibljahpbaa
open Go.RowKit

theorem quiet_same {P : Program} {f : FuncId} {args : Array Value} {w : World} {n : Nat} {v : Value}
    (h : Calls P f args (w.drewN n) fun e w' => e = .returned v ∧ w.drewN n = w') : Calls P f args (w.drewN n) fun e w'' => e = .returned v ∧ ∃ m, w'' = w.drewN m :=
  h.mono fun _ _ ⟨he, hm⟩ => ⟨he, n, hm.symm⟩
theorem quiet_drew {P : Program} {f : FuncId} {args : Array Value} {w : World} {n : Nat} {v : Value}
    (h : Calls P f args (w.drewN n) fun e w' => e = .returned v ∧ ∃ m, (w.drewN n).drewN m = w') : Calls P f args (w.drewN n) fun e w'' => e = .returned v ∧ ∃ m, w'' = w.drewN m :=
  h.mono fun _ _ ⟨he, m, hm⟩ => ⟨he, n + m, by rw [← hm, World.drewN_drewN]⟩

set_option maxHeartbeats 400000 in
theorem neg_ok (a b : Int) (w : World) (h1 : arcB a b = true) :
    Calls Try.prog 44 #[.agg #[.int .i64 (a), .int .i64 (b)]] w fun e w' => e = .returned (.tuple #[.agg #[.int .i64 (-b), .int .i64 (-a)], .int .i64 (0)]) ∧ Below w.heap.size w w' := by
  have e1 := arcB_t h1; have e3 := e1.1; have e4 := e1.2.1; have e5 := e1.2.2; clear e1
  have H3 := hidden (fitsB_mk (n := -b) (by omega))
  have H4 := hidden (fitsB_mk (n := -a) (by omega))
  go_enter Try.func44, Try.ntmps44
  go_wp2_with (first | (go_at_call 39; refine (valid_any _ _ _).mono ?_; rintro e w' ⟨rfl, hb⟩; (try replace hb := below_undrew hb); (try replace hb := below_undrewN hb); obtain ⟨hcell, hfroz⟩ := bcell hb; have hz := hb.size; (try simp at hz); (try (have z6 := Nat.lt_of_lt_of_le z7 hz)); (try (have z7 := Nat.lt_of_lt_of_le z8 hz)); (try (have z8 := Nat.lt_of_lt_of_le z9 hz)); (try (have z9 := Nat.lt_of_lt_of_le (Nat.lt_succ_self _) hz)); (try (have z0 : w.heap.size < w'.heap.size := by omega)); (try (have z1 : w.heap.size + 1 < w'.heap.size := by omega)); (try (have z2 : w.heap.size + 1 + 1 < w'.heap.size := by omega)); (try (have z3 : w.heap.size + 1 + 1 + 1 < w'.heap.size := by omega))) | (go_at_call 47; refine (result_ok _ _ _ H3.out H4.out).mono ?_; rintro e w' ⟨rfl, hb⟩; (try replace hb := below_undrew hb); (try replace hb := below_undrewN hb); obtain ⟨hcell, hfroz⟩ := bcell hb; have hz := hb.size; (try simp at hz); (try (have z6 := Nat.lt_of_lt_of_le z7 hz)); (try (have z7 := Nat.lt_of_lt_of_le z8 hz)); (try (have z8 := Nat.lt_of_lt_of_le z9 hz)); (try (have z9 := Nat.lt_of_lt_of_le (Nat.lt_succ_self _) hz)); (try (have z0 : w.heap.size < w'.heap.size := by omega)); (try (have z1 : w.heap.size + 1 < w'.heap.size := by omega)); (try (have z2 : w.heap.size + 1 + 1 < w'.heap.size := by omega)); (try (have z3 : w.heap.size + 1 + 1 + 1 < w'.heap.size := by omega))))
  exact bodyPost_ret (v := .tuple #[.agg #[.int .i64 (-b), .int .i64 (-a)], .int .i64 (0)]) (by first | (simp only [results, Try.results44]; go_simp; done) | simp [results, Try.results44, go_sem, *]) rfl ⟨rfl, by (repeat (first | exact Below.refl _ _ | refine bl_drewN ?_ | refine bl_drew ?_ | refine bl_alloc ?_ _ | refine Below.setCell ?_ (by (first | (simp; done) | (simp; omega) | omega)) _ | refine bl_step (by assumption) ?_))⟩

set_option maxHeartbeats 400000 in
theorem neg_arg (a b : Int) (w : World) (h1 : arcB a b = false) :
    Calls Try.prog 44 #[.agg #[.int .i64 (a), .int .i64 (b)]] w fun e w' => e = .returned (.tuple #[.agg #[.int .i64 (0), .int .i64 (0)], .int .i64 (1)]) ∧ Below w.heap.size w w' := by
  go_enter Try.func44, Try.ntmps44
  go_wp2_with (go_at_call 39; refine (valid_any _ _ _).mono ?_; rintro e w' ⟨rfl, hb⟩; (try replace hb := below_undrew hb); (try replace hb := below_undrewN hb); obtain ⟨hcell, hfroz⟩ := bcell hb; have hz := hb.size; (try simp at hz); (try (have z6 := Nat.lt_of_lt_of_le z7 hz)); (try (have z7 := Nat.lt_of_lt_of_le z8 hz)); (try (have z8 := Nat.lt_of_lt_of_le z9 hz)); (try (have z9 := Nat.lt_of_lt_of_le (Nat.lt_succ_self _) hz)); (try (have z0 : w.heap.size < w'.heap.size := by omega)); (try (have z1 : w.heap.size + 1 < w'.heap.size := by omega)); (try (have z2 : w.heap.size + 1 + 1 < w'.heap.size := by omega)); (try (have z3 : w.heap.size + 1 + 1 + 1 < w'.heap.size := by omega)))
  exact bodyPost_ret (v := .tuple #[.agg #[.int .i64 (0), .int .i64 (0)], .int .i64 (1)]) (by first | (simp only [results, Try.results44]; go_simp; done) | simp [results, Try.results44, go_sem, *]) rfl ⟨rfl, by (repeat (first | exact Below.refl _ _ | refine bl_drewN ?_ | refine bl_drew ?_ | refine bl_alloc ?_ _ | refine Below.setCell ?_ (by (first | (simp; done) | (simp; omega) | omega)) _ | refine bl_step (by assumption) ?_))⟩

set_option maxHeartbeats 400000 in
theorem sub_arg2 (a b c d : Int) (w : World) (h1 : arcB c d = false) :
    Calls Try.prog 25 #[.agg #[.int .i64 (a), .int .i64 (b)], .agg #[.int .i64 (c), .int .i64 (d)]] w fun e w' => e = .returned (.tuple #[.agg #[.int .i64 (0), .int .i64 (0)], .int .i64 (1)]) ∧ Below w.heap.size w w' := by
  go_enter Try.func25, Try.ntmps25
  go_wp2_with (go_at_call 44; refine (neg_arg _ _ _ h1).mono ?_; rintro e w' ⟨rfl, hb⟩; (try replace hb := below_undrew hb); (try replace hb := below_undrewN hb); obtain ⟨hcell, hfroz⟩ := bcell hb; have hz := hb.size; (try simp at hz); (try (have z6 := Nat.lt_of_lt_of_le z7 hz)); (try (have z7 := Nat.lt_of_lt_of_le z8 hz)); (try (have z8 := Nat.lt_of_lt_of_le z9 hz)); (try (have z9 := Nat.lt_of_lt_of_le (Nat.lt_succ_self _) hz)); (try (have z0 : w.heap.size < w'.heap.size := by omega)); (try (have z1 : w.heap.size + 1 < w'.heap.size := by omega)); (try (have z2 : w.heap.size + 1 + 1 < w'.heap.size := by omega)); (try (have z3 : w.heap.size + 1 + 1 + 1 < w'.heap.size := by omega)))
  exact bodyPost_ret (v := .tuple #[.agg #[.int .i64 (0), .int .i64 (0)], .int .i64 (1)]) (by first | (simp only [results, Try.results25]; go_simp; done) | simp [results, Try.results25, go_sem, *]) rfl ⟨rfl, by (repeat (first | exact Below.refl _ _ | refine bl_drewN ?_ | refine bl_drew ?_ | refine bl_alloc ?_ _ | refine Below.setCell ?_ (by (first | (simp; done) | (simp; omega) | omega)) _ | refine bl_step (by assumption) ?_))⟩

theorem neg_valid {a b : Int} (h : arcB a b = true) : arcB (-b) (-a) = true := by
  have := arcB_t h; exact arcB_mk (by omega)

set_option maxHeartbeats 400000 in
theorem sub_arg1 (a b c d : Int) (w : World) (h2 : arcB a b = false) (h1 : arcB c d = true) :
    Calls Try.prog 25 #[.agg #[.int .i64 (a), .int .i64 (b)], .agg #[.int .i64 (c), .int .i64 (d)]] w fun e w' => e = .returned (.tuple #[.agg #[.int .i64 (0), .int .i64 (0)], .int .i64 (1)]) ∧ Below w.heap.size w w' := by
  have H1 := hidden h1
  have H2 := hidden h2
  clear h1 h2
  go_enter Try.func25, Try.ntmps25
  go_wp2_with (first | (go_at_call 44; refine (neg_ok _ _ _ H1.out).mono ?_; rintro e w' ⟨rfl, hb⟩; (try replace hb := below_undrew hb); (try replace hb := below_undrewN hb); obtain ⟨hcell, hfroz⟩ := bcell hb; have hz := hb.size; (try simp at hz); (try (have z6 := Nat.lt_of_lt_of_le z7 hz)); (try (have z7 := Nat.lt_of_lt_of_le z8 hz)); (try (have z8 := Nat.lt_of_lt_of_le z9 hz)); (try (have z9 := Nat.lt_of_lt_of_le (Nat.lt_succ_self _) hz)); (try (have z0 : w.heap.size < w'.heap.size := by omega)); (try (have z1 : w.heap.size + 1 < w'.heap.size := by omega)); (try (have z2 : w.heap.size + 1 + 1 < w'.heap.size := by omega)); (try (have z3 : w.heap.size + 1 + 1 + 1 < w'.heap.size := by omega))) | (go_at_call 40; refine (add_arg _ _ _ _ _ (Or.inl H2.out)).mono ?_; rintro e w' ⟨rfl, hb⟩; (try replace hb := below_undrew hb); (try replace hb := below_undrewN hb); obtain ⟨hcell, hfroz⟩ := bcell hb; have hz := hb.size; (try simp at hz); (try (have z6 := Nat.lt_of_lt_of_le z7 hz)); (try (have z7 := Nat.lt_of_lt_of_le z8 hz)); (try (have z8 := Nat.lt_of_lt_of_le z9 hz)); (try (have z9 := Nat.lt_of_lt_of_le (Nat.lt_succ_self _) hz)); (try (have z0 : w.heap.size < w'.heap.size := by omega)); (try (have z1 : w.heap.size + 1 < w'.heap.size := by omega)); (try (have z2 : w.heap.size + 1 + 1 < w'.heap.size := by omega)); (try (have z3 : w.heap.size + 1 + 1 + 1 < w'.heap.size := by omega))))
  exact bodyPost_ret (v := .tuple #[.agg #[.int .i64 (0), .int .i64 (0)], .int .i64 (1)]) (by first | (simp only [results, Try.results25]; go_simp; done) | simp [results, Try.results25, go_sem, *]) rfl ⟨rfl, by (repeat (first | exact Below.refl _ _ | refine bl_drewN ?_ | refine bl_drew ?_ | refine bl_alloc ?_ _ | refine Below.setCell ?_ (by (first | (simp; done) | (simp; omega) | omega)) _ | refine bl_step (by assumption) ?_))⟩

set_option maxHeartbeats 400000 in
theorem sub_ok (a b c d : Int) (w : World) (h1 : arcB a b = true) (h2 : arcB c d = true) (h3 : fitsB (a - d) = true) (h4 : fitsB (b - c) = true) :
    Calls Try.prog 25 #[.agg #[.int .i64 (a), .int .i64 (b)], .agg #[.int .i64 (c), .int .i64 (d)]] w fun e w' => e = .returned (.tuple #[.agg #[.int .i64 (a - d), .int .i64 (b - c)], .int .i64 (0)]) ∧ Below w.heap.size w w' := by
  have H1 := hidden h1
  have H2 := hidden h2
  have H3 := hidden h3
  have H4 := hidden h4
  clear h1 h2 h3 h4
  go_enter Try.func25, Try.ntmps25
  go_wp2_with (first | (go_at_call 44; refine (neg_ok _ _ _ H2.out).mono ?_; rintro e w' ⟨rfl, hb⟩; (try replace hb := below_undrew hb); (try replace hb := below_undrewN hb); obtain ⟨hcell, hfroz⟩ := bcell hb; have hz := hb.size; (try simp at hz); (try (have z6 := Nat.lt_of_lt_of_le z7 hz)); (try (have z7 := Nat.lt_of_lt_of_le z8 hz)); (try (have z8 := Nat.lt_of_lt_of_le z9 hz)); (try (have z9 := Nat.lt_of_lt_of_le (Nat.lt_succ_self _) hz)); (try (have z0 : w.heap.size < w'.heap.size := by omega)); (try (have z1 : w.heap.size + 1 < w'.heap.size := by omega)); (try (have z2 : w.heap.size + 1 + 1 < w'.heap.size := by omega)); (try (have z3 : w.heap.size + 1 + 1 + 1 < w'.heap.size := by omega))) | (go_at_call 40; refine (add_ok _ _ _ _ _ H1.out (neg_valid H2.out) ?_ ?_).mono ?_; (rw [← Int.sub_eq_add_neg]; exact H3.out); (rw [← Int.sub_eq_add_neg]; exact H4.out); rintro e w' ⟨rfl, hb⟩; rw [← Int.sub_eq_add_neg, ← Int.sub_eq_add_neg]; (try replace hb := below_undrew hb); (try replace hb := below_undrewN hb); obtain ⟨hcell, hfroz⟩ := bcell hb; have hz := hb.size; (try simp at hz); (try (have z6 := Nat.lt_of_lt_of_le z7 hz)); (try (have z7 := Nat.lt_of_lt_of_le z8 hz)); (try (have z8 := Nat.lt_of_lt_of_le z9 hz)); (try (have z9 := Nat.lt_of_lt_of_le (Nat.lt_succ_self _) hz)); (try (have z0 : w.heap.size < w'.heap.size := by omega)); (try (have z1 : w.heap.size + 1 < w'.heap.size := by omega)); (try (have z2 : w.heap.size + 1 + 1 < w'.heap.size := by omega)); (try (have z3 : w.heap.size + 1 + 1 + 1 < w'.heap.size := by omega))))
  exact bodyPost_ret (v := .tuple #[.agg #[.int .i64 (a - d), .int .i64 (b - c)], .int .i64 (0)]) (by first | (simp only [results, Try.results25]; go_simp; done) | simp [results, Try.results25, go_sem, *]) rfl ⟨rfl, by (repeat (first | exact Below.refl _ _ | refine bl_drewN ?_ | refine bl_drew ?_ | refine bl_alloc ?_ _ | refine Below.setCell ?_ (by (first | (simp; done) | (simp; omega) | omega)) _ | refine bl_step (by assumption) ?_))⟩

set_option maxHeartbeats 400000 in
theorem sub_big (a b c d : Int) (w : World) (h1 : arcB a b = true) (h2 : arcB c d = true) (h3 : fitsB (a - d) = false ∨ fitsB (b - c) = false) :
    Calls Try.prog 25 #[.agg #[.int .i64 (a), .int .i64 (b)], .agg #[.int .i64 (c), .int .i64 (d)]] w fun e w' => e = .returned (.tuple #[.agg #[.int .i64 (0), .int .i64 (0)], .int .i64 (5)]) ∧ Below w.heap.size w w' := by
  have H1 := hidden h1
  have H2 := hidden h2
  have H3 := hidden h3
  clear h1 h2 h3
  go_enter Try.func25, Try.ntmps25
  go_wp2_with (first | (go_at_call 44; refine (neg_ok _ _ _ H2.out).mono ?_; rintro e w' ⟨rfl, hb⟩; (try replace hb := below_undrew hb); (try replace hb := below_undrewN hb); obtain ⟨hcell, hfroz⟩ := bcell hb; have hz := hb.size; (try simp at hz); (try (have z6 := Nat.lt_of_lt_of_le z7 hz)); (try (have z7 := Nat.lt_of_lt_of_le z8 hz)); (try (have z8 := Nat.lt_of_lt_of_le z9 hz)); (try (have z9 := Nat.lt_of_lt_of_le (Nat.lt_succ_self _) hz)); (try (have z0 : w.heap.size < w'.heap.size := by omega)); (try (have z1 : w.heap.size + 1 < w'.heap.size := by omega)); (try (have z2 : w.heap.size + 1 + 1 < w'.heap.size := by omega)); (try (have z3 : w.heap.size + 1 + 1 + 1 < w'.heap.size := by omega))) | (go_at_call 40; refine (add_big _ _ _ _ _ H1.out (neg_valid H2.out) ?_).mono ?_; (rw [← Int.sub_eq_add_neg, ← Int.sub_eq_add_neg]; exact H3.out); rintro e w' ⟨rfl, hb⟩; (try replace hb := below_undrew hb); (try replace hb := below_undrewN hb); obtain ⟨hcell, hfroz⟩ := bcell hb; have hz := hb.size; (try simp at hz); (try (have z6 := Nat.lt_of_lt_of_le z7 hz)); (try (have z7 := Nat.lt_of_lt_of_le z8 hz)); (try (have z8 := Nat.lt_of_lt_of_le z9 hz)); (try (have z9 := Nat.lt_of_lt_of_le (Nat.lt_succ_self _) hz)); (try (have z0 : w.heap.size < w'.heap.size := by omega)); (try (have z1 : w.heap.size + 1 < w'.heap.size := by omega)); (try (have z2 : w.heap.size + 1 + 1 < w'.heap.size := by omega)); (try (have z3 : w.heap.size + 1 + 1 + 1 < w'.heap.size := by omega))))
  exact bodyPost_ret (v := .tuple #[.agg #[.int .i64 (0), .int .i64 (0)], .int .i64 (5)]) (by first | (simp only [results, Try.results25]; go_simp; done) | simp [results, Try.results25, go_sem, *]) rfl ⟨rfl, by (repeat (first | exact Below.refl _ _ | refine bl_drewN ?_ | refine bl_drew ?_ | refine bl_alloc ?_ _ | refine Below.setCell ?_ (by (first | (simp; done) | (simp; omega) | omega)) _ | refine bl_step (by assumption) ?_))⟩

set_option maxHeartbeats 400000 in
theorem turn_arg (a b : Int) (w : World) (h1 : arcB a b = false) :
    Calls Try.prog 26 #[.agg #[.int .i64 (a), .int .i64 (b)]] w fun e w' => e = .returned (.tuple #[.agg #[.int .i64 (0), .int .i64 (0)], .int .i64 (1)]) ∧ Below w.heap.size w w' := by
  go_enter Try.func26, Try.ntmps26
  go_wp2_with (go_at_call 39; refine (valid_any _ _ _).mono ?_; rintro e w' ⟨rfl, hb⟩; (try replace hb := below_undrew hb); (try replace hb := below_undrewN hb); obtain ⟨hcell, hfroz⟩ := bcell hb; have hz := hb.size; (try simp at hz); (try (have z6 := Nat.lt_of_lt_of_le z7 hz)); (try (have z7 := Nat.lt_of_lt_of_le z8 hz)); (try (have z8 := Nat.lt_of_lt_of_le z9 hz)); (try (have z9 := Nat.lt_of_lt_of_le (Nat.lt_succ_self _) hz)); (try (have z0 : w.heap.size < w'.heap.size := by omega)); (try (have z1 : w.heap.size + 1 < w'.heap.size := by omega)); (try (have z2 : w.heap.size + 1 + 1 < w'.heap.size := by omega)); (try (have z3 : w.heap.size + 1 + 1 + 1 < w'.heap.size := by omega)))
  exact bodyPost_ret (v := .tuple #[.agg #[.int .i64 (0), .int .i64 (0)], .int .i64 (1)]) (by first | (simp only [results, Try.results26]; go_simp; done) | simp [results, Try.results26, go_sem, *]) rfl ⟨rfl, by (repeat (first | exact Below.refl _ _ | refine bl_drewN ?_ | refine bl_drew ?_ | refine bl_alloc ?_ _ | refine Below.setCell ?_ (by (first | (simp; done) | (simp; omega) | omega)) _ | refine bl_step (by assumption) ?_))⟩

set_option maxHeartbeats 400000 in
theorem turn_ok (a b : Int) (w : World) (h1 : arcB a b = true) :
    Calls Try.prog 26 #[.agg #[.int .i64 (a), .int .i64 (b)]] w fun e w' => e = .returned (.tuple #[.agg #[.int .i64 (arcLo a b), .int .i64 (arcHi a b)], .int .i64 (0)]) ∧ Below w.heap.size w w' := by
  have e1 := arcB_t h1; have e3 := e1.1; have e4 := e1.2.1; have e5 := e1.2.2; clear e1
  by_cases hc : 21600000 ≤ b - a
  · have H : Hid (arcLo a b = 0 ∧ arcHi a b = 21600000) := by simp [arcLo, arcHi, hc, Hid]
    go_enter Try.func26, Try.ntmps26
    go_wp2_with (go_at_call 39; refine (valid_any _ _ _).mono ?_; rintro e w' ⟨rfl, hb⟩; (try replace hb := below_undrew hb); (try replace hb := below_undrewN hb); obtain ⟨hcell, hfroz⟩ := bcell hb; have hz := hb.size; (try simp at hz); (try (have z6 := Nat.lt_of_lt_of_le z7 hz)); (try (have z7 := Nat.lt_of_lt_of_le z8 hz)); (try (have z8 := Nat.lt_of_lt_of_le z9 hz)); (try (have z9 := Nat.lt_of_lt_of_le (Nat.lt_succ_self _) hz)); (try (have z0 : w.heap.size < w'.heap.size := by omega)); (try (have z1 : w.heap.size + 1 < w'.heap.size := by omega)); (try (have z2 : w.heap.size + 1 + 1 < w'.heap.size := by omega)); (try (have z3 : w.heap.size + 1 + 1 + 1 < w'.heap.size := by omega)))
    exact bodyPost_ret (v := .tuple #[.agg #[.int .i64 (0), .int .i64 (21600000)], .int .i64 (0)]) (by first | (simp only [results, Try.results26]; go_simp; done) | simp [results, Try.results26, go_sem, *]) rfl ⟨by rw [H.out.1, H.out.2], by (repeat (first | exact Below.refl _ _ | refine bl_drewN ?_ | refine bl_drew ?_ | refine bl_alloc ?_ _ | refine Below.setCell ?_ (by (first | (simp; done) | (simp; omega) | omega)) _ | refine bl_step (by assumption) ?_))⟩
  · have H : Hid (arcLo a b = a % 21600000 ∧ arcHi a b = a % 21600000 + (b - a)) := by simp [arcLo, arcHi, hc, Hid]
    have m0 : 0 ≤ a % 21600000 := by omega
    have m1 : a % 21600000 < 21600000 := by omega
    go_enter Try.func26, Try.ntmps26
    go_wp2_with (first | (go_at_call 39; refine (valid_any _ _ _).mono ?_; rintro e w' ⟨rfl, hb⟩; (try replace hb := below_undrew hb); (try replace hb := below_undrewN hb); obtain ⟨hcell, hfroz⟩ := bcell hb; have hz := hb.size; (try simp at hz); (try (have z6 := Nat.lt_of_lt_of_le z7 hz)); (try (have z7 := Nat.lt_of_lt_of_le z8 hz)); (try (have z8 := Nat.lt_of_lt_of_le z9 hz)); (try (have z9 := Nat.lt_of_lt_of_le (Nat.lt_succ_self _) hz)); (try (have z0 : w.heap.size < w'.heap.size := by omega)); (try (have z1 : w.heap.size + 1 < w'.heap.size := by omega)); (try (have z2 : w.heap.size + 1 + 1 < w'.heap.size := by omega)); (try (have z3 : w.heap.size + 1 + 1 + 1 < w'.heap.size := by omega))) | (go_at_call 21; refine (wrap_any _ _ (by omega) (by omega)).mono ?_; rintro e w' ⟨rfl, rfl⟩))
    exact bodyPost_ret (v := .tuple #[.agg #[.int .i64 (a % 21600000), .int .i64 (a % 21600000 + (b - a))], .int .i64 (0)]) (by first | (simp only [results, Try.results26]; go_simp; done) | simp [results, Try.results26, go_sem, *]) rfl ⟨by rw [H.out.1, H.out.2], by (repeat (first | exact Below.refl _ _ | refine bl_drewN ?_ | refine bl_drew ?_ | refine bl_alloc ?_ _ | refine Below.setCell ?_ (by (first | (simp; done) | (simp; omega) | omega)) _ | refine bl_step (by assumption) ?_))⟩

def agreeB (a b c d : Int) : Bool := decide ((c - a) % 21600000 ≤ b - a) || decide ((a - c) % 21600000 ≤ d - c)

set_option maxHeartbeats 400000 in
theorem agree_arg (a b c d : Int) (w : World) (h1 : arcB a b = false ∨ arcB c d = false) :
    Calls Try.prog 22 #[.agg #[.int .i64 (a), .int .i64 (b)], .agg #[.int .i64 (c), .int .i64 (d)]] w fun e w' => e = .returned (.tuple #[.bool false, .int .i64 1]) ∧ Below w.heap.size w w' := by
  cases h2 : arcB a b
  · clear h1
    go_enter Try.func22, Try.ntmps22
    go_wp2_with (go_at_call 39; refine (valid_any _ _ _).mono ?_; rintro e w' ⟨rfl, hb⟩; (try replace hb := below_undrew hb); (try replace hb := below_undrewN hb); obtain ⟨hcell, hfroz⟩ := bcell hb; have hz := hb.size; (try simp at hz); (try (have z6 := Nat.lt_of_lt_of_le z7 hz)); (try (have z7 := Nat.lt_of_lt_of_le z8 hz)); (try (have z8 := Nat.lt_of_lt_of_le z9 hz)); (try (have z9 := Nat.lt_of_lt_of_le (Nat.lt_succ_self _) hz)); (try (have z0 : w.heap.size < w'.heap.size := by omega)); (try (have z1 : w.heap.size + 1 < w'.heap.size := by omega)); (try (have z2 : w.heap.size + 1 + 1 < w'.heap.size := by omega)); (try (have z3 : w.heap.size + 1 + 1 + 1 < w'.heap.size := by omega)))
    go_ret2
    exact ⟨rfl, by (repeat (first | exact Below.refl _ _ | refine bl_drewN ?_ | refine bl_drew ?_ | refine bl_alloc ?_ _ | refine Below.setCell ?_ (by (first | (simp; done) | (simp; omega) | omega)) _ | refine bl_step (by assumption) ?_))⟩
  · have h3 : arcB c d = false := by rw [h2] at h1; simpa using h1
    clear h1
    go_enter Try.func22, Try.ntmps22
    go_wp2_with (go_at_call 39; refine (valid_any _ _ _).mono ?_; rintro e w' ⟨rfl, hb⟩; (try replace hb := below_undrew hb); (try replace hb := below_undrewN hb); obtain ⟨hcell, hfroz⟩ := bcell hb; have hz := hb.size; (try simp at hz); (try (have z6 := Nat.lt_of_lt_of_le z7 hz)); (try (have z7 := Nat.lt_of_lt_of_le z8 hz)); (try (have z8 := Nat.lt_of_lt_of_le z9 hz)); (try (have z9 := Nat.lt_of_lt_of_le (Nat.lt_succ_self _) hz)); (try (have z0 : w.heap.size < w'.heap.size := by omega)); (try (have z1 : w.heap.size + 1 < w'.heap.size := by omega)); (try (have z2 : w.heap.size + 1 + 1 < w'.heap.size := by omega)); (try (have z3 : w.heap.size + 1 + 1 + 1 < w'.heap.size := by omega)))
    go_ret2
    exact ⟨rfl, by (repeat (first | exact Below.refl _ _ | refine bl_drewN ?_ | refine bl_drew ?_ | refine bl_alloc ?_ _ | refine Below.setCell ?_ (by (first | (simp; done) | (simp; omega) | omega)) _ | refine bl_step (by assumption) ?_))⟩

theorem ret_bool2 {a b : Bool} {n : Int} (h : a = b) : Ending.returned (.tuple #[.bool a, .int .i64 n]) = Ending.returned (.tuple #[.bool b, .int .i64 n]) := by rw [h]

set_option maxHeartbeats 400000 in
theorem agree_ok (a b c d : Int) (w : World) (h1 : arcB a b = true) (h2 : arcB c d = true) :
    Calls Try.prog 22 #[.agg #[.int .i64 (a), .int .i64 (b)], .agg #[.int .i64 (c), .int .i64 (d)]] w fun e w' => e = .returned (.tuple #[.bool (agreeB a b c d), .int .i64 0]) ∧ Below w.heap.size w w' := by
  have e1 := arcB_t h1; have e2 := arcB_t h2; have e3 := e1.1; have e4 := e1.2.1; have e5 := e1.2.2; have e6 := e2.1; have e7 := e2.2.1; have e8 := e2.2.2; clear e1 e2
  by_cases g1 : (c - a) % 21600000 ≤ b - a
  · have H : Hid (agreeB a b c d = true) := by simp [agreeB, g1, Hid]
    have g2 : decide ((c - a) % 21600000 ≤ b - a) = true := by simpa using g1
    go_enter Try.func22, Try.ntmps22
    go_wp2_with (go_at_call 39; refine (valid_any _ _ _).mono ?_; rintro e w' ⟨rfl, hb⟩; (try replace hb := below_undrew hb); (try replace hb := below_undrewN hb); obtain ⟨hcell, hfroz⟩ := bcell hb; have hz := hb.size; (try simp at hz); (try (have z6 := Nat.lt_of_lt_of_le z7 hz)); (try (have z7 := Nat.lt_of_lt_of_le z8 hz)); (try (have z8 := Nat.lt_of_lt_of_le z9 hz)); (try (have z9 := Nat.lt_of_lt_of_le (Nat.lt_succ_self _) hz)); (try (have z0 : w.heap.size < w'.heap.size := by omega)); (try (have z1 : w.heap.size + 1 < w'.heap.size := by omega)); (try (have z2 : w.heap.size + 1 + 1 < w'.heap.size := by omega)); (try (have z3 : w.heap.size + 1 + 1 + 1 < w'.heap.size := by omega)))
    go_quiet ((go_at_call 21; exact quiet_same (wrap_any _ _ (by omega) (by omega))))
    go_wp2
    go_ret2
    exact ⟨ret_bool2 (by rw [H.out]), by (repeat (first | exact Below.refl _ _ | refine bl_drewN ?_ | refine bl_drew ?_ | refine bl_alloc ?_ _ | refine Below.setCell ?_ (by (first | (simp; done) | (simp; omega) | omega)) _ | refine bl_step (by assumption) ?_))⟩
  · by_cases g3 : (a - c) % 21600000 ≤ d - c
    · have H : Hid (agreeB a b c d = true) := by simp [agreeB, g3, Hid]
      have g2 : decide ((c - a) % 21600000 ≤ b - a) = false := by simpa using g1
      go_enter Try.func22, Try.ntmps22
      go_wp2_with (go_at_call 39; refine (valid_any _ _ _).mono ?_; rintro e w' ⟨rfl, hb⟩; (try replace hb := below_undrew hb); (try replace hb := below_undrewN hb); obtain ⟨hcell, hfroz⟩ := bcell hb; have hz := hb.size; (try simp at hz); (try (have z6 := Nat.lt_of_lt_of_le z7 hz)); (try (have z7 := Nat.lt_of_lt_of_le z8 hz)); (try (have z8 := Nat.lt_of_lt_of_le z9 hz)); (try (have z9 := Nat.lt_of_lt_of_le (Nat.lt_succ_self _) hz)); (try (have z0 : w.heap.size < w'.heap.size := by omega)); (try (have z1 : w.heap.size + 1 < w'.heap.size := by omega)); (try (have z2 : w.heap.size + 1 + 1 < w'.heap.size := by omega)); (try (have z3 : w.heap.size + 1 + 1 + 1 < w'.heap.size := by omega)))
      go_quiet ((go_at_call 21; exact quiet_same (wrap_any _ _ (by omega) (by omega))))
      go_wp2
      go_ret2
      exact ⟨ret_bool2 (by rw [H.out]), by (repeat (first | exact Below.refl _ _ | refine bl_drewN ?_ | refine bl_drew ?_ | refine bl_alloc ?_ _ | refine Below.setCell ?_ (by (first | (simp; done) | (simp; omega) | omega)) _ | refine bl_step (by assumption) ?_))⟩
    · have H : Hid (agreeB a b c d = false) := by simp [agreeB, g3, g1, Hid]
      have g2 : decide ((c - a) % 21600000 ≤ b - a) = false := by simpa using g1
      go_enter Try.func22, Try.ntmps22
      go_wp2_with (go_at_call 39; refine (valid_any _ _ _).mono ?_; rintro e w' ⟨rfl, hb⟩; (try replace hb := below_undrew hb); (try replace hb := below_undrewN hb); obtain ⟨hcell, hfroz⟩ := bcell hb; have hz := hb.size; (try simp at hz); (try (have z6 := Nat.lt_of_lt_of_le z7 hz)); (try (have z7 := Nat.lt_of_lt_of_le z8 hz)); (try (have z8 := Nat.lt_of_lt_of_le z9 hz)); (try (have z9 := Nat.lt_of_lt_of_le (Nat.lt_succ_self _) hz)); (try (have z0 : w.heap.size < w'.heap.size := by omega)); (try (have z1 : w.heap.size + 1 < w'.heap.size := by omega)); (try (have z2 : w.heap.size + 1 + 1 < w'.heap.size := by omega)); (try (have z3 : w.heap.size + 1 + 1 + 1 < w'.heap.size := by omega)))
      go_quiet ((go_at_call 21; exact quiet_same (wrap_any _ _ (by omega) (by omega))))
      go_wp2
      go_ret2
      exact ⟨ret_bool2 (by rw [H.out, decide_eq_false_iff_not]; omega), by (repeat (first | exact Below.refl _ _ | refine bl_drewN ?_ | refine bl_drew ?_ | refine bl_alloc ?_ _ | refine Below.setCell ?_ (by (first | (simp; done) | (simp; omega) | omega)) _ | refine bl_step (by assumption) ?_))⟩

end Go.Proofs.Ytccmpibljahpbaa
