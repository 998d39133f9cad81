/- Square of package fixed, as a contract. -/
import Derived.Test.YtbglnncejfhlmaaFix9
namespace Go.Proofs.Ytbglnncejfhlmaa
open Go.RowKit

def sqLo (a b : Int) : Int := if zeroB a b = true then 0 else min (a * a) (b * b)

theorem square_bad (a b : Int) (w : World) (h : fixB a b = false) :
    Calls Try.prog 13 #[.agg #[.int .i64 (a), .int .i64 (b)]] w fun e w' => e = .returned (.tuple #[.agg #[.int .i64 (0), .int .i64 (0)], .int .i64 (1)]) ∧ Below w.heap.size w w' := by
  go_enter Try.func13, Try.ntmps13
  go_wp2_with (go_at_call 22; refine (fvalid_any _ _ _).mono ?_; rintro e w' ⟨rfl, hb⟩; (try replace hb := below_undrew hb); (try replace hb := below_undrewN hb); obtain ⟨hcell, hfroz⟩ := bcell hb; have hz := hb.size; (try simp at hz); (try (have z6 := Nat.lt_of_lt_of_le z7 hz)); (try (have z7 := Nat.lt_of_lt_of_le z8 hz)); (try (have z8 := Nat.lt_of_lt_of_le z9 hz)); (try (have z9 := Nat.lt_of_lt_of_le (Nat.lt_succ_self _) hz)); (try (have z0 : w.heap.size < w'.heap.size := by omega)); (try (have z1 : w.heap.size + 1 < w'.heap.size := by omega)); (try (have z2 : w.heap.size + 1 + 1 < w'.heap.size := by omega)); (try (have z3 : w.heap.size + 1 + 1 + 1 < w'.heap.size := by omega)); (try (have y1 : w1.heap.size < w'.heap.size := by omega)); (try (have y2 : w2.heap.size < w'.heap.size := by omega)); (try (have y3 : w3.heap.size < w'.heap.size := by omega)); (try (have y4 : w4.heap.size < w'.heap.size := by omega)); (try (have y5 : w5.heap.size < w'.heap.size := by omega)); (try (have y6 : w6.heap.size < w'.heap.size := by omega)))
  exact bodyPost_ret (v := .tuple #[.agg #[.int .i64 (0), .int .i64 (0)], .int .i64 (1)]) (by first | (simp only [results, Try.results13]; go_simp; done) | simp [results, Try.results13, go_sem, *]) rfl ⟨rfl, by (repeat (first | exact Below.refl _ _ | refine bl_drewN ?_ | refine bl_drew ?_ | refine bl_alloc ?_ _ | refine Below.setCell ?_ (by (first | (simp; done) | (simp; omega) | omega)) _ | refine bl_step (by assumption) ?_))⟩

set_option maxHeartbeats 1000000 in
theorem square_walk (a b m X Y : Int) (w : World) (h : fixB a b = true) (hm : m = sqLo a b) (hX : fl m 1073741824 = X) (hY : ce (max (a * a) (b * b)) 1073741824 = Y) (r : Value)
    (FI : ∀ w, Calls Try.prog 46 #[.int .i64 X, .int .i64 Y] w fun e w' => e = .returned r ∧ Below w.heap.size w w') (hr : ∃ p q k : Int, r = .tuple #[.agg #[.int .i64 (p), .int .i64 (q)], .int .i64 (k)]) :
    Calls Try.prog 13 #[.agg #[.int .i64 (a), .int .i64 (b)]] w fun e w' => e = .returned r ∧ Below w.heap.size w w' := by
  obtain ⟨p, q, k, rfl⟩ := hr
  have a0 := fixB_t h
  have a1 := a0.1
  have a2 := a0.2.1
  have a3 := a0.2.2
  clear a0
  obtain ⟨p1, p2⟩ := prod_bd a a (by omega) (by omega) (by omega) (by omega)
  obtain ⟨p3, p4⟩ := prod_bd b b (by omega) (by omega) (by omega) (by omega)
  have r1 : IntKind.i64.wrap (a * a) = a * a := wrap_id (by omega) (by omega)
  have r2 : IntKind.i64.wrap (b * b) = b * b := wrap_id (by omega) (by omega)
  have m0 : -4611686018427387904 ≤ m ∧ m ≤ 4611686018427387904 := by rw [hm]; unfold sqLo; split <;> omega
  have FA := fun w => ffloor_any m 1073741824 w (by omega) m0.1 m0.2 (by omega) (by omega)
  have FB := fun w => fceil_any (max (a * a) (b * b)) 1073741824 w (by omega) (by omega) (by omega) (by omega) (by omega)
  rw [hX] at FA
  rw [hY] at FB
  replace FA := hidden FA
  replace FB := hidden FB
  replace FI := hidden FI
  clear p1 p2 p3 p4 hX hY m0
  by_cases h1 : a ≤ 0
  · by_cases h2 : 0 ≤ b
    · have e : m = 0 := by rw [hm]; simp [sqLo, zeroB_mk ⟨h1, h2⟩]
      subst e
      clear hm
      go_enter Try.func13, Try.ntmps13
      go_wp2_with (go_at_call 22; refine (fvalid_any _ _ _).mono ?_; rintro e w' ⟨rfl, hb⟩; (try replace hb := below_undrew hb); (try replace hb := below_undrewN hb); obtain ⟨hcell, hfroz⟩ := bcell hb; have hz := hb.size; (try simp at hz); (try (have z6 := Nat.lt_of_lt_of_le z7 hz)); (try (have z7 := Nat.lt_of_lt_of_le z8 hz)); (try (have z8 := Nat.lt_of_lt_of_le z9 hz)); (try (have z9 := Nat.lt_of_lt_of_le (Nat.lt_succ_self _) hz)); (try (have z0 : w.heap.size < w'.heap.size := by omega)); (try (have z1 : w.heap.size + 1 < w'.heap.size := by omega)); (try (have z2 : w.heap.size + 1 + 1 < w'.heap.size := by omega)); (try (have z3 : w.heap.size + 1 + 1 + 1 < w'.heap.size := by omega)); (try (have y1 : w1.heap.size < w'.heap.size := by omega)); (try (have y2 : w2.heap.size < w'.heap.size := by omega)); (try (have y3 : w3.heap.size < w'.heap.size := by omega)); (try (have y4 : w4.heap.size < w'.heap.size := by omega)); (try (have y5 : w5.heap.size < w'.heap.size := by omega)); (try (have y6 : w6.heap.size < w'.heap.size := by omega)))
      all_goals skip
      go_quiet (fail)
      go_wp2_with (first | (go_at_call 47; refine (FA.out _).mono ?_; rintro e w' ⟨rfl, rfl⟩) | (go_at_call 48; refine (FB.out _).mono ?_; rintro e w' ⟨rfl, rfl⟩) | (go_at_call 46; refine (FI.out _).mono ?_; rintro e w' ⟨rfl, hb⟩; (try replace hb := below_undrew hb); (try replace hb := below_undrewN hb); obtain ⟨hcell, hfroz⟩ := bcell hb; have hz := hb.size; (try simp at hz); (try (have z6 := Nat.lt_of_lt_of_le z7 hz)); (try (have z7 := Nat.lt_of_lt_of_le z8 hz)); (try (have z8 := Nat.lt_of_lt_of_le z9 hz)); (try (have z9 := Nat.lt_of_lt_of_le (Nat.lt_succ_self _) hz)); (try (have z0 : w.heap.size < w'.heap.size := by omega)); (try (have z1 : w.heap.size + 1 < w'.heap.size := by omega)); (try (have z2 : w.heap.size + 1 + 1 < w'.heap.size := by omega)); (try (have z3 : w.heap.size + 1 + 1 + 1 < w'.heap.size := by omega)); (try (have y1 : w1.heap.size < w'.heap.size := by omega)); (try (have y2 : w2.heap.size < w'.heap.size := by omega)); (try (have y3 : w3.heap.size < w'.heap.size := by omega)); (try (have y4 : w4.heap.size < w'.heap.size := by omega)); (try (have y5 : w5.heap.size < w'.heap.size := by omega)); (try (have y6 : w6.heap.size < w'.heap.size := by omega))))
      exact bodyPost_ret (v := .tuple #[.agg #[.int .i64 (p), .int .i64 (q)], .int .i64 (k)]) (by first | (simp only [results, Try.results13]; go_simp; done) | simp [results, Try.results13, go_sem, *]) rfl ⟨rfl, by (repeat (first | exact Below.refl _ _ | refine bl_drewN ?_ | refine bl_drew ?_ | refine bl_alloc ?_ _ | refine Below.setCell ?_ (by (first | (simp; done) | (simp; omega) | omega)) _ | refine bl_step (by assumption) ?_))⟩
    · have e : m = min (a * a) (b * b) := by rw [hm]; simp [sqLo, zeroB_not (lo := a) (hi := b) (by omega)]
      subst e
      clear hm
      go_enter Try.func13, Try.ntmps13
      go_wp2_with (go_at_call 22; refine (fvalid_any _ _ _).mono ?_; rintro e w' ⟨rfl, hb⟩; (try replace hb := below_undrew hb); (try replace hb := below_undrewN hb); obtain ⟨hcell, hfroz⟩ := bcell hb; have hz := hb.size; (try simp at hz); (try (have z6 := Nat.lt_of_lt_of_le z7 hz)); (try (have z7 := Nat.lt_of_lt_of_le z8 hz)); (try (have z8 := Nat.lt_of_lt_of_le z9 hz)); (try (have z9 := Nat.lt_of_lt_of_le (Nat.lt_succ_self _) hz)); (try (have z0 : w.heap.size < w'.heap.size := by omega)); (try (have z1 : w.heap.size + 1 < w'.heap.size := by omega)); (try (have z2 : w.heap.size + 1 + 1 < w'.heap.size := by omega)); (try (have z3 : w.heap.size + 1 + 1 + 1 < w'.heap.size := by omega)); (try (have y1 : w1.heap.size < w'.heap.size := by omega)); (try (have y2 : w2.heap.size < w'.heap.size := by omega)); (try (have y3 : w3.heap.size < w'.heap.size := by omega)); (try (have y4 : w4.heap.size < w'.heap.size := by omega)); (try (have y5 : w5.heap.size < w'.heap.size := by omega)); (try (have y6 : w6.heap.size < w'.heap.size := by omega)))
      go_quiet (fail)
      go_wp2_with (first | (go_at_call 47; refine (FA.out _).mono ?_; rintro e w' ⟨rfl, rfl⟩) | (go_at_call 48; refine (FB.out _).mono ?_; rintro e w' ⟨rfl, rfl⟩) | (go_at_call 46; refine (FI.out _).mono ?_; rintro e w' ⟨rfl, hb⟩; (try replace hb := below_undrew hb); (try replace hb := below_undrewN hb); obtain ⟨hcell, hfroz⟩ := bcell hb; have hz := hb.size; (try simp at hz); (try (have z6 := Nat.lt_of_lt_of_le z7 hz)); (try (have z7 := Nat.lt_of_lt_of_le z8 hz)); (try (have z8 := Nat.lt_of_lt_of_le z9 hz)); (try (have z9 := Nat.lt_of_lt_of_le (Nat.lt_succ_self _) hz)); (try (have z0 : w.heap.size < w'.heap.size := by omega)); (try (have z1 : w.heap.size + 1 < w'.heap.size := by omega)); (try (have z2 : w.heap.size + 1 + 1 < w'.heap.size := by omega)); (try (have z3 : w.heap.size + 1 + 1 + 1 < w'.heap.size := by omega)); (try (have y1 : w1.heap.size < w'.heap.size := by omega)); (try (have y2 : w2.heap.size < w'.heap.size := by omega)); (try (have y3 : w3.heap.size < w'.heap.size := by omega)); (try (have y4 : w4.heap.size < w'.heap.size := by omega)); (try (have y5 : w5.heap.size < w'.heap.size := by omega)); (try (have y6 : w6.heap.size < w'.heap.size := by omega))))
      exact bodyPost_ret (v := .tuple #[.agg #[.int .i64 (p), .int .i64 (q)], .int .i64 (k)]) (by first | (simp only [results, Try.results13]; go_simp; done) | simp [results, Try.results13, go_sem, *]) rfl ⟨rfl, by (repeat (first | exact Below.refl _ _ | refine bl_drewN ?_ | refine bl_drew ?_ | refine bl_alloc ?_ _ | refine Below.setCell ?_ (by (first | (simp; done) | (simp; omega) | omega)) _ | refine bl_step (by assumption) ?_))⟩
  · have e : m = min (a * a) (b * b) := by rw [hm]; simp [sqLo, zeroB_not (lo := a) (hi := b) (by omega)]
    subst e
    clear hm
    go_enter Try.func13, Try.ntmps13
    go_wp2_with (go_at_call 22; refine (fvalid_any _ _ _).mono ?_; rintro e w' ⟨rfl, hb⟩; (try replace hb := below_undrew hb); (try replace hb := below_undrewN hb); obtain ⟨hcell, hfroz⟩ := bcell hb; have hz := hb.size; (try simp at hz); (try (have z6 := Nat.lt_of_lt_of_le z7 hz)); (try (have z7 := Nat.lt_of_lt_of_le z8 hz)); (try (have z8 := Nat.lt_of_lt_of_le z9 hz)); (try (have z9 := Nat.lt_of_lt_of_le (Nat.lt_succ_self _) hz)); (try (have z0 : w.heap.size < w'.heap.size := by omega)); (try (have z1 : w.heap.size + 1 < w'.heap.size := by omega)); (try (have z2 : w.heap.size + 1 + 1 < w'.heap.size := by omega)); (try (have z3 : w.heap.size + 1 + 1 + 1 < w'.heap.size := by omega)); (try (have y1 : w1.heap.size < w'.heap.size := by omega)); (try (have y2 : w2.heap.size < w'.heap.size := by omega)); (try (have y3 : w3.heap.size < w'.heap.size := by omega)); (try (have y4 : w4.heap.size < w'.heap.size := by omega)); (try (have y5 : w5.heap.size < w'.heap.size := by omega)); (try (have y6 : w6.heap.size < w'.heap.size := by omega)))
    go_quiet (fail)
    go_wp2_with (first | (go_at_call 47; refine (FA.out _).mono ?_; rintro e w' ⟨rfl, rfl⟩) | (go_at_call 48; refine (FB.out _).mono ?_; rintro e w' ⟨rfl, rfl⟩) | (go_at_call 46; refine (FI.out _).mono ?_; rintro e w' ⟨rfl, hb⟩; (try replace hb := below_undrew hb); (try replace hb := below_undrewN hb); obtain ⟨hcell, hfroz⟩ := bcell hb; have hz := hb.size; (try simp at hz); (try (have z6 := Nat.lt_of_lt_of_le z7 hz)); (try (have z7 := Nat.lt_of_lt_of_le z8 hz)); (try (have z8 := Nat.lt_of_lt_of_le z9 hz)); (try (have z9 := Nat.lt_of_lt_of_le (Nat.lt_succ_self _) hz)); (try (have z0 : w.heap.size < w'.heap.size := by omega)); (try (have z1 : w.heap.size + 1 < w'.heap.size := by omega)); (try (have z2 : w.heap.size + 1 + 1 < w'.heap.size := by omega)); (try (have z3 : w.heap.size + 1 + 1 + 1 < w'.heap.size := by omega)); (try (have y1 : w1.heap.size < w'.heap.size := by omega)); (try (have y2 : w2.heap.size < w'.heap.size := by omega)); (try (have y3 : w3.heap.size < w'.heap.size := by omega)); (try (have y4 : w4.heap.size < w'.heap.size := by omega)); (try (have y5 : w5.heap.size < w'.heap.size := by omega)); (try (have y6 : w6.heap.size < w'.heap.size := by omega))))
    exact bodyPost_ret (v := .tuple #[.agg #[.int .i64 (p), .int .i64 (q)], .int .i64 (k)]) (by first | (simp only [results, Try.results13]; go_simp; done) | simp [results, Try.results13, go_sem, *]) rfl ⟨rfl, by (repeat (first | exact Below.refl _ _ | refine bl_drewN ?_ | refine bl_drew ?_ | refine bl_alloc ?_ _ | refine Below.setCell ?_ (by (first | (simp; done) | (simp; omega) | omega)) _ | refine bl_step (by assumption) ?_))⟩

theorem fitF_form (a b : Int) : ∃ p q k : Int, fitF a b = .tuple #[.agg #[.int .i64 (p), .int .i64 (q)], .int .i64 (k)] := by
  unfold fitF; split
  · exact ⟨_, _, _, rfl⟩
  · exact ⟨_, _, _, rfl⟩

theorem square_any (a b : Int) (w : World) (h : fixB a b = true) :
    Calls Try.prog 13 #[.agg #[.int .i64 (a), .int .i64 (b)]] w fun e w' => e = .returned (fitF (fl (sqLo a b) 1073741824) (ce (max (a * a) (b * b)) 1073741824)) ∧ Below w.heap.size w w' :=
  square_walk a b _ _ _ w h rfl rfl rfl _ (fun w => ffit_any _ _ w) (fitF_form _ _)

end Go.Proofs.Ytbglnncejfhlmaa
