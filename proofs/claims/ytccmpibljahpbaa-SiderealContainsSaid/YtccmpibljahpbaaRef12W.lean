/- Local and When of the reference of layer 12, each as a contract. -/
import Derived.Test.YtccmpibljahpbaaRef12
import Derived.StillTailTactics
namespace Go.Proofs.Ytccmpibljahpbaa
open Go.RowKit

set_option maxHeartbeats 1000000 in
theorem local12_arg (a b c d : Int) (w : World) (h : timeB a b = false ∨ arcB c d = false) :
    Calls Try.prog 18 #[.agg #[.int .i64 (a), .int .i64 (b)], .agg #[.int .i64 (c), .int .i64 (d)]] w fun e w' => e = .returned (.tuple #[.agg #[.int .i64 (0), .int .i64 (0)], .int .i64 (1)]) ∧ Below w.heap.size w w' := by
  cases h1 : timeB a b
  · clear h
    go_enter Try.func18, Try.ntmps18
    go_wp2_with (first | (go_at_call 19; refine (tvalid12_any _ _ _).mono ?_; rintro e w' ⟨rfl, hb⟩; (try replace hb := below_undrew hb); (try replace hb := below_undrewN hb); obtain ⟨hcell, hfroz⟩ := bcell hb; have hz := hb.size; (try simp at hz); (try (have z6 := Nat.lt_of_lt_of_le z7 hz)); (try (have z7 := Nat.lt_of_lt_of_le z8 hz)); (try (have z8 := Nat.lt_of_lt_of_le z9 hz)); (try (have z9 := Nat.lt_of_lt_of_le (Nat.lt_succ_self _) hz)); (try (have z0 : w.heap.size < w'.heap.size := by omega)); (try (have z1 : w.heap.size + 1 < w'.heap.size := by omega)); (try (have z2 : w.heap.size + 1 + 1 < w'.heap.size := by omega)); (try (have z3 : w.heap.size + 1 + 1 + 1 < w'.heap.size := by omega))) | (go_at_call 23; refine (valid5_any _ _ _).mono ?_; rintro e w' ⟨rfl, hb⟩; (try replace hb := below_undrew hb); (try replace hb := below_undrewN hb); obtain ⟨hcell, hfroz⟩ := bcell hb; have hz := hb.size; (try simp at hz); (try (have z6 := Nat.lt_of_lt_of_le z7 hz)); (try (have z7 := Nat.lt_of_lt_of_le z8 hz)); (try (have z8 := Nat.lt_of_lt_of_le z9 hz)); (try (have z9 := Nat.lt_of_lt_of_le (Nat.lt_succ_self _) hz)); (try (have z0 : w.heap.size < w'.heap.size := by omega)); (try (have z1 : w.heap.size + 1 < w'.heap.size := by omega)); (try (have z2 : w.heap.size + 1 + 1 < w'.heap.size := by omega)); (try (have z3 : w.heap.size + 1 + 1 + 1 < w'.heap.size := by omega))))
    exact bodyPost_ret (v := .tuple #[.agg #[.int .i64 (0), .int .i64 (0)], .int .i64 (1)]) (by first | (simp only [results, Try.results18]; go_simp; done) | simp [results, Try.results18, go_sem, *]) rfl ⟨rfl, by (repeat (first | exact Below.refl _ _ | refine bl_drewN ?_ | refine bl_drew ?_ | refine bl_alloc ?_ _ | refine Below.setCell ?_ (by (first | (simp; done) | (simp; omega) | omega)) _ | refine bl_step (by assumption) ?_))⟩
  · have h2 : arcB c d = false := by rw [h1] at h; simpa using h
    clear h
    go_enter Try.func18, Try.ntmps18
    go_wp2_with (first | (go_at_call 19; refine (tvalid12_any _ _ _).mono ?_; rintro e w' ⟨rfl, hb⟩; (try replace hb := below_undrew hb); (try replace hb := below_undrewN hb); obtain ⟨hcell, hfroz⟩ := bcell hb; have hz := hb.size; (try simp at hz); (try (have z6 := Nat.lt_of_lt_of_le z7 hz)); (try (have z7 := Nat.lt_of_lt_of_le z8 hz)); (try (have z8 := Nat.lt_of_lt_of_le z9 hz)); (try (have z9 := Nat.lt_of_lt_of_le (Nat.lt_succ_self _) hz)); (try (have z0 : w.heap.size < w'.heap.size := by omega)); (try (have z1 : w.heap.size + 1 < w'.heap.size := by omega)); (try (have z2 : w.heap.size + 1 + 1 < w'.heap.size := by omega)); (try (have z3 : w.heap.size + 1 + 1 + 1 < w'.heap.size := by omega))) | (go_at_call 23; refine (valid5_any _ _ _).mono ?_; rintro e w' ⟨rfl, hb⟩; (try replace hb := below_undrew hb); (try replace hb := below_undrewN hb); obtain ⟨hcell, hfroz⟩ := bcell hb; have hz := hb.size; (try simp at hz); (try (have z6 := Nat.lt_of_lt_of_le z7 hz)); (try (have z7 := Nat.lt_of_lt_of_le z8 hz)); (try (have z8 := Nat.lt_of_lt_of_le z9 hz)); (try (have z9 := Nat.lt_of_lt_of_le (Nat.lt_succ_self _) hz)); (try (have z0 : w.heap.size < w'.heap.size := by omega)); (try (have z1 : w.heap.size + 1 < w'.heap.size := by omega)); (try (have z2 : w.heap.size + 1 + 1 < w'.heap.size := by omega)); (try (have z3 : w.heap.size + 1 + 1 + 1 < w'.heap.size := by omega))))
    exact bodyPost_ret (v := .tuple #[.agg #[.int .i64 (0), .int .i64 (0)], .int .i64 (1)]) (by first | (simp only [results, Try.results18]; go_simp; done) | simp [results, Try.results18, go_sem, *]) rfl ⟨rfl, by (repeat (first | exact Below.refl _ _ | refine bl_drewN ?_ | refine bl_drew ?_ | refine bl_alloc ?_ _ | refine Below.setCell ?_ (by (first | (simp; done) | (simp; omega) | omega)) _ | refine bl_step (by assumption) ?_))⟩

theorem loc_facts (a b c d : Int) (h1 : timeB a b = true) (h2 : arcB c d = true) :
    a ≤ b ∧ -70368744177664 ≤ a ∧ b ≤ 70368744177664 ∧ -1099511627776 ≤ locLo a b c ∧ locLo a b c ≤ locHi a b d ∧ locHi a b d ≤ 1099554827776 ∧ arcLo (lowA a) (upA b) + c = locLo a b c ∧ arcHi (lowA a) (upA b) + d = locHi a b d ∧ (arcB (locLo a b c) (locHi a b d) = locB a b c d) := by
  have t := timeB_t h1
  have q := arc_dir _ _ (low_le_up t.1)
  have g := arcB_t h2
  have e1 : locLo a b c = arcLo (lowA a) (upA b) + c := rfl
  have e2 : locHi a b d = arcHi (lowA a) (upA b) + d := rfl
  have e3 : locLo a b c ≤ locHi a b d := by omega
  refine ⟨t.1, t.2.1, t.2.2, by omega, e3, by omega, rfl, rfl, ?_⟩
  simp [arcB, locB, e3]

set_option maxHeartbeats 1000000 in
theorem local12_ok (a b c d : Int) (w : World) (h1 : timeB a b = true) (h2 : arcB c d = true) (h3 : locB a b c d = true) :
    Calls Try.prog 18 #[.agg #[.int .i64 (a), .int .i64 (b)], .agg #[.int .i64 (c), .int .i64 (d)]] w fun e w' => e = .returned (.tuple #[.agg #[.int .i64 (arcLo (locLo a b c) (locHi a b d)), .int .i64 (arcHi (locLo a b c) (locHi a b d))], .int .i64 (0)]) ∧ Below w.heap.size w w' := by
  obtain ⟨k1, k2, k3, k4, k5, k6, e1, e2, k9⟩ := loc_facts a b c d h1 h2
  rw [h3] at k9
  have I : ∀ w, Calls Try.prog 15 #[.agg #[.int .i64 (a), .int .i64 (b)]] w fun e w' => e = .returned (.agg #[.int .i64 (arcLo (lowA a) (upA b)), .int .i64 (arcHi (lowA a) (upA b))]) ∧ Below w.heap.size w w' := fun w => interval12_any a b w (by omega) k1 (by omega)
  replace I := hidden I
  have J : ∀ w, Calls Try.prog 41 #[.agg #[.int .i64 (arcLo (lowA a) (upA b)), .int .i64 (arcHi (lowA a) (upA b))], .agg #[.int .i64 (c), .int .i64 (d)]] w fun e w' => e = .returned (.agg #[.int .i64 (locLo a b c), .int .i64 (locHi a b d)]) ∧ Below w.heap.size w w' := fun w => by
    rw [← e1, ← e2]; exact add5_any _ _ _ _ w (by omega) (by omega) (by omega) (by omega)
  replace J := hidden J
  generalize arcLo (lowA a) (upA b) = x at *
  generalize arcHi (lowA a) (upA b) = y at *
  generalize locLo a b c = lo at *
  generalize locHi a b d = hi at *
  clear e1 e2
  go_enter Try.func18, Try.ntmps18
  go_wp2_with (first | (go_at_call 19; refine (tvalid12_any _ _ _).mono ?_; rintro e w' ⟨rfl, hb⟩; (try replace hb := below_undrew hb); (try replace hb := below_undrewN hb); obtain ⟨hcell, hfroz⟩ := bcell hb; have hz := hb.size; (try simp at hz); (try (have z6 := Nat.lt_of_lt_of_le z7 hz)); (try (have z7 := Nat.lt_of_lt_of_le z8 hz)); (try (have z8 := Nat.lt_of_lt_of_le z9 hz)); (try (have z9 := Nat.lt_of_lt_of_le (Nat.lt_succ_self _) hz)); (try (have z0 : w.heap.size < w'.heap.size := by omega)); (try (have z1 : w.heap.size + 1 < w'.heap.size := by omega)); (try (have z2 : w.heap.size + 1 + 1 < w'.heap.size := by omega)); (try (have z3 : w.heap.size + 1 + 1 + 1 < w'.heap.size := by omega))) | (go_at_call 23; refine (valid5_any _ _ _).mono ?_; rintro e w' ⟨rfl, hb⟩; (try replace hb := below_undrew hb); (try replace hb := below_undrewN hb); obtain ⟨hcell, hfroz⟩ := bcell hb; have hz := hb.size; (try simp at hz); (try (have z6 := Nat.lt_of_lt_of_le z7 hz)); (try (have z7 := Nat.lt_of_lt_of_le z8 hz)); (try (have z8 := Nat.lt_of_lt_of_le z9 hz)); (try (have z9 := Nat.lt_of_lt_of_le (Nat.lt_succ_self _) hz)); (try (have z0 : w.heap.size < w'.heap.size := by omega)); (try (have z1 : w.heap.size + 1 < w'.heap.size := by omega)); (try (have z2 : w.heap.size + 1 + 1 < w'.heap.size := by omega)); (try (have z3 : w.heap.size + 1 + 1 + 1 < w'.heap.size := by omega))))
  go_region_held3 (fun v => Below w'.heap.size w' v ∧ (∀ b o, b < w'.heap.size → v.cell? ⟨b, o, none⟩ = w'.cell? ⟨b, o, none⟩) ∧ (∀ b o, b < w'.heap.size → v.frozen? ⟨b, o, none⟩ = w'.frozen? ⟨b, o, none⟩)) (first | exact held_start _ | (refine held_of ?_; (repeat (first | exact Below.refl _ _ | refine bl_drewN ?_ | refine bl_drew ?_ | refine bl_alloc ?_ _ | refine Below.setCell ?_ (by (first | (simp; done) | (simp; omega) | omega)) _ | refine bl_step (by assumption) ?_)); done))
    (first | (go_at_call 15; refine (I.out _).mono ?_; rintro e w' ⟨rfl, hb⟩; (try replace hb := below_undrew hb); (try replace hb := below_undrewN hb); obtain ⟨hcell, hfroz⟩ := bcell hb; have hz := hb.size; (try simp at hz); (try (have z6 := Nat.lt_of_lt_of_le z7 hz)); (try (have z7 := Nat.lt_of_lt_of_le z8 hz)); (try (have z8 := Nat.lt_of_lt_of_le z9 hz)); (try (have z9 := Nat.lt_of_lt_of_le (Nat.lt_succ_self _) hz)); (try (have z0 : w.heap.size < w'.heap.size := by omega)); (try (have z1 : w.heap.size + 1 < w'.heap.size := by omega)); (try (have z2 : w.heap.size + 1 + 1 < w'.heap.size := by omega)); (try (have z3 : w.heap.size + 1 + 1 + 1 < w'.heap.size := by omega))) | (go_at_call 41; refine (J.out _).mono ?_; rintro e w' ⟨rfl, hb⟩; (try replace hb := below_undrew hb); (try replace hb := below_undrewN hb); obtain ⟨hcell, hfroz⟩ := bcell hb; have hz := hb.size; (try simp at hz); (try (have z6 := Nat.lt_of_lt_of_le z7 hz)); (try (have z7 := Nat.lt_of_lt_of_le z8 hz)); (try (have z8 := Nat.lt_of_lt_of_le z9 hz)); (try (have z9 := Nat.lt_of_lt_of_le (Nat.lt_succ_self _) hz)); (try (have z0 : w.heap.size < w'.heap.size := by omega)); (try (have z1 : w.heap.size + 1 < w'.heap.size := by omega)); (try (have z2 : w.heap.size + 1 + 1 < w'.heap.size := by omega)); (try (have z3 : w.heap.size + 1 + 1 + 1 < w'.heap.size := by omega))))
  all_goals go_wp2_with (first | (go_at_call 23; refine (valid5_any _ _ _).mono ?_; rintro e w' ⟨rfl, hb⟩; (try replace hb := below_undrew hb); (try replace hb := below_undrewN hb); obtain ⟨hcell, hfroz⟩ := bcell hb; have hz := hb.size; (try simp at hz); (try (have z6 := Nat.lt_of_lt_of_le z7 hz)); (try (have z7 := Nat.lt_of_lt_of_le z8 hz)); (try (have z8 := Nat.lt_of_lt_of_le z9 hz)); (try (have z9 := Nat.lt_of_lt_of_le (Nat.lt_succ_self _) hz)); (try (have z0 : w.heap.size < w'.heap.size := by omega)); (try (have z1 : w.heap.size + 1 < w'.heap.size := by omega)); (try (have z2 : w.heap.size + 1 + 1 < w'.heap.size := by omega)); (try (have z3 : w.heap.size + 1 + 1 + 1 < w'.heap.size := by omega))) | (go_at_call 38; refine (turn5_any _ _ _ (by omega) (by omega) (by omega)).mono ?_; rintro e w' ⟨rfl, hb⟩; (try replace hb := below_undrew hb); (try replace hb := below_undrewN hb); obtain ⟨hcell, hfroz⟩ := bcell hb; have hz := hb.size; (try simp at hz); (try (have z6 := Nat.lt_of_lt_of_le z7 hz)); (try (have z7 := Nat.lt_of_lt_of_le z8 hz)); (try (have z8 := Nat.lt_of_lt_of_le z9 hz)); (try (have z9 := Nat.lt_of_lt_of_le (Nat.lt_succ_self _) hz)); (try (have z0 : w.heap.size < w'.heap.size := by omega)); (try (have z1 : w.heap.size + 1 < w'.heap.size := by omega)); (try (have z2 : w.heap.size + 1 + 1 < w'.heap.size := by omega)); (try (have z3 : w.heap.size + 1 + 1 + 1 < w'.heap.size := by omega))))
  all_goals exact bodyPost_ret (v := .tuple #[.agg #[.int .i64 (arcLo lo hi), .int .i64 (arcHi lo hi)], .int .i64 (0)]) (by first | (simp only [results, Try.results18]; go_simp; done) | simp [results, Try.results18, go_sem, *]) rfl ⟨rfl, by (repeat (first | exact Below.refl _ _ | refine bl_drewN ?_ | refine bl_drew ?_ | refine bl_alloc ?_ _ | refine Below.setCell ?_ (by (first | (simp; done) | (simp; omega) | omega)) _ | refine bl_step (by assumption) ?_))⟩

set_option maxHeartbeats 1000000 in
theorem local12_big (a b c d : Int) (w : World) (h1 : timeB a b = true) (h2 : arcB c d = true) (h3 : locB a b c d = false) :
    Calls Try.prog 18 #[.agg #[.int .i64 (a), .int .i64 (b)], .agg #[.int .i64 (c), .int .i64 (d)]] w fun e w' => e = .returned (.tuple #[.agg #[.int .i64 (0), .int .i64 (0)], .int .i64 (5)]) ∧ Below w.heap.size w w' := by
  obtain ⟨k1, k2, k3, k4, k5, k6, e1, e2, k9⟩ := loc_facts a b c d h1 h2
  rw [h3] at k9
  have I : ∀ w, Calls Try.prog 15 #[.agg #[.int .i64 (a), .int .i64 (b)]] w fun e w' => e = .returned (.agg #[.int .i64 (arcLo (lowA a) (upA b)), .int .i64 (arcHi (lowA a) (upA b))]) ∧ Below w.heap.size w w' := fun w => interval12_any a b w (by omega) k1 (by omega)
  replace I := hidden I
  have J : ∀ w, Calls Try.prog 41 #[.agg #[.int .i64 (arcLo (lowA a) (upA b)), .int .i64 (arcHi (lowA a) (upA b))], .agg #[.int .i64 (c), .int .i64 (d)]] w fun e w' => e = .returned (.agg #[.int .i64 (locLo a b c), .int .i64 (locHi a b d)]) ∧ Below w.heap.size w w' := fun w => by
    rw [← e1, ← e2]; exact add5_any _ _ _ _ w (by omega) (by omega) (by omega) (by omega)
  replace J := hidden J
  generalize arcLo (lowA a) (upA b) = x at *
  generalize arcHi (lowA a) (upA b) = y at *
  generalize locLo a b c = lo at *
  generalize locHi a b d = hi at *
  clear e1 e2
  go_enter Try.func18, Try.ntmps18
  go_wp2_with (first | (go_at_call 19; refine (tvalid12_any _ _ _).mono ?_; rintro e w' ⟨rfl, hb⟩; (try replace hb := below_undrew hb); (try replace hb := below_undrewN hb); obtain ⟨hcell, hfroz⟩ := bcell hb; have hz := hb.size; (try simp at hz); (try (have z6 := Nat.lt_of_lt_of_le z7 hz)); (try (have z7 := Nat.lt_of_lt_of_le z8 hz)); (try (have z8 := Nat.lt_of_lt_of_le z9 hz)); (try (have z9 := Nat.lt_of_lt_of_le (Nat.lt_succ_self _) hz)); (try (have z0 : w.heap.size < w'.heap.size := by omega)); (try (have z1 : w.heap.size + 1 < w'.heap.size := by omega)); (try (have z2 : w.heap.size + 1 + 1 < w'.heap.size := by omega)); (try (have z3 : w.heap.size + 1 + 1 + 1 < w'.heap.size := by omega))) | (go_at_call 23; refine (valid5_any _ _ _).mono ?_; rintro e w' ⟨rfl, hb⟩; (try replace hb := below_undrew hb); (try replace hb := below_undrewN hb); obtain ⟨hcell, hfroz⟩ := bcell hb; have hz := hb.size; (try simp at hz); (try (have z6 := Nat.lt_of_lt_of_le z7 hz)); (try (have z7 := Nat.lt_of_lt_of_le z8 hz)); (try (have z8 := Nat.lt_of_lt_of_le z9 hz)); (try (have z9 := Nat.lt_of_lt_of_le (Nat.lt_succ_self _) hz)); (try (have z0 : w.heap.size < w'.heap.size := by omega)); (try (have z1 : w.heap.size + 1 < w'.heap.size := by omega)); (try (have z2 : w.heap.size + 1 + 1 < w'.heap.size := by omega)); (try (have z3 : w.heap.size + 1 + 1 + 1 < w'.heap.size := by omega))))
  go_region_held3 (fun v => Below w'.heap.size w' v ∧ (∀ b o, b < w'.heap.size → v.cell? ⟨b, o, none⟩ = w'.cell? ⟨b, o, none⟩) ∧ (∀ b o, b < w'.heap.size → v.frozen? ⟨b, o, none⟩ = w'.frozen? ⟨b, o, none⟩)) (first | exact held_start _ | (refine held_of ?_; (repeat (first | exact Below.refl _ _ | refine bl_drewN ?_ | refine bl_drew ?_ | refine bl_alloc ?_ _ | refine Below.setCell ?_ (by (first | (simp; done) | (simp; omega) | omega)) _ | refine bl_step (by assumption) ?_)); done))
    (first | (go_at_call 15; refine (I.out _).mono ?_; rintro e w' ⟨rfl, hb⟩; (try replace hb := below_undrew hb); (try replace hb := below_undrewN hb); obtain ⟨hcell, hfroz⟩ := bcell hb; have hz := hb.size; (try simp at hz); (try (have z6 := Nat.lt_of_lt_of_le z7 hz)); (try (have z7 := Nat.lt_of_lt_of_le z8 hz)); (try (have z8 := Nat.lt_of_lt_of_le z9 hz)); (try (have z9 := Nat.lt_of_lt_of_le (Nat.lt_succ_self _) hz)); (try (have z0 : w.heap.size < w'.heap.size := by omega)); (try (have z1 : w.heap.size + 1 < w'.heap.size := by omega)); (try (have z2 : w.heap.size + 1 + 1 < w'.heap.size := by omega)); (try (have z3 : w.heap.size + 1 + 1 + 1 < w'.heap.size := by omega))) | (go_at_call 41; refine (J.out _).mono ?_; rintro e w' ⟨rfl, hb⟩; (try replace hb := below_undrew hb); (try replace hb := below_undrewN hb); obtain ⟨hcell, hfroz⟩ := bcell hb; have hz := hb.size; (try simp at hz); (try (have z6 := Nat.lt_of_lt_of_le z7 hz)); (try (have z7 := Nat.lt_of_lt_of_le z8 hz)); (try (have z8 := Nat.lt_of_lt_of_le z9 hz)); (try (have z9 := Nat.lt_of_lt_of_le (Nat.lt_succ_self _) hz)); (try (have z0 : w.heap.size < w'.heap.size := by omega)); (try (have z1 : w.heap.size + 1 < w'.heap.size := by omega)); (try (have z2 : w.heap.size + 1 + 1 < w'.heap.size := by omega)); (try (have z3 : w.heap.size + 1 + 1 + 1 < w'.heap.size := by omega))))
  all_goals go_wp2_with (first | (go_at_call 23; refine (valid5_any _ _ _).mono ?_; rintro e w' ⟨rfl, hb⟩; (try replace hb := below_undrew hb); (try replace hb := below_undrewN hb); obtain ⟨hcell, hfroz⟩ := bcell hb; have hz := hb.size; (try simp at hz); (try (have z6 := Nat.lt_of_lt_of_le z7 hz)); (try (have z7 := Nat.lt_of_lt_of_le z8 hz)); (try (have z8 := Nat.lt_of_lt_of_le z9 hz)); (try (have z9 := Nat.lt_of_lt_of_le (Nat.lt_succ_self _) hz)); (try (have z0 : w.heap.size < w'.heap.size := by omega)); (try (have z1 : w.heap.size + 1 < w'.heap.size := by omega)); (try (have z2 : w.heap.size + 1 + 1 < w'.heap.size := by omega)); (try (have z3 : w.heap.size + 1 + 1 + 1 < w'.heap.size := by omega))) | (go_at_call 38; refine (turn5_any _ _ _ (by omega) (by omega) (by omega)).mono ?_; rintro e w' ⟨rfl, hb⟩; (try replace hb := below_undrew hb); (try replace hb := below_undrewN hb); obtain ⟨hcell, hfroz⟩ := bcell hb; have hz := hb.size; (try simp at hz); (try (have z6 := Nat.lt_of_lt_of_le z7 hz)); (try (have z7 := Nat.lt_of_lt_of_le z8 hz)); (try (have z8 := Nat.lt_of_lt_of_le z9 hz)); (try (have z9 := Nat.lt_of_lt_of_le (Nat.lt_succ_self _) hz)); (try (have z0 : w.heap.size < w'.heap.size := by omega)); (try (have z1 : w.heap.size + 1 < w'.heap.size := by omega)); (try (have z2 : w.heap.size + 1 + 1 < w'.heap.size := by omega)); (try (have z3 : w.heap.size + 1 + 1 + 1 < w'.heap.size := by omega))))
  all_goals exact bodyPost_ret (v := .tuple #[.agg #[.int .i64 (0), .int .i64 (0)], .int .i64 (5)]) (by first | (simp only [results, Try.results18]; go_simp; done) | simp [results, Try.results18, go_sem, *]) rfl ⟨rfl, by (repeat (first | exact Below.refl _ _ | refine bl_drewN ?_ | refine bl_drew ?_ | refine bl_alloc ?_ _ | refine Below.setCell ?_ (by (first | (simp; done) | (simp; omega) | omega)) _ | refine bl_step (by assumption) ?_))⟩

set_option maxHeartbeats 400000 in
theorem when12_range (a s : Int) (w : World) (h : instB s = false) :
    Calls Try.prog 12 #[.int .i64 a, .int .i64 s] w fun e w' => e = .returned (.tuple #[.agg #[.int .i64 (0), .int .i64 (0)], .int .i64 (2)]) ∧ Below w.heap.size w w' := by
  go_enter Try.func12, Try.ntmps12
  go_wp2_with (go_at_call 14; refine (ranges12_any _ _).mono ?_; rintro e w' ⟨rfl, rfl⟩)
  exact bodyPost_ret (v := .tuple #[.agg #[.int .i64 (0), .int .i64 (0)], .int .i64 (2)]) (by first | (simp only [results, Try.results12]; go_simp; done) | simp [results, Try.results12, go_sem, *]) rfl ⟨rfl, by (repeat (first | exact Below.refl _ _ | refine bl_drewN ?_ | refine bl_drew ?_ | refine bl_alloc ?_ _ | refine Below.setCell ?_ (by (first | (simp; done) | (simp; omega) | omega)) _ | refine bl_step (by assumption) ?_))⟩

/-- the ways of an instant: the hour angle is less than g, is g, or is more -/
theorem when_ways (g m : Int) : (lowA m < g ∧ upA m ≤ g) ∨ (lowA m = g ∧ restA m = 0 ∧ upA m ≤ g) ∨ (lowA m = g ∧ restA m ≠ 0 ∧ g < upA m) ∨ (g < lowA m ∧ g < upA m) := by
  unfold lowA upA restA
  generalize NN m = n
  rcases Int.lt_trichotomy (n / 86400000000000) g with h | h | h
  · left; omega
  · by_cases h2 : n % 86400000000000 = 0
    · right; left; omega
    · right; right; left; omega
  · right; right; right; omega

theorem up_low (t : Int) : upA t ≤ lowA t + 1 := by unfold upA lowA; omega

theorem low_prev (m : Int) (h : restA m = 0) : lowA (m - 1) < lowA m := by
  unfold lowA; unfold restA at h
  have e : NN (m - 1) = NN m - 21659138841977 := by unfold NN; omega
  rw [e]
  generalize NN m = n at *
  omega

theorem when_end (g m : Int) (h1 : upA m ≤ g) (h2 : g < upA (m + 1)) : m = lastT g ∧ ((lowA m = g ∧ restA m = 0 ∧ firstT g = m) ∨ (lowA m < g ∧ firstT g = m + 1)) := by
  have a1 := (last_iff g m).2 h1
  have a2 : ¬ (m + 1 ≤ lastT g) := fun h => by have := (last_iff g (m + 1)).1 h; omega
  refine ⟨by omega, ?_⟩
  rcases when_ways g m with ⟨h, _⟩ | ⟨h, k, _⟩ | ⟨_, _, h⟩ | ⟨_, h⟩
  · right
    have b1 : ¬ (firstT g ≤ m) := fun c => by have := (first_iff g m).1 c; omega
    have b2 := (first_iff g (m + 1)).2 (by have := up_low (m + 1); omega)
    exact ⟨h, by omega⟩
  · left
    have b1 := (first_iff g m).2 (by omega)
    have b2 : ¬ (firstT g ≤ m - 1) := fun c => by have := (first_iff g (m - 1)).1 c; have := low_prev m k; omega
    exact ⟨h, k, by omega⟩
  · omega
  · omega

theorem when_start (a s : Int) : upA (s - 1) ≤ goal a s ∧ goal a s < upA (s + 86400000) := by
  have h := goal_bd a s
  generalize goal a s = g at *
  have e : upA s + 21600000 ≤ upA (s + 86400000) := by
    unfold upA
    have e1 : NN (s + 86400000) = NN s + 1871349595946812800000 := by unfold NN; omega
    rw [e1]
    generalize NN s = n
    omega
  have e2 := upA_mono (show s - 1 ≤ s by omega)
  omega

end Go.Proofs.Ytccmpibljahpbaa
