/- Currents: components of motions, and the direction and size of components, as contracts by their numbers. -/
import Derived.Test.YtdhbeoahpfimbaaGreatMd
import Derived.Test.YtdhbeoahpfimbaaGreatArcW
import Derived.Test.YtdhbeoahpfimbaaGreatSpd
namespace Go.Proofs.YtdhbeoahpfimbaaGreat
open Go.RowKit
/-- arcs from one number to another one -/
def wiB (lo hi a b : Int) : Bool := decide (a ≤ b ∧ lo ≤ a ∧ b ≤ hi)
theorem wiB_t {lo hi a b : Int} (h : wiB lo hi a b = true) : a ≤ b ∧ lo ≤ a ∧ b ≤ hi := of_decide_eq_true h
theorem wiB_mk {lo hi a b : Int} (h : a ≤ b ∧ lo ≤ a ∧ b ≤ hi) : wiB lo hi a b = true := decide_eq_true h
set_option maxHeartbeats 1000000 in
theorem cwithin_any (a b lo hi : Int) (w : World) (hl : -1099511627776 ≤ lo) (hh : hi ≤ 1099511627776) :
    Calls Tryz.prog 215 #[.agg #[.int .i64 a, .int .i64 b], .int .i64 lo, .int .i64 hi] w fun e w' => e = .returned (.bool (wiB lo hi a b)) ∧ Below w.heap.size w w' := by
  have V := hidden fun w => valid_any a b w
  cases h1 : arcB a b
  · have h2 : wiB lo hi a b = false := by
      cases h : wiB lo hi a b with
      | false => rfl
      | true => have := wiB_t h; rw [arcB_mk (by omega)] at h1; cases h1
    rw [h1] at V
    have H := hidden h2
    clear h1 h2
    go_enter Tryz.func215, Tryz.ntmps215
    go_wp2_with (go_at_call 45; ((with_reducible refine (V.out _).mono ?_); rintro e w' ⟨rfl, hb⟩); (try replace hb := below_undrew hb); (try replace hb := below_undrewN hb); obtain ⟨hcell, hfroz⟩ := bcell hb; have hz := hb.size; (try simp at hz); (try (have z9 := Nat.lt_of_lt_of_le (Nat.lt_succ_self _) hz)); (try have z0 : w.heap.size < w'.heap.size := by omega); (try have z1 : w.heap.size + 1 < w'.heap.size := by omega); (try have z2 : w.heap.size + 1 + 1 < w'.heap.size := by omega); (try have z3 : w.heap.size + 1 + 1 + 1 < w'.heap.size := by omega))
    all_goals go_ret
    all_goals exact ⟨by rw [H.out]; rfl, by (repeat (first | exact Below.refl _ _ | refine bl_drewN ?_ | refine bl_drew ?_ | refine bl_alloc ?_ _ | refine Below.setCell ?_ (by (first | (simp; done) | (simp; omega) | omega)) _ | refine bl_step (by assumption) ?_))⟩
  · rw [h1] at V
    have t := arcB_t h1
    by_cases h3 : lo ≤ a
    · by_cases h4 : b ≤ hi
      · have H := hidden (show wiB lo hi a b = true from wiB_mk (by omega))
        clear h1
        go_enter Tryz.func215, Tryz.ntmps215
        go_wp2_with (go_at_call 45; ((with_reducible refine (V.out _).mono ?_); rintro e w' ⟨rfl, hb⟩); (try replace hb := below_undrew hb); (try replace hb := below_undrewN hb); obtain ⟨hcell, hfroz⟩ := bcell hb; have hz := hb.size; (try simp at hz); (try (have z9 := Nat.lt_of_lt_of_le (Nat.lt_succ_self _) hz)); (try have z0 : w.heap.size < w'.heap.size := by omega); (try have z1 : w.heap.size + 1 < w'.heap.size := by omega); (try have z2 : w.heap.size + 1 + 1 < w'.heap.size := by omega); (try have z3 : w.heap.size + 1 + 1 + 1 < w'.heap.size := by omega))
        all_goals go_ret
        all_goals exact ⟨by rw [H.out]; rfl, by (repeat (first | exact Below.refl _ _ | refine bl_drewN ?_ | refine bl_drew ?_ | refine bl_alloc ?_ _ | refine Below.setCell ?_ (by (first | (simp; done) | (simp; omega) | omega)) _ | refine bl_step (by assumption) ?_))⟩
      · have H := hidden (show wiB lo hi a b = false from by unfold wiB; simp; omega)
        have h5 : decide (b ≤ hi) = false := by simp; omega
        clear h1
        go_enter Tryz.func215, Tryz.ntmps215
        go_wp2_with (go_at_call 45; ((with_reducible refine (V.out _).mono ?_); rintro e w' ⟨rfl, hb⟩); (try replace hb := below_undrew hb); (try replace hb := below_undrewN hb); obtain ⟨hcell, hfroz⟩ := bcell hb; have hz := hb.size; (try simp at hz); (try (have z9 := Nat.lt_of_lt_of_le (Nat.lt_succ_self _) hz)); (try have z0 : w.heap.size < w'.heap.size := by omega); (try have z1 : w.heap.size + 1 < w'.heap.size := by omega); (try have z2 : w.heap.size + 1 + 1 < w'.heap.size := by omega); (try have z3 : w.heap.size + 1 + 1 + 1 < w'.heap.size := by omega))
        all_goals go_ret
        all_goals exact ⟨by rw [H.out]; rfl, by (repeat (first | exact Below.refl _ _ | refine bl_drewN ?_ | refine bl_drew ?_ | refine bl_alloc ?_ _ | refine Below.setCell ?_ (by (first | (simp; done) | (simp; omega) | omega)) _ | refine bl_step (by assumption) ?_))⟩
    · have H := hidden (show wiB lo hi a b = false from by unfold wiB; simp; omega)
      clear h1
      go_enter Tryz.func215, Tryz.ntmps215
      go_wp2_with (go_at_call 45; ((with_reducible refine (V.out _).mono ?_); rintro e w' ⟨rfl, hb⟩); (try replace hb := below_undrew hb); (try replace hb := below_undrewN hb); obtain ⟨hcell, hfroz⟩ := bcell hb; have hz := hb.size; (try simp at hz); (try (have z9 := Nat.lt_of_lt_of_le (Nat.lt_succ_self _) hz)); (try have z0 : w.heap.size < w'.heap.size := by omega); (try have z1 : w.heap.size + 1 < w'.heap.size := by omega); (try have z2 : w.heap.size + 1 + 1 < w'.heap.size := by omega); (try have z3 : w.heap.size + 1 + 1 + 1 < w'.heap.size := by omega))
      all_goals go_ret
      all_goals exact ⟨by rw [H.out]; rfl, by (repeat (first | exact Below.refl _ _ | refine bl_drewN ?_ | refine bl_drew ?_ | refine bl_alloc ?_ _ | refine Below.setCell ?_ (by (first | (simp; done) | (simp; omega) | omega)) _ | refine bl_step (by assumption) ?_))⟩
theorem cspeed_any (a b : Int) (w : World) :
    Calls Tryz.prog 122 #[.agg #[.int .i64 a, .int .i64 b]] w fun e w' => e = .returned (.bool (wiB 0 200000 a b)) ∧ Below w.heap.size w w' := by
  have W := hidden fun w => cwithin_any a b 0 200000 w (by decide) (by decide)
  generalize wiB 0 200000 a b = r at *
  go_enter Tryz.func122, Tryz.ntmps122
  go_wp2_with (go_at_call 215; ((with_reducible refine (W.out _).mono ?_); rintro e w' ⟨rfl, hb⟩); (try replace hb := below_undrew hb); (try replace hb := below_undrewN hb); obtain ⟨hcell, hfroz⟩ := bcell hb; have hz := hb.size; (try simp at hz); (try (have z9 := Nat.lt_of_lt_of_le (Nat.lt_succ_self _) hz)); (try have z0 : w.heap.size < w'.heap.size := by omega); (try have z1 : w.heap.size + 1 < w'.heap.size := by omega); (try have z2 : w.heap.size + 1 + 1 < w'.heap.size := by omega); (try have z3 : w.heap.size + 1 + 1 + 1 < w'.heap.size := by omega))
  go_ret
  exact ⟨rfl, by (repeat (first | exact Below.refl _ _ | refine bl_drewN ?_ | refine bl_drew ?_ | refine bl_alloc ?_ _ | refine Below.setCell ?_ (by (first | (simp; done) | (simp; omega) | omega)) _ | refine bl_step (by assumption) ?_))⟩
theorem moves_ok (a b c d : Int) (w : World) (h1 : arcB a b = true) (h2 : wiB 0 200000 c d = true) :
    Calls Tryz.prog 119 #[.agg #[.int .i64 a, .int .i64 b], .agg #[.int .i64 c, .int .i64 d]] w fun e w' => e = .returned (.bool true) ∧ Below w.heap.size w w' := by
  have V := hidden fun w => (by have := valid_any a b w; rw [h1] at this; exact this : Calls Tryz.prog 45 #[.agg #[.int .i64 a, .int .i64 b]] w fun e w' => e = .returned (.bool true) ∧ Below w.heap.size w w')
  have S := hidden fun w => (by have := cspeed_any c d w; rw [h2] at this; exact this : Calls Tryz.prog 122 #[.agg #[.int .i64 c, .int .i64 d]] w fun e w' => e = .returned (.bool true) ∧ Below w.heap.size w w')
  clear h1 h2
  go_enter Tryz.func119, Tryz.ntmps119
  go_wp2_with (((first | (go_at_call 45; ((with_reducible refine (V.out _).mono ?_); rintro e w' ⟨rfl, hb⟩); have nm0 := trivial) | (go_at_call 122; ((with_reducible refine (S.out _).mono ?_); rintro e w' ⟨rfl, hb⟩); have nm1 := trivial)); (try replace hb := below_undrew hb); (try replace hb := below_undrewN hb); obtain ⟨hcell, hfroz⟩ := bcell hb; have hz := hb.size; (try simp at hz); (try (have z9 := Nat.lt_of_lt_of_le (Nat.lt_succ_self _) hz)); (try have z0 : w.heap.size < w'.heap.size := by omega); (try have z1 : w.heap.size + 1 < w'.heap.size := by omega); (try have z2 : w.heap.size + 1 + 1 < w'.heap.size := by omega); (try have z3 : w.heap.size + 1 + 1 + 1 < w'.heap.size := by omega); (try have y1 : w1.heap.size < w'.heap.size := by omega); (try have x1 : w1.heap.size + 1 < w'.heap.size := by omega); (try have z10 : w1.heap.size < w'.heap.size + 1 := by omega); (first | (clear nm0; obtain ⟨w1, rfl⟩ : ∃ v, v = w' := ⟨_, rfl⟩) | (clear nm1; obtain ⟨w2, rfl⟩ : ∃ v, v = w' := ⟨_, rfl⟩))))
  go_ret
  exact ⟨rfl, by (repeat (first | exact Below.refl _ _ | refine bl_drewN ?_ | refine bl_drew ?_ | refine bl_alloc ?_ _ | refine Below.setCell ?_ (by (first | (simp; done) | (simp; omega) | omega)) _ | refine bl_step (by assumption) ?_))⟩
set_option maxHeartbeats 1000000 in
theorem cprod_walk (a b f g x y p q L H : Int) (w : World) (hL : min x p = L) (hH : max y q = H)
    (S1 : Hid (∀ w, Calls Tryz.prog 51 #[.agg #[.int .i64 f, .int .i64 g], .int .i64 a] w fun e w' => e = .returned (.tuple #[.int .i64 x, .int .i64 y, .int .i64 0]) ∧ Below w.heap.size w w'))
    (S2 : Hid (∀ w, Calls Tryz.prog 51 #[.agg #[.int .i64 f, .int .i64 g], .int .i64 b] w fun e w' => e = .returned (.tuple #[.int .i64 p, .int .i64 q, .int .i64 0]) ∧ Below w.heap.size w w')) :
    Calls Tryz.prog 211 #[.agg #[.int .i64 a, .int .i64 b], .agg #[.int .i64 f, .int .i64 g]] w fun e w' => e = .returned (.tuple #[.agg #[.int .i64 L, .int .i64 H], .int .i64 0]) ∧ Below w.heap.size w w' := by
  go_enter Tryz.func211, Tryz.ntmps211
  go_wp2_with (((first | (go_at_call 51; ((with_reducible refine (S1.out _).mono ?_); rintro e w' ⟨rfl, hb⟩); have nm0 := trivial) | (go_at_call 51; ((with_reducible refine (S2.out _).mono ?_); rintro e w' ⟨rfl, hb⟩); have nm1 := trivial)); (try replace hb := below_undrew hb); (try replace hb := below_undrewN hb); obtain ⟨hcell, hfroz⟩ := bcell hb; have hz := hb.size; (try simp at hz); (try (have z9 := Nat.lt_of_lt_of_le (Nat.lt_succ_self _) hz)); (try have z0 : w.heap.size < w'.heap.size := by omega); (try have z1 : w.heap.size + 1 < w'.heap.size := by omega); (try have z2 : w.heap.size + 1 + 1 < w'.heap.size := by omega); (try have z3 : w.heap.size + 1 + 1 + 1 < w'.heap.size := by omega); (try have y1 : w1.heap.size < w'.heap.size := by omega); (try have x1 : w1.heap.size + 1 < w'.heap.size := by omega); (try have z10 : w1.heap.size < w'.heap.size + 1 := by omega); (first | (clear nm0; obtain ⟨w1, rfl⟩ : ∃ v, v = w' := ⟨_, rfl⟩) | (clear nm1; obtain ⟨w2, rfl⟩ : ∃ v, v = w' := ⟨_, rfl⟩))))
  exact bodyPost_ret (v := .tuple #[.agg #[.int .i64 L, .int .i64 H], .int .i64 0]) (by first | (simp only [results, Tryz.results211]; go_simp; done) | simp [results, Tryz.results211, go_sem, *]) rfl ⟨rfl, by (repeat (first | (with_reducible exact Below.refl _ _) | (with_reducible refine Below.setCell ?_ (by (first | (simp; done) | (simp; omega) | omega)) _) | (with_reducible refine bl_alloc ?_ _) | (with_reducible refine bl_drewN ?_) | (with_reducible refine bl_drew ?_) | (with_reducible refine bl_step (by assumption) ?_)))⟩
theorem cprod_any (a b f g : Int) (w : World) (hf : fixB f g = true) (ha : reachB a = true) (hb : reachB b = true) :
    Calls Tryz.prog 211 #[.agg #[.int .i64 a, .int .i64 b], .agg #[.int .i64 f, .int .i64 g]] w fun e w' => e = .returned (.tuple #[.agg #[.int .i64 (tmLo a b f g), .int .i64 (tmHi a b f g)], .int .i64 0]) ∧ Below w.heap.size w w' :=
  cprod_walk a b f g _ _ _ _ _ _ w rfl rfl (hidden fun w => scale_any f g a w hf ha) (hidden fun w => scale_any f g b w hf hb)
set_option maxRecDepth 100000 in
set_option maxHeartbeats 4000000 in
theorem cparts_walk (a b c d x y u v L1 H1 L2 H2 : Int) (w : World)
    (C : Hid (∀ w, Calls Tryz.prog 124 #[.agg #[.int .i64 a, .int .i64 b]] w fun e w' => e = .returned (.tuple #[.agg #[.int .i64 x, .int .i64 y], .int .i64 0]) ∧ Below w.heap.size w w'))
    (S : Hid (∀ w, Calls Tryz.prog 125 #[.agg #[.int .i64 a, .int .i64 b]] w fun e w' => e = .returned (.tuple #[.agg #[.int .i64 u, .int .i64 v], .int .i64 0]) ∧ Below w.heap.size w w'))
    (P : Hid (∀ w, Calls Tryz.prog 211 #[.agg #[.int .i64 c, .int .i64 d], .agg #[.int .i64 x, .int .i64 y]] w fun e w' => e = .returned (.tuple #[.agg #[.int .i64 L1, .int .i64 H1], .int .i64 0]) ∧ Below w.heap.size w w'))
    (Q : Hid (∀ w, Calls Tryz.prog 211 #[.agg #[.int .i64 c, .int .i64 d], .agg #[.int .i64 u, .int .i64 v]] w fun e w' => e = .returned (.tuple #[.agg #[.int .i64 L2, .int .i64 H2], .int .i64 0]) ∧ Below w.heap.size w w')) :
    Calls Tryz.prog 120 #[.agg #[.int .i64 a, .int .i64 b], .agg #[.int .i64 c, .int .i64 d]] w fun e w' => e = .returned (.tuple #[.agg #[.int .i64 L1, .int .i64 H1], .agg #[.int .i64 L2, .int .i64 H2], .int .i64 0]) ∧ Below w.heap.size w w' := by
  go_enter Tryz.func120, Tryz.ntmps120
  go_wp2_with (((first | (go_at_call 124; ((with_reducible refine (C.out _).mono ?_); rintro e w' ⟨rfl, hb⟩); have nm0 := trivial) | (go_at_call 125; ((with_reducible refine (S.out _).mono ?_); rintro e w' ⟨rfl, hb⟩); have nm1 := trivial) | (go_at_call 211; ((with_reducible refine (P.out _).mono ?_); rintro e w' ⟨rfl, hb⟩); have nm2 := trivial) | (go_at_call 211; ((with_reducible refine (Q.out _).mono ?_); rintro e w' ⟨rfl, hb⟩); have nm3 := trivial)); (try replace hb := below_undrew hb); (try replace hb := below_undrewN hb); obtain ⟨hcell, hfroz⟩ := bcell hb; have hz := hb.size; (try simp at hz); (try (have z9 := Nat.lt_of_lt_of_le (Nat.lt_succ_self _) hz)); (try have z0 : w.heap.size < w'.heap.size := by omega); (try have z1 : w.heap.size + 1 < w'.heap.size := by omega); (try have z2 : w.heap.size + 1 + 1 < w'.heap.size := by omega); (try have z3 : w.heap.size + 1 + 1 + 1 < w'.heap.size := by omega); (try have y1 : w1.heap.size < w'.heap.size := by omega); (try have y2 : w2.heap.size < w'.heap.size := by omega); (try have y3 : w3.heap.size < w'.heap.size := by omega); (try have x1 : w1.heap.size + 1 < w'.heap.size := by omega); (try have x2 : w2.heap.size + 1 < w'.heap.size := by omega); (try have x3 : w3.heap.size + 1 < w'.heap.size := by omega); (try have z10 : w1.heap.size < w'.heap.size + 1 := by omega); (try have z20 : w2.heap.size < w'.heap.size + 1 := by omega); (try have z30 : w3.heap.size < w'.heap.size + 1 := by omega); (first | (clear nm0; obtain ⟨w1, rfl⟩ : ∃ v, v = w' := ⟨_, rfl⟩) | (clear nm1; obtain ⟨w2, rfl⟩ : ∃ v, v = w' := ⟨_, rfl⟩) | (clear nm2; obtain ⟨w3, rfl⟩ : ∃ v, v = w' := ⟨_, rfl⟩) | (clear nm3; obtain ⟨w4, rfl⟩ : ∃ v, v = w' := ⟨_, rfl⟩))))
  (refine name_code ?_; intro w' hb; (try replace hb := below_undrew hb); (try replace hb := below_undrewN hb); obtain ⟨hcell, hfroz⟩ := bcell hb; have hz := hb.size; (try simp at hz); (try (have z9 := Nat.lt_of_lt_of_le (Nat.lt_succ_self _) hz)); (try have z0 : w.heap.size < w'.heap.size := by omega); (try have z1 : w.heap.size + 1 < w'.heap.size := by omega); (try have z2 : w.heap.size + 1 + 1 < w'.heap.size := by omega); (try have z3 : w.heap.size + 1 + 1 + 1 < w'.heap.size := by omega); (try have y1 : w1.heap.size < w'.heap.size := by omega); (try have y2 : w2.heap.size < w'.heap.size := by omega); (try have y3 : w3.heap.size < w'.heap.size := by omega); (try have y4 : w4.heap.size < w'.heap.size := by omega); (try have x1 : w1.heap.size + 1 < w'.heap.size := by omega); (try have x2 : w2.heap.size + 1 < w'.heap.size := by omega); (try have x3 : w3.heap.size + 1 < w'.heap.size := by omega); (try have x4 : w4.heap.size + 1 < w'.heap.size := by omega); (try have z10 : w1.heap.size < w'.heap.size + 1 := by omega); (try have z20 : w2.heap.size < w'.heap.size + 1 := by omega); (try have z30 : w3.heap.size < w'.heap.size + 1 := by omega); (try have z40 : w4.heap.size < w'.heap.size + 1 := by omega))
  have hw0 : Below w.heap.size w w' := by (repeat (first | (with_reducible exact Below.refl _ _) | (with_reducible refine Below.setCell ?_ (by (first | (simp; done) | (simp; omega) | omega)) _) | (with_reducible refine bl_alloc ?_ _) | (with_reducible refine bl_drewN ?_) | (with_reducible refine bl_drew ?_) | (with_reducible refine bl_step (by assumption) ?_)))
  have k0 : w'.cell? ⟨w.heap.size + 1 + 1, 0, none⟩ = some (.int .i64 L1) := by simp [go_sem, *]
  have k1 : w'.cell? ⟨w.heap.size + 1 + 1, 1, none⟩ = some (.int .i64 H1) := by simp [go_sem, *]
  have kf : ∀ o, w'.frozen? ⟨w.heap.size + 1 + 1, o, none⟩ = false := by intro o; simp [go_sem, *]
  have l0 : w'.cell? ⟨w.heap.size + 1 + 1 + 1, 0, none⟩ = some (.int .i64 L2) := by simp [go_sem, *]
  have l1 : w'.cell? ⟨w.heap.size + 1 + 1 + 1, 1, none⟩ = some (.int .i64 H2) := by simp [go_sem, *]
  have lf : ∀ o, w'.frozen? ⟨w.heap.size + 1 + 1 + 1, o, none⟩ = false := by intro o; simp [go_sem, *]
  clear hcell hfroz hz hb
  obtain ⟨V0, rfl⟩ : ∃ v, v = w' := ⟨_, rfl⟩
  have g3 : w.heap.size + 1 + 1 + 1 < V0.heap.size := World.block_lt_of_cell? _ _ l0
  have g2 : w.heap.size + 1 + 1 < V0.heap.size := by omega
  go_region
  go_wp2
  exact bodyPost_ret (v := .tuple #[.agg #[.int .i64 L1, .int .i64 H1], .agg #[.int .i64 L2, .int .i64 H2], .int .i64 0]) (by first | (simp only [results, Tryz.results120]; go_simp; done) | simp [results, Tryz.results120, go_sem, *]) rfl ⟨rfl, by (repeat (first | (with_reducible exact Below.refl _ _) | (with_reducible refine Below.setCell ?_ (by (first | (simp; done) | (simp; omega) | omega)) _) | (with_reducible refine bl_alloc ?_ _) | (with_reducible refine bl_drewN ?_) | (with_reducible refine bl_drew ?_) | (with_reducible refine bl_step (by assumption) ?_)))⟩
theorem cleast_any (a b : Int) (w : World) (h0 : -1099511627776 ≤ b) (h1 : b ≤ 1099511627776) :
    Calls Tryz.prog 213 #[.agg #[.int .i64 a, .int .i64 b]] w fun e w' => e = .returned (.int .i64 (Spd.leastA a b)) ∧ Below w.heap.size w w' := by
  have H : max 0 (max a (-b)) = Spd.leastA a b := rfl
  generalize Spd.leastA a b = r at *
  by_cases h2 : 0 < a
  · by_cases h3 : a < -b
    · obtain rfl : r = -b := by omega
      clear H
      go_enter Tryz.func213, Tryz.ntmps213
      go_wp2
      go_ret
      exact ⟨rfl, by (repeat (first | exact Below.refl _ _ | refine bl_drewN ?_ | refine bl_drew ?_ | refine bl_alloc ?_ _ | refine Below.setCell ?_ (by (first | (simp; done) | (simp; omega) | omega)) _ | refine bl_step (by assumption) ?_))⟩
    · obtain rfl : r = a := by omega
      have h4 : -b ≤ r := by omega
      clear H
      go_enter Tryz.func213, Tryz.ntmps213
      go_wp2
      go_ret
      exact ⟨rfl, by (repeat (first | exact Below.refl _ _ | refine bl_drewN ?_ | refine bl_drew ?_ | refine bl_alloc ?_ _ | refine Below.setCell ?_ (by (first | (simp; done) | (simp; omega) | omega)) _ | refine bl_step (by assumption) ?_))⟩
  · have h5 : a ≤ 0 := by omega
    by_cases h3 : 0 < -b
    · obtain rfl : r = -b := by omega
      clear H
      go_enter Tryz.func213, Tryz.ntmps213
      go_wp2
      go_ret
      exact ⟨rfl, by (repeat (first | exact Below.refl _ _ | refine bl_drewN ?_ | refine bl_drew ?_ | refine bl_alloc ?_ _ | refine Below.setCell ?_ (by (first | (simp; done) | (simp; omega) | omega)) _ | refine bl_step (by assumption) ?_))⟩
    · obtain rfl : r = 0 := by omega
      have h4 : -b ≤ 0 := by omega
      clear H
      go_enter Tryz.func213, Tryz.ntmps213
      go_wp2
      go_ret
      exact ⟨rfl, by (repeat (first | exact Below.refl _ _ | refine bl_drewN ?_ | refine bl_drew ?_ | refine bl_alloc ?_ _ | refine Below.setCell ?_ (by (first | (simp; done) | (simp; omega) | omega)) _ | refine bl_step (by assumption) ?_))⟩
theorem cmost_any (a b : Int) (w : World) (h0 : -1099511627776 ≤ a) (h1 : a ≤ 1099511627776) :
    Calls Tryz.prog 214 #[.agg #[.int .i64 a, .int .i64 b]] w fun e w' => e = .returned (.int .i64 (Spd.mostA a b)) ∧ Below w.heap.size w w' := by
  go_enter Tryz.func214, Tryz.ntmps214
  go_wp2
  go_ret
  exact ⟨rfl, by (repeat (first | exact Below.refl _ _ | refine bl_drewN ?_ | refine bl_drew ?_ | refine bl_alloc ?_ _ | refine Below.setCell ?_ (by (first | (simp; done) | (simp; omega) | omega)) _ | refine bl_step (by assumption) ?_))⟩
theorem sq_step {n r m : Int} (h : isRoot n r) (m0 : 0 ≤ m) : m * m ≤ n ↔ m ≤ r := by
  obtain ⟨r0, h1, h2⟩ := h
  constructor
  · intro k
    rcases Int.lt_or_le r m with q | q
    · have := Spd.sq_le (x := r + 1) (y := m) (by omega) (by omega)
      omega
    · exact q
  · intro k
    have := Spd.sq_le m0 k
    omega
set_option maxHeartbeats 1000000 in
theorem croot_any (n r : Int) (w : World) (r1 : r < 2097152) (h : isRoot n r) :
    Calls Tryz.prog 212 #[.int .i64 n] w fun e w' => e = .returned (.int .i64 r) ∧ w = w' := by
  have H := hidden h
  have r0 := h.1
  clear h
  go_enter Tryz.func212, Tryz.ntmps212
  go_wp2
  go_loop [3, 4] (fun lv hv => ∃ lo hi : Nat, lv = .int .i64 lo ∧ hv = .int .i64 hi ∧ (lo : Int) ≤ r ∧ r < hi ∧ hi ≤ 2097152) (fun lv hv => (intOf hv - intOf lv).toNat)
  case atStart => exact ⟨0, 2097152, rfl, rfl, by omega, by omega, by omega⟩
  case round =>
    obtain ⟨lo, hi, rfl, rfl, a, b, c⟩ := hrel
    by_cases hd : (1 : Int) < (hi : Int) - (lo : Int)
    · have q1 : decide ((1 : Int) < (hi : Int) - (lo : Int)) = true := by simp; omega
      obtain ⟨m, hm⟩ : ∃ m : Int, ((lo : Int) + (hi : Int)) / 2 = m := ⟨_, rfl⟩
      have m0 : (lo : Int) < m := by omega
      have m1 : m < hi := by omega
      obtain ⟨s, hs⟩ : ∃ s, m * m = s := ⟨_, rfl⟩
      have W1 : IntKind.i64.wrap (m * m) = s := by
        have := Spd.sq_le (x := m) (y := 2097152) (by omega) (by omega)
        have := Spd.sq_nn m
        rw [IntKind.wrap_i64, hs]; omega
      have st := sq_step H.out (by omega : 0 ≤ m)
      rw [hs] at st
      by_cases hq : m ≤ r
      · have k1 : decide (s ≤ n) = true := decide_eq_true (st.2 hq)
        clear hs st hd
        go_wp2
        go_round
        case rel => exact ⟨m.toNat, hi, by rw [show ((m.toNat : Nat) : Int) = ((lo : Int) + (hi : Int)) / 2 by omega], rfl, by omega, by omega, by omega⟩
        case measure => simp [intOf]; omega
      · have k1 : decide (s ≤ n) = false := decide_eq_false (fun h => hq (st.1 h))
        clear hs st hd
        go_wp2
        go_round
        case rel => exact ⟨lo, m.toNat, rfl, by rw [show ((m.toNat : Nat) : Int) = ((lo : Int) + (hi : Int)) / 2 by omega], by omega, by omega, by omega⟩
        case measure => simp [intOf]; omega
    · have q1 : decide ((1 : Int) < (hi : Int) - (lo : Int)) = false := by simp; omega
      obtain rfl : r = lo := by omega
      go_wp2
      go_ret
      exact ⟨rfl, rfl⟩
end Go.Proofs.YtdhbeoahpfimbaaGreat
