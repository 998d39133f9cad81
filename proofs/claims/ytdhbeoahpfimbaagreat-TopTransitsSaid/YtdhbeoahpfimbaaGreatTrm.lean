/- The statement on transits, as a walk by what it calls. -/
import Derived.Test.YtdhbeoahpfimbaaGreatTrt
namespace Go.Proofs.YtdhbeoahpfimbaaGreat
open Go.RowKit
set_option maxRecDepth 100000 in
set_option maxHeartbeats 2000000 in
theorem tout_twice (a : Option Addr) (n c : Nat) (k l fr : Int) (w : World) (W : Hid (∀ w, Calls Tryz.prog 6 #[] w fun e w' => e = .returned (.bool true) ∧ Below w.heap.size w w')) (h0 : 0 < n) (hn : n ≤ 10)
    (l0 : -10800000 ≤ l) (l1 : l < 10800000) (f0 : -70368744177664 ≤ fr) (f1 : fr ≤ 70368528177664)
    (V : Hid (∀ wq, Below w.heap.size w wq → Calls Tryz.prog 27 #[.slice a n c] wq fun e w' => e = .returned (.bool true) ∧ Below wq.heap.size wq w'))
    (NW : Hid (∀ wq, Below w.heap.size w wq → Calls Tryz.prog 28 #[.slice none 0 0, .slice a n c] wq fun e w' => e = .returned (.tuple #[.pointer none, .int .i64 10]) ∧ Below wq.heap.size wq w')) :
    Calls Tryz.prog 5 #[.slice a n c, .int .u8 k, .int .i64 l, .int .i64 fr] w fun e w' => e = .returned (.bool true) ∧ Below w.heap.size w w' := by
  have q0 : decide ((10 : Int) < n) = false := by simp; omega
  have q1 : ((n : Int) == 0) = false := by simp; omega
  have d1 : decide (l < -10800000) = false := by simp; omega
  have d2 : decide (10800000 ≤ l) = false := by simp; omega
  have d3 : decide (fr < -70368744177664) = false := by simp; omega
  have d4 : decide (70368528177664 < fr) = false := by simp; omega
  go_enter Tryz.func5, Tryz.ntmps5
  go_wp2_with (((first | (go_at_call 6; ((with_reducible refine (W.out _).mono ?_); rintro e w' ⟨rfl, hb⟩); have nm0 := trivial) | (go_at_call 27; ((with_reducible refine (V.out _ (by (repeat (first | (with_reducible exact Below.refl _ _) | (with_reducible refine Below.setCell ?_ (by (first | (simp; done) | (simp; omega) | omega)) _) | (with_reducible refine bl_alloc ?_ _) | (with_reducible refine bl_drewN ?_) | (with_reducible refine bl_drew ?_) | (with_reducible refine bl_step (by assumption) ?_))))).mono ?_); rintro e w' ⟨rfl, hb⟩); have nm1 := trivial) | (go_at_call 28; ((with_reducible refine (NW.out _ (by (repeat (first | (with_reducible exact Below.refl _ _) | (with_reducible refine Below.setCell ?_ (by (first | (simp; done) | (simp; omega) | omega)) _) | (with_reducible refine bl_alloc ?_ _) | (with_reducible refine bl_drewN ?_) | (with_reducible refine bl_drew ?_) | (with_reducible refine bl_step (by assumption) ?_))))).mono ?_); rintro e w' ⟨rfl, hb⟩); have nm2 := trivial)); (try replace hb := below_undrew hb); (try replace hb := below_undrewN hb); obtain ⟨hcell, hfroz⟩ := bcell hb; have hz := hb.size; (try simp at hz); (try (have z6 := Nat.lt_of_lt_of_le z7 hz)); (try (have z7 := Nat.lt_of_lt_of_le z8 hz)); (try (have z8 := Nat.lt_of_lt_of_le z9 hz)); (try (have z9 := Nat.lt_of_lt_of_le (Nat.lt_succ_self _) hz)); (try have z0 : w.heap.size < w'.heap.size := by omega); (try have z1 : w.heap.size + 1 < w'.heap.size := by omega); (try have z2 : w.heap.size + 1 + 1 < w'.heap.size := by omega); (try have z3 : w.heap.size + 1 + 1 + 1 < w'.heap.size := by omega); (try have y1 : w1.heap.size < w'.heap.size := by omega); (try have y2 : w2.heap.size < w'.heap.size := by omega); (try have x1 : w1.heap.size + 1 < w'.heap.size := by omega); (try have x2 : w2.heap.size + 1 < w'.heap.size := by omega); (try have z10 : w1.heap.size < w'.heap.size + 1 := by omega); (try have z20 : w2.heap.size < w'.heap.size + 1 := by omega); (first | (clear nm0; obtain ⟨w1, rfl⟩ : ∃ v, v = w' := ⟨_, rfl⟩) | (clear nm1; obtain ⟨w2, rfl⟩ : ∃ v, v = w' := ⟨_, rfl⟩) | (clear nm2; obtain ⟨w3, rfl⟩ : ∃ v, v = w' := ⟨_, rfl⟩))))
  go_ret
  exact ⟨rfl, by (repeat (first | (with_reducible exact Below.refl _ _) | (with_reducible refine Below.setCell ?_ (by (first | (simp; done) | (simp; omega) | omega)) _) | (with_reducible refine bl_alloc ?_ _) | (with_reducible refine bl_drewN ?_) | (with_reducible refine bl_drew ?_) | (with_reducible refine bl_step (by assumption) ?_)))⟩
set_option maxRecDepth 100000 in
set_option maxHeartbeats 8000000 in
theorem tra_main (B oo n c i : Nat) (nm : Nat → ByteArray) (f : Nat → Nat → Int) (t : ByteArray) (s d m lo hi l fr zl zh p0 p1 g0 g1 o0 o1 u0 u1 : Int) (k8 : Nat) (w : World) (W : Hid (∀ w, Calls Tryz.prog 6 #[] w fun e w' => e = .returned (.bool true) ∧ Below w.heap.size w w')) (h0 : 0 < n) (hn : n ≤ 10)
    (l0 : -10800000 ≤ l) (l1 : l < 10800000) (f0 : -70368744177664 ≤ fr) (f1 : fr ≤ 70368528177664) (hS : Hid (StS w B oo n nm f)) (hk8 : k8 ≤ 255) (hk : k8 % n = i) (ht : nm i = t) (hs : f i 0 = s) (hd : f i 1 = d) (hm : f i 2 = m)
    (V : Hid (∀ wq, Below w.heap.size w wq → Calls Tryz.prog 27 #[.slice (some ⟨B, oo, none⟩) n c] wq fun e w' => e = .returned (.bool true) ∧ Below wq.heap.size wq w'))
    (NW : Hid (∀ wq, Below w.heap.size w wq → Calls Tryz.prog 28 #[.slice none 0 0, .slice (some ⟨B, oo, none⟩) n c] wq fun e w' => Below wq.heap.size wq w' ∧ ∃ b, e = .returned (.tuple #[.pointer (some ⟨b, 0, none⟩), .int .i64 0]) ∧ BkS w' b n nm f))
    (TR : Hid (∀ b wq, BkS wq b n nm f → Calls Tryz.prog 29 #[.pointer (some ⟨b, 0, none⟩), .string t, .agg #[.int .i64 l, .int .i64 l], .int .i64 fr] wq fun e w' => e = .returned (.tuple #[.agg #[.int .i64 lo, .int .i64 hi], .int .i64 0]) ∧ Below wq.heap.size wq w')) (lo0 : fr ≤ lo) (lo1 : lo ≤ hi) (lo2 : hi ≤ fr + 97200000)
    (LC : Hid (∀ wq, Calls Tryz.prog 31 #[.agg #[.int .i64 lo, .int .i64 hi], .agg #[.int .i64 l, .int .i64 l]] wq fun e w' => e = .returned (.tuple #[.agg #[.int .i64 zl, .int .i64 zh], .int .i64 0]) ∧ Below wq.heap.size wq w'))
    (V1 : Hid (∀ wq, Calls Tryz.prog 13 #[.agg #[.int .i64 zl, .int .i64 zh]] wq fun e w' => e = .returned (.bool true) ∧ Below wq.heap.size wq w'))
    (GH : Hid (∀ wq, Calls Tryz.prog 33 #[.int .i64 s] wq fun e w' => e = .returned (.agg #[.int .i64 p0, .int .i64 p1]) ∧ Below wq.heap.size wq w'))
    (NG : Hid (∀ wq, Calls Tryz.prog 32 #[.agg #[.int .i64 p0, .int .i64 p1]] wq fun e w' => e = .returned (.agg #[.int .i64 g0, .int .i64 g1]) ∧ Below wq.heap.size wq w'))
    (A1 : Hid (∀ wq, Calls Tryz.prog 14 #[.agg #[.int .i64 zl, .int .i64 zh], .agg #[.int .i64 g0, .int .i64 g1]] wq fun e w' => e = .returned (.tuple #[.bool true, .int .i64 0]) ∧ Below wq.heap.size wq w'))
    (LO : Hid (∀ b wq, BkS wq b n nm f → Calls Tryz.prog 34 #[.pointer (some ⟨b, 0, none⟩), .string t, .agg #[.int .i64 lo, .int .i64 hi]] wq fun e w' => e = .returned (.tuple #[.agg #[.int .i64 o0, .int .i64 o1], .int .i64 0]) ∧ Below wq.heap.size wq w'))
    (A2 : Hid (∀ wq, Calls Tryz.prog 14 #[.agg #[.int .i64 o0, .int .i64 o1], .agg #[.int .i64 l, .int .i64 l]] wq fun e w' => e = .returned (.tuple #[.bool true, .int .i64 0]) ∧ Below wq.heap.size wq w'))
    (LH : Hid (∀ b wq, BkS wq b n nm f → Calls Tryz.prog 36 #[.pointer (some ⟨b, 0, none⟩), .string t, .agg #[.int .i64 (lo + 86164090), .int .i64 (hi + 86164091)], .agg #[.int .i64 l, .int .i64 l]] wq fun e w' => e = .returned (.tuple #[.agg #[.int .i64 u0, .int .i64 u1], .int .i64 0]) ∧ Below wq.heap.size wq w'))
    (A3 : Hid (∀ wq, Calls Tryz.prog 14 #[.agg #[.int .i64 u0, .int .i64 u1], .agg #[.int .i64 0, .int .i64 0]] wq fun e w' => e = .returned (.tuple #[.bool true, .int .i64 0]) ∧ Below wq.heap.size wq w')) :
    Calls Tryz.prog 5 #[.slice (some ⟨B, oo, none⟩) n c, .int .u8 k8, .int .i64 l, .int .i64 fr] w fun e w' => e = .returned (.bool true) ∧ Below w.heap.size w w' := by
  have q0 : decide ((10 : Int) < n) = false := by simp; omega
  have q1 : ((n : Int) == 0) = false := by simp; omega
  have d1 : decide (l < -10800000) = false := by simp; omega
  have d2 : decide (10800000 ≤ l) = false := by simp; omega
  have d3 : decide (fr < -70368744177664) = false := by simp; omega
  have d4 : decide (70368528177664 < fr) = false := by simp; omega
  have i0 : i < n := by rw [← hk]; exact Nat.mod_lt _ h0
  have c0 := hS.out.name i0
  have c1 := hS.out.sha i0
  have c2 := hS.out.dec i0
  have c3 := hS.out.mag i0
  rw [ht] at c0
  rw [hs] at c1
  rw [hd] at c2
  rw [hm] at c3
  have LB : B < w.heap.size := World.block_lt_of_cell? _ _ c0
  have hM : (k8 : Int).tmod (n : Int) = (i : Int) := by rw [← hk]; rfl
  have hk1 := hidden hk
  clear hS hk ht hs hd hm
  have WA := hidden wayat_any
  have LE := hidden length_is
  have TV := hidden fun w => tvalid10_ok lo hi w (by omega) lo1 (by omega)
  have d5 : decide (lo < fr) = false := by simp; omega
  have d6 : decide (fr + 97200000 < hi) = false := by simp; omega
  go_enter Tryz.func5, Tryz.ntmps5
  go_wp2_with (((first | (go_at_call 6; ((with_reducible refine (W.out _).mono ?_); rintro e w' ⟨rfl, hb⟩); have nm0 := trivial) | (go_at_call 27; ((with_reducible refine (V.out _ (by (repeat (first | (with_reducible exact Below.refl _ _) | (with_reducible refine Below.setCell ?_ (by (first | (simp; done) | (simp; omega) | omega)) _) | (with_reducible refine bl_alloc ?_ _) | (with_reducible refine bl_drewN ?_) | (with_reducible refine bl_drew ?_) | (with_reducible refine bl_step (by assumption) ?_))))).mono ?_); rintro e w' ⟨rfl, hb⟩); have nm1 := trivial) | (go_at_call 28; ((with_reducible refine (NW.out _ (by (repeat (first | (with_reducible exact Below.refl _ _) | (with_reducible refine Below.setCell ?_ (by (first | (simp; done) | (simp; omega) | omega)) _) | (with_reducible refine bl_alloc ?_ _) | (with_reducible refine bl_drewN ?_) | (with_reducible refine bl_drew ?_) | (with_reducible refine bl_step (by assumption) ?_))))).mono ?_); rintro e w' ⟨hb, b, rfl, hBk⟩); have nm2 := trivial)); (try replace hb := below_undrew hb); (try replace hb := below_undrewN hb); obtain ⟨hcell, hfroz⟩ := bcell hb; have hz := hb.size; (try simp at hz); (try (have z6 := Nat.lt_of_lt_of_le z7 hz)); (try (have z7 := Nat.lt_of_lt_of_le z8 hz)); (try (have z8 := Nat.lt_of_lt_of_le z9 hz)); (try (have z9 := Nat.lt_of_lt_of_le (Nat.lt_succ_self _) hz)); (try have z0 : w.heap.size < w'.heap.size := by omega); (try have z1 : w.heap.size + 1 < w'.heap.size := by omega); (try have z2 : w.heap.size + 1 + 1 < w'.heap.size := by omega); (try have z3 : w.heap.size + 1 + 1 + 1 < w'.heap.size := by omega); (try have y1 : w1.heap.size < w'.heap.size := by omega); (try have y2 : w2.heap.size < w'.heap.size := by omega); (try have x1 : w1.heap.size + 1 < w'.heap.size := by omega); (try have x2 : w2.heap.size + 1 < w'.heap.size := by omega); (try have z10 : w1.heap.size < w'.heap.size + 1 := by omega); (try have z20 : w2.heap.size < w'.heap.size + 1 := by omega); (first | (clear nm0; obtain ⟨w1, rfl⟩ : ∃ v, v = w' := ⟨_, rfl⟩) | (clear nm1; obtain ⟨w2, rfl⟩ : ∃ v, v = w' := ⟨_, rfl⟩) | (clear nm2; obtain ⟨w3, rfl⟩ : ∃ v, v = w' := ⟨_, rfl⟩; (have hw3 : Below w.heap.size w w3 := (by (repeat (first | (with_reducible exact Below.refl _ _) | (with_reducible refine Below.setCell ?_ (by (first | (simp; done) | (simp; omega) | omega)) _) | (with_reducible refine bl_alloc ?_ _) | (with_reducible refine bl_drewN ?_) | (with_reducible refine bl_drew ?_) | (with_reducible refine bl_step (by assumption) ?_))))); (replace c0 := cell_later hw3 c0); (replace c1 := cell_later hw3 c1); (replace c2 := cell_later hw3 c2); (replace c3 := cell_later hw3 c3)))))
  (refine name_code ?_; intro w' hb; (try replace hb := below_undrew hb); (try replace hb := below_undrewN hb); obtain ⟨hcell, hfroz⟩ := bcell hb; have hz := hb.size; (try simp at hz); (try (have z6 := Nat.lt_of_lt_of_le z7 hz)); (try (have z7 := Nat.lt_of_lt_of_le z8 hz)); (try (have z8 := Nat.lt_of_lt_of_le z9 hz)); (try (have z9 := Nat.lt_of_lt_of_le (Nat.lt_succ_self _) hz)); (try have z0 : w.heap.size < w'.heap.size := by omega); (try have z1 : w.heap.size + 1 < w'.heap.size := by omega); (try have z2 : w.heap.size + 1 + 1 < w'.heap.size := by omega); (try have z3 : w.heap.size + 1 + 1 + 1 < w'.heap.size := by omega); (try have y1 : w1.heap.size < w'.heap.size := by omega); (try have y2 : w2.heap.size < w'.heap.size := by omega); (try have y3 : w3.heap.size < w'.heap.size := by omega); (try have y6 : w6.heap.size < w'.heap.size := by omega); (try have x1 : w1.heap.size + 1 < w'.heap.size := by omega); (try have x2 : w2.heap.size + 1 < w'.heap.size := by omega); (try have x3 : w3.heap.size + 1 < w'.heap.size := by omega); (try have x6 : w6.heap.size + 1 < w'.heap.size := by omega); (try have y7 : w7.heap.size < w'.heap.size := by omega); (try have z10 : w1.heap.size < w'.heap.size + 1 := by omega); (try have z20 : w2.heap.size < w'.heap.size + 1 := by omega); (try have z30 : w3.heap.size < w'.heap.size + 1 := by omega); (try have z60 : w6.heap.size < w'.heap.size + 1 := by omega); (try have z70 : w7.heap.size < w'.heap.size + 1 := by omega))
  have s0 : w'.cell? ⟨w3.heap.size, 0, none⟩ = some (.string t) := by simp [go_sem, *]
  have s1 : w'.cell? ⟨w3.heap.size, 1, none⟩ = some (.int .i64 s) := by simp [go_sem, *]
  have hv : Below w.heap.size w w' := by (repeat (first | (with_reducible exact Below.refl _ _) | (with_reducible refine Below.setCell ?_ (by (first | (simp; done) | (simp; omega) | omega)) _) | (with_reducible refine bl_alloc ?_ _) | (with_reducible refine bl_drewN ?_) | (with_reducible refine bl_drew ?_) | (with_reducible refine bl_step (by assumption) ?_)))
  replace hBk := hBk.later (bl_alloc (Below.refl _ _) _ |> fun h => bl_step hb h)
  clear hcell hfroz hz hb c0 c1 c2 c3
  obtain ⟨V0, rfl⟩ : ∃ v, v = w' := ⟨_, rfl⟩
  refine wp_region_inv (fun a0 LL aa vv => ∃ (l0 l1 l2 l3 l4 l5 l6 l7 l8 l9 l10 l11 l12 : Bool) (E2 : Nat), LL = #[l0, l1, l2, l3, l4, l5, l6, l7, l8, l9, l10, l11, l12] ∧ aa = { a0 with tmps := ((((((((((((a0.tmps.setIfInBounds 78 (cond l0 (.pointer (some ⟨b, 0, none⟩)) (undef))).setIfInBounds 79 (cond l1 (.pointer (some ⟨w3.heap.size, 0, none⟩)) (undef))).setIfInBounds 80 (cond l2 (.string t) (undef))).setIfInBounds 81 (cond l3 (.int .i64 l) (undef))).setIfInBounds 82 (cond l4 (.agg #[.int .i64 l, .int .i64 l]) (undef))).setIfInBounds 83 (cond l5 (.int .i64 fr) (undef))).setIfInBounds 84 (cond l6 (.tuple #[.agg #[.int .i64 lo, .int .i64 hi], .int .i64 0]) (undef))).setIfInBounds 77 (cond l7 (.tuple #[.agg #[.int .i64 lo, .int .i64 hi], .int .i64 0]) (undef))).setIfInBounds 85 (cond l8 (.agg #[.int .i64 lo, .int .i64 hi]) (undef))).setIfInBounds 86 (cond l9 (.int .i64 0) (undef))).setIfInBounds 12 (cond l10 (.pointer (some ⟨E2, 0, none⟩)) (undef))).setIfInBounds 10 (.int .i64 0)) } ∧ Below V0.heap.size V0 vv ∧ (l11 = true → l10 = true) ∧ (l10 = true → Room2 V0 vv E2 l11 (lo) (hi))) (by kernel_rfl) (by kernel_rfl) ?h0 ?hsize ?hdone ?hstep
  case h0 =>
    refine ⟨false, false, false, false, false, false, false, false, false, false, false, false, false, 0, rfl, ?_, by (repeat (first | exact Below.refl _ _ | refine bl_drewN ?_ | refine bl_drew ?_ | refine bl_alloc ?_ _ | refine Below.setCell ?_ (by (first | (simp; done) | (simp; omega) | omega)) _ | refine bl_step (by assumption) ?_)), (fun h => by cases h), (fun h => by cases h)⟩
    simp only [cond_false, List.setIfInBounds_toArray, List.set_cons_zero, List.set_cons_succ]
  case hsize =>
    intro LL aa vv h
    obtain ⟨l0, l1, l2, l3, l4, l5, l6, l7, l8, l9, l10, l11, l12, E2, hL, _⟩ := h
    rw [hL]
    rfl
  case hstep =>
    intro LL aa vv h
    obtain ⟨l0, l1, l2, l3, l4, l5, l6, l7, l8, l9, l10, l11, l12, E2, hL, ha, hb0, hq10, hr10⟩ := h
    simp only [List.setIfInBounds_toArray, List.set_cons_zero, List.set_cons_succ] at ha
    subst hL
    subst ha
    refine ⟨?s0, ?s1, ?s2, ?s3, ?s4, ?s5, ?s6, ?s7, ?s8, ?s9, ?s10, ?s11, ?s12, trivial⟩
    case s0 =>
      intro ff gg KK hK
      have f0 : l0 = false := ff
      clear ff gg
      subst f0
      simp only [cond_false]
      go_simp
      exact hK _ _ ⟨true, l1, l2, l3, l4, l5, l6, l7, l8, l9, l10, l11, l12, E2, rfl, (by simp only [cond_true, List.setIfInBounds_toArray, List.set_cons_zero, List.set_cons_succ]), hb0, hq10, hr10⟩
    case s1 =>
      intro ff gg KK hK
      have f0 : l1 = false := ff
      clear ff gg
      subst f0
      simp only [cond_false]
      go_simp
      exact hK _ _ ⟨l0, true, l2, l3, l4, l5, l6, l7, l8, l9, l10, l11, l12, E2, rfl, (by simp only [cond_true, List.setIfInBounds_toArray, List.set_cons_zero, List.set_cons_succ]), hb0, hq10, hr10⟩
    case s2 =>
      intro ff gg KK hK
      have t1 : l1 = true := gg ⟨1, .data⟩ (by simp) (by rfl)
      have f0 : l2 = false := ff
      clear ff gg
      subst t1
      subst f0
      simp only [cond_true, cond_false]
      have cc0 : vv.cell? ⟨w3.heap.size, 0, none⟩ = some (.string t) := cell_later hb0 s0
      go_simp
      exact hK _ _ ⟨l0, true, true, l3, l4, l5, l6, l7, l8, l9, l10, l11, l12, E2, rfl, (by simp only [cond_true, List.setIfInBounds_toArray, List.set_cons_zero, List.set_cons_succ]), hb0, hq10, hr10⟩
    case s3 =>
      intro ff gg KK hK
      have f0 : l3 = false := ff
      clear ff gg
      subst f0
      simp only [cond_false]
      go_simp
      exact hK _ _ ⟨l0, l1, l2, true, l4, l5, l6, l7, l8, l9, l10, l11, l12, E2, rfl, (by simp only [cond_true, List.setIfInBounds_toArray, List.set_cons_zero, List.set_cons_succ]), hb0, hq10, hr10⟩
    case s4 =>
      intro ff gg KK hK
      have t3 : l3 = true := gg ⟨3, .data⟩ (by simp) (by rfl)
      have f0 : l4 = false := ff
      clear ff gg
      subst t3
      subst f0
      simp only [cond_true, cond_false]
      go_simp
      ((go_at_call 19; ((with_reducible refine (WA.out _ _).mono ?_); rintro e w' ⟨rfl, hb⟩)))
      exact hK _ _ ⟨l0, l1, l2, true, true, l5, l6, l7, l8, l9, l10, l11, l12, E2, rfl, (by simp only [cond_true, List.setIfInBounds_toArray, List.set_cons_zero, List.set_cons_succ]), bl_step hb hb0, hq10, (fun t => (hr10 t).later hb)⟩
    case s5 =>
      intro ff gg KK hK
      have f0 : l5 = false := ff
      clear ff gg
      subst f0
      simp only [cond_false]
      go_simp
      exact hK _ _ ⟨l0, l1, l2, l3, l4, true, l6, l7, l8, l9, l10, l11, l12, E2, rfl, (by simp only [cond_true, List.setIfInBounds_toArray, List.set_cons_zero, List.set_cons_succ]), hb0, hq10, hr10⟩
    case s6 =>
      intro ff gg KK hK
      have t0 : l0 = true := gg ⟨0, .data⟩ (by simp) (by rfl)
      have t2 : l2 = true := gg ⟨2, .data⟩ (by simp) (by rfl)
      have t4 : l4 = true := gg ⟨4, .data⟩ (by simp) (by rfl)
      have t5 : l5 = true := gg ⟨5, .data⟩ (by simp) (by rfl)
      have f0 : l6 = false := ff
      clear ff gg
      subst t0 t2 t4 t5
      subst f0
      simp only [cond_true, cond_false]
      go_simp
      ((go_at_call 29; ((with_reducible refine (TR.out _ _ (hBk.later hb0)).mono ?_); rintro e w' ⟨rfl, hb⟩)))
      exact hK _ _ ⟨true, l1, true, l3, true, true, true, l7, l8, l9, l10, l11, l12, E2, rfl, (by simp only [cond_true, List.setIfInBounds_toArray, List.set_cons_zero, List.set_cons_succ]), bl_step hb hb0, hq10, (fun t => (hr10 t).later hb)⟩
    case s7 =>
      intro ff gg KK hK
      have t6 : l6 = true := gg ⟨6, .data⟩ (by simp) (by rfl)
      have f0 : l7 = false := ff
      clear ff gg
      subst t6
      subst f0
      simp only [cond_true, cond_false]
      go_simp
      exact hK _ _ ⟨l0, l1, l2, l3, l4, l5, true, true, l8, l9, l10, l11, l12, E2, rfl, (by simp only [cond_true, List.setIfInBounds_toArray, List.set_cons_zero, List.set_cons_succ]), hb0, hq10, hr10⟩
    case s8 =>
      intro ff gg KK hK
      have t7 : l7 = true := gg ⟨7, .data⟩ (by simp) (by rfl)
      have f0 : l8 = false := ff
      clear ff gg
      subst t7
      subst f0
      simp only [cond_true, cond_false]
      go_simp
      exact hK _ _ ⟨l0, l1, l2, l3, l4, l5, l6, true, true, l9, l10, l11, l12, E2, rfl, (by simp only [cond_true, List.setIfInBounds_toArray, List.set_cons_zero, List.set_cons_succ]), hb0, hq10, hr10⟩
    case s9 =>
      intro ff gg KK hK
      have t7 : l7 = true := gg ⟨7, .data⟩ (by simp) (by rfl)
      have f0 : l9 = false := ff
      clear ff gg
      subst t7
      subst f0
      simp only [cond_true, cond_false]
      go_simp
      exact hK _ _ ⟨l0, l1, l2, l3, l4, l5, l6, true, l8, true, l10, l11, l12, E2, rfl, (by simp only [cond_true, List.setIfInBounds_toArray, List.set_cons_zero, List.set_cons_succ]), hb0, hq10, hr10⟩
    case s10 =>
      intro ff gg KK hK
      have f0 : l10 = false := ff
      clear ff gg
      subst f0
      simp only [cond_false]
      go_simp
      exact hK _ _ ⟨l0, l1, l2, l3, l4, l5, l6, l7, l8, l9, true, l11, l12, vv.heap.size, rfl, (by simp only [cond_true, List.setIfInBounds_toArray, List.set_cons_zero, List.set_cons_succ]), (by (repeat (first | (with_reducible exact Below.refl _ _) | (with_reducible refine Below.setCell ?_ (by (first | (simp; done) | (simp; omega) | omega)) _) | (with_reducible refine bl_alloc ?_ _) | (with_reducible refine bl_drewN ?_) | (with_reducible refine bl_drew ?_) | (with_reducible refine bl_step (by assumption) ?_)))), (fun _ => rfl), (fun _ => Room2.alloc hb0 _ _ _ _ _ _ hq10)⟩
    case s11 =>
      intro ff gg KK hK
      have t10 : l10 = true := gg ⟨10, .data⟩ (by simp) (by rfl)
      have t8 : l8 = true := gg ⟨8, .data⟩ (by simp) (by rfl)
      have f0 : l11 = false := ff
      clear ff gg
      subst t10 t8
      subst f0
      simp only [cond_true]
      have rr := hr10 rfl
      obtain ⟨m1, m2, fz0, fz1, y0, y1, cz0, cz1, m7⟩ := rr
      go_simp
      exact hK _ _ ⟨l0, l1, l2, l3, l4, l5, l6, l7, true, l9, true, true, l12, E2, rfl, (by simp only [cond_true, List.setIfInBounds_toArray, List.set_cons_zero, List.set_cons_succ]), ((hb0.setCell m1 _).setCell m1 _), (fun _ => rfl), (fun _ => (hr10 rfl).store _ _ _)⟩
    case s12 =>
      intro ff gg KK hK
      have t9 : l9 = true := gg ⟨9, .data⟩ (by simp) (by rfl)
      have f0 : l12 = false := ff
      clear ff gg
      subst t9
      subst f0
      simp only [cond_true]
      go_simp
      exact hK _ _ ⟨l0, l1, l2, l3, l4, l5, l6, l7, l8, true, l10, l11, true, E2, rfl, (by simp only [cond_true, List.setIfInBounds_toArray, List.set_cons_zero, List.set_cons_succ]), hb0, hq10, hr10⟩
  case hdone =>
    intro LL aa vv h hd
    obtain ⟨l0, l1, l2, l3, l4, l5, l6, l7, l8, l9, l10, l11, l12, E2, hL, ha, hb0, hq10, hr10⟩ := h
    rw [hL] at hd
    have t0 : l0 = true := hd 0 (by decide)
    have t1 : l1 = true := hd 1 (by decide)
    have t2 : l2 = true := hd 2 (by decide)
    have t3 : l3 = true := hd 3 (by decide)
    have t4 : l4 = true := hd 4 (by decide)
    have t5 : l5 = true := hd 5 (by decide)
    have t6 : l6 = true := hd 6 (by decide)
    have t7 : l7 = true := hd 7 (by decide)
    have t8 : l8 = true := hd 8 (by decide)
    have t9 : l9 = true := hd 9 (by decide)
    have t10 : l10 = true := hd 10 (by decide)
    have t11 : l11 = true := hd 11 (by decide)
    have t12 : l12 = true := hd 12 (by decide)
    clear hd hL hq10
    subst t0 t1 t2 t3 t4 t5 t6 t7 t8 t9 t10 t11 t12
    simp only [cond_true, List.setIfInBounds_toArray, List.set_cons_zero, List.set_cons_succ] at ha
    subst ha
    obtain ⟨E2g, E2l, E2f0, E2f1, y0, y1, E2c0, E2c1, hy⟩ := hr10 rfl
    obtain ⟨rfl, rfl⟩ := hy rfl
    clear hr10
    have hv2 : Below w.heap.size w vv := bl_step hb0 hv
    clear hv
    have hv := hv2
    clear hv2
    replace s0 := cell_later hb0 s0
    replace s1 := cell_later hb0 s1
    replace hBk := hBk.later hb0
    have t0 := E2c0
    have t1 := E2c1
    have ls0 : w3.heap.size < vv.heap.size := World.block_lt_of_cell? _ _ s0
    clear hb0
    go_wp2_with (go_at_call 30; ((with_reducible refine (TV.out _).mono ?_); rintro e w' ⟨rfl, hb⟩); (try replace hb := below_undrew hb); (try replace hb := below_undrewN hb); obtain ⟨hcell, hfroz⟩ := bcell hb; have hz := hb.size; (try simp at hz); (try (have z6 := Nat.lt_of_lt_of_le z7 hz)); (try (have z7 := Nat.lt_of_lt_of_le z8 hz)); (try (have z8 := Nat.lt_of_lt_of_le z9 hz)); (try (have z9 := Nat.lt_of_lt_of_le (Nat.lt_succ_self _) hz)); (try have z0 : w.heap.size < w'.heap.size := by omega); (try have z1 : w.heap.size + 1 < w'.heap.size := by omega); (try have z2 : w.heap.size + 1 + 1 < w'.heap.size := by omega); (try have z3 : w.heap.size + 1 + 1 + 1 < w'.heap.size := by omega); (try have y1 : w1.heap.size < w'.heap.size := by omega); (try have y2 : w2.heap.size < w'.heap.size := by omega); (try have y3 : w3.heap.size < w'.heap.size := by omega); (try have y6 : w6.heap.size < w'.heap.size := by omega); (try have x1 : w1.heap.size + 1 < w'.heap.size := by omega); (try have x2 : w2.heap.size + 1 < w'.heap.size := by omega); (try have x3 : w3.heap.size + 1 < w'.heap.size := by omega); (try have x6 : w6.heap.size + 1 < w'.heap.size := by omega); (try have y7 : w7.heap.size < w'.heap.size := by omega); (try have z10 : w1.heap.size < w'.heap.size + 1 := by omega); (try have z20 : w2.heap.size < w'.heap.size + 1 := by omega); (try have z30 : w3.heap.size < w'.heap.size + 1 := by omega); (try have z60 : w6.heap.size < w'.heap.size + 1 := by omega); (try have z70 : w7.heap.size < w'.heap.size + 1 := by omega); (have e2l := Nat.lt_of_lt_of_le E2l hb.size))
    (refine name_code ?_; intro w' hb; (try replace hb := below_undrew hb); (try replace hb := below_undrewN hb); obtain ⟨hcell, hfroz⟩ := bcell hb; have hz := hb.size; (try simp at hz); (try (have z6 := Nat.lt_of_lt_of_le z7 hz)); (try (have z7 := Nat.lt_of_lt_of_le z8 hz)); (try (have z8 := Nat.lt_of_lt_of_le z9 hz)); (try (have z9 := Nat.lt_of_lt_of_le (Nat.lt_succ_self _) hz)); (try have z0 : w.heap.size < w'.heap.size := by omega); (try have z1 : w.heap.size + 1 < w'.heap.size := by omega); (try have z2 : w.heap.size + 1 + 1 < w'.heap.size := by omega); (try have z3 : w.heap.size + 1 + 1 + 1 < w'.heap.size := by omega); (try have y1 : w1.heap.size < w'.heap.size := by omega); (try have y2 : w2.heap.size < w'.heap.size := by omega); (try have y3 : w3.heap.size < w'.heap.size := by omega); (try have y6 : w6.heap.size < w'.heap.size := by omega); (try have x1 : w1.heap.size + 1 < w'.heap.size := by omega); (try have x2 : w2.heap.size + 1 < w'.heap.size := by omega); (try have x3 : w3.heap.size + 1 < w'.heap.size := by omega); (try have x6 : w6.heap.size + 1 < w'.heap.size := by omega); (try have y7 : w7.heap.size < w'.heap.size := by omega); (try have z10 : w1.heap.size < w'.heap.size + 1 := by omega); (try have z20 : w2.heap.size < w'.heap.size + 1 := by omega); (try have z30 : w3.heap.size < w'.heap.size + 1 := by omega); (try have z60 : w6.heap.size < w'.heap.size + 1 := by omega); (try have z70 : w7.heap.size < w'.heap.size + 1 := by omega))
    have n_s0 : w'.cell? ⟨w3.heap.size, 0, none⟩ = some (.string t) := by simp [go_sem, *]
    have n_s1 : w'.cell? ⟨w3.heap.size, 1, none⟩ = some (.int .i64 s) := by simp [go_sem, *]
    have n_t0 : w'.cell? ⟨E2, 0, none⟩ = some (.int .i64 lo) := by simp [go_sem, *]
    have n_t1 : w'.cell? ⟨E2, 1, none⟩ = some (.int .i64 hi) := by simp [go_sem, *]
    have n_b : Below vv.heap.size vv w' := by (repeat (first | (with_reducible exact Below.refl _ _) | (with_reducible refine Below.setCell ?_ (by (first | (simp; done) | (simp; omega) | omega)) _) | (with_reducible refine bl_alloc ?_ _) | (with_reducible refine bl_drewN ?_) | (with_reducible refine bl_drew ?_) | (with_reducible refine bl_step (by assumption) ?_)))
    have n_w : Below w.heap.size w w' := bl_step n_b hv
    replace hBk := hBk.later n_b
    clear hcell hfroz hz hb n_b s0 s1 t0 t1 hv
    have s0 := n_s0
    have s1 := n_s1
    have t0 := n_t0
    have t1 := n_t1
    have hv := n_w
    clear n_w n_s0 n_s1 n_t0 n_t1
    obtain ⟨V2, rfl⟩ : ∃ v, v = w' := ⟨_, rfl⟩
    refine wp_region_inv (fun a0 LL aa v3 => ∃ (l0 l1 l2 l3 l4 l5 l6 l7 l8 l9 : Bool) (E3 : Nat), LL = #[l0, l1, l2, l3, l4, l5, l6, l7, l8, l9] ∧ aa = { a0 with tmps := (((((((((a0.tmps.setIfInBounds 108 (cond l0 (.agg #[.int .i64 lo, .int .i64 hi]) (undef))).setIfInBounds 109 (cond l1 (.int .i64 l) (undef))).setIfInBounds 110 (cond l2 (.agg #[.int .i64 l, .int .i64 l]) (undef))).setIfInBounds 111 (cond l3 (.tuple #[.agg #[.int .i64 zl, .int .i64 zh], .int .i64 0]) (undef))).setIfInBounds 107 (cond l4 (.tuple #[.agg #[.int .i64 zl, .int .i64 zh], .int .i64 0]) (undef))).setIfInBounds 112 (cond l5 (.agg #[.int .i64 zl, .int .i64 zh]) (undef))).setIfInBounds 113 (cond l6 (.int .i64 0) (undef))).setIfInBounds 13 (cond l7 (.pointer (some ⟨E3, 0, none⟩)) (undef))).setIfInBounds 14 (cond l9 (.int .i64 0) (undef))) } ∧ Below V2.heap.size V2 v3 ∧ (l8 = true → l7 = true) ∧ (l7 = true → Room2 V2 v3 E3 l8 (zl) (zh))) (by kernel_rfl) (by kernel_rfl) ?h0 ?hsize ?hdone ?hstep
    case h0 =>
      refine ⟨false, false, false, false, false, false, false, false, false, false, 0, rfl, ?_, by (repeat (first | exact Below.refl _ _ | refine bl_drewN ?_ | refine bl_drew ?_ | refine bl_alloc ?_ _ | refine Below.setCell ?_ (by (first | (simp; done) | (simp; omega) | omega)) _ | refine bl_step (by assumption) ?_)), (fun h => by cases h), (fun h => by cases h)⟩
      simp only [cond_false, List.setIfInBounds_toArray, List.set_cons_zero, List.set_cons_succ]
    case hsize =>
      intro LL aa v3 h
      obtain ⟨l0, l1, l2, l3, l4, l5, l6, l7, l8, l9, E3, hL, _⟩ := h
      rw [hL]
      rfl
    case hstep =>
      intro LL aa v3 h
      obtain ⟨l0, l1, l2, l3, l4, l5, l6, l7, l8, l9, E3, hL, ha, hb0, hq7, hr7⟩ := h
      simp only [List.setIfInBounds_toArray, List.set_cons_zero, List.set_cons_succ] at ha
      subst hL
      subst ha
      refine ⟨?s0, ?s1, ?s2, ?s3, ?s4, ?s5, ?s6, ?s7, ?s8, ?s9, trivial⟩
      case s0 =>
        intro ff gg KK hK
        have f0 : l0 = false := ff
        clear ff gg
        subst f0
        simp only [cond_false]
        have cc0 : v3.cell? ⟨E2, 0, none⟩ = some (.int .i64 lo) := cell_later hb0 t0
        have cc1 : v3.cell? ⟨E2, 1, none⟩ = some (.int .i64 hi) := cell_later hb0 t1
        go_simp
        exact hK _ _ ⟨true, l1, l2, l3, l4, l5, l6, l7, l8, l9, E3, rfl, (by simp only [cond_true, List.setIfInBounds_toArray, List.set_cons_zero, List.set_cons_succ]), hb0, hq7, hr7⟩
      case s1 =>
        intro ff gg KK hK
        have f0 : l1 = false := ff
        clear ff gg
        subst f0
        simp only [cond_false]
        go_simp
        exact hK _ _ ⟨l0, true, l2, l3, l4, l5, l6, l7, l8, l9, E3, rfl, (by simp only [cond_true, List.setIfInBounds_toArray, List.set_cons_zero, List.set_cons_succ]), hb0, hq7, hr7⟩
      case s2 =>
        intro ff gg KK hK
        have t1 : l1 = true := gg ⟨1, .data⟩ (by simp) (by rfl)
        have f0 : l2 = false := ff
        clear ff gg
        subst t1
        subst f0
        simp only [cond_true, cond_false]
        go_simp
        ((go_at_call 19; ((with_reducible refine (WA.out _ _).mono ?_); rintro e w' ⟨rfl, hb⟩)))
        exact hK _ _ ⟨l0, true, true, l3, l4, l5, l6, l7, l8, l9, E3, rfl, (by simp only [cond_true, List.setIfInBounds_toArray, List.set_cons_zero, List.set_cons_succ]), bl_step hb hb0, hq7, (fun t => (hr7 t).later hb)⟩
      case s3 =>
        intro ff gg KK hK
        have t0 : l0 = true := gg ⟨0, .data⟩ (by simp) (by rfl)
        have t2 : l2 = true := gg ⟨2, .data⟩ (by simp) (by rfl)
        have f0 : l3 = false := ff
        clear ff gg
        subst t0 t2
        subst f0
        simp only [cond_true, cond_false]
        go_simp
        ((go_at_call 31; ((with_reducible refine (LC.out _).mono ?_); rintro e w' ⟨rfl, hb⟩)))
        exact hK _ _ ⟨true, l1, true, true, l4, l5, l6, l7, l8, l9, E3, rfl, (by simp only [cond_true, List.setIfInBounds_toArray, List.set_cons_zero, List.set_cons_succ]), bl_step hb hb0, hq7, (fun t => (hr7 t).later hb)⟩
      case s4 =>
        intro ff gg KK hK
        have t3 : l3 = true := gg ⟨3, .data⟩ (by simp) (by rfl)
        have f0 : l4 = false := ff
        clear ff gg
        subst t3
        subst f0
        simp only [cond_true, cond_false]
        go_simp
        exact hK _ _ ⟨l0, l1, l2, true, true, l5, l6, l7, l8, l9, E3, rfl, (by simp only [cond_true, List.setIfInBounds_toArray, List.set_cons_zero, List.set_cons_succ]), hb0, hq7, hr7⟩
      case s5 =>
        intro ff gg KK hK
        have t4 : l4 = true := gg ⟨4, .data⟩ (by simp) (by rfl)
        have f0 : l5 = false := ff
        clear ff gg
        subst t4
        subst f0
        simp only [cond_true, cond_false]
        go_simp
        exact hK _ _ ⟨l0, l1, l2, l3, true, true, l6, l7, l8, l9, E3, rfl, (by simp only [cond_true, List.setIfInBounds_toArray, List.set_cons_zero, List.set_cons_succ]), hb0, hq7, hr7⟩
      case s6 =>
        intro ff gg KK hK
        have t4 : l4 = true := gg ⟨4, .data⟩ (by simp) (by rfl)
        have f0 : l6 = false := ff
        clear ff gg
        subst t4
        subst f0
        simp only [cond_true, cond_false]
        go_simp
        exact hK _ _ ⟨l0, l1, l2, l3, true, l5, true, l7, l8, l9, E3, rfl, (by simp only [cond_true, List.setIfInBounds_toArray, List.set_cons_zero, List.set_cons_succ]), hb0, hq7, hr7⟩
      case s7 =>
        intro ff gg KK hK
        have f0 : l7 = false := ff
        clear ff gg
        subst f0
        simp only [cond_false]
        go_simp
        exact hK _ _ ⟨l0, l1, l2, l3, l4, l5, l6, true, l8, l9, v3.heap.size, rfl, (by simp only [cond_true, List.setIfInBounds_toArray, List.set_cons_zero, List.set_cons_succ]), (by (repeat (first | (with_reducible exact Below.refl _ _) | (with_reducible refine Below.setCell ?_ (by (first | (simp; done) | (simp; omega) | omega)) _) | (with_reducible refine bl_alloc ?_ _) | (with_reducible refine bl_drewN ?_) | (with_reducible refine bl_drew ?_) | (with_reducible refine bl_step (by assumption) ?_)))), (fun _ => rfl), (fun _ => Room2.alloc hb0 _ _ _ _ _ _ hq7)⟩
      case s8 =>
        intro ff gg KK hK
        have t7 : l7 = true := gg ⟨7, .data⟩ (by simp) (by rfl)
        have t5 : l5 = true := gg ⟨5, .data⟩ (by simp) (by rfl)
        have f0 : l8 = false := ff
        clear ff gg
        subst t7 t5
        subst f0
        simp only [cond_true]
        have rr := hr7 rfl
        obtain ⟨m1, m2, fz0, fz1, y0, y1, cz0, cz1, m7⟩ := rr
        go_simp
        exact hK _ _ ⟨l0, l1, l2, l3, l4, true, l6, true, true, l9, E3, rfl, (by simp only [cond_true, List.setIfInBounds_toArray, List.set_cons_zero, List.set_cons_succ]), ((hb0.setCell m1 _).setCell m1 _), (fun _ => rfl), (fun _ => (hr7 rfl).store _ _ _)⟩
      case s9 =>
        intro ff gg KK hK
        have t6 : l6 = true := gg ⟨6, .data⟩ (by simp) (by rfl)
        have f0 : l9 = false := ff
        clear ff gg
        subst t6
        subst f0
        simp only [cond_true, cond_false]
        go_simp
        exact hK _ _ ⟨l0, l1, l2, l3, l4, l5, true, l7, l8, true, E3, rfl, (by simp only [cond_true, List.setIfInBounds_toArray, List.set_cons_zero, List.set_cons_succ]), hb0, hq7, hr7⟩
    case hdone =>
      intro LL aa v3 h hd
      obtain ⟨l0, l1, l2, l3, l4, l5, l6, l7, l8, l9, E3, hL, ha, hb0, hq7, hr7⟩ := h
      rw [hL] at hd
      have t0 : l0 = true := hd 0 (by decide)
      have t1 : l1 = true := hd 1 (by decide)
      have t2 : l2 = true := hd 2 (by decide)
      have t3 : l3 = true := hd 3 (by decide)
      have t4 : l4 = true := hd 4 (by decide)
      have t5 : l5 = true := hd 5 (by decide)
      have t6 : l6 = true := hd 6 (by decide)
      have t7 : l7 = true := hd 7 (by decide)
      have t8 : l8 = true := hd 8 (by decide)
      have t9 : l9 = true := hd 9 (by decide)
      clear hd hL hq7
      subst t0 t1 t2 t3 t4 t5 t6 t7 t8 t9
      simp only [cond_true, List.setIfInBounds_toArray, List.set_cons_zero, List.set_cons_succ] at ha
      subst ha
      obtain ⟨E3g, E3l, E3f0, E3f1, y0, y1, E3c0, E3c1, hy⟩ := hr7 rfl
      obtain ⟨rfl, rfl⟩ := hy rfl
      clear hr7
      have hv2 : Below w.heap.size w v3 := bl_step hb0 hv
      clear hv
      have hv := hv2
      clear hv2
      replace s0 := cell_later hb0 s0
      replace s1 := cell_later hb0 s1
      replace t0 := cell_later hb0 t0
      replace t1 := cell_later hb0 t1
      replace hBk := hBk.later hb0
      have k0 := E3c0
      have k1 := E3c1
      have ls0 : w3.heap.size < v3.heap.size := World.block_lt_of_cell? _ _ s0
      have lt0 : E2 < v3.heap.size := World.block_lt_of_cell? _ _ t0
      clear hb0
      have E2l : E2 < v3.heap.size := World.block_lt_of_cell? _ _ t0
      go_wp2_with (go_at_call 13; ((with_reducible refine (V1.out _).mono ?_); rintro e w' ⟨rfl, hb⟩); (try replace hb := below_undrew hb); (try replace hb := below_undrewN hb); obtain ⟨hcell, hfroz⟩ := bcell hb; have hz := hb.size; (try simp at hz); (try (have z6 := Nat.lt_of_lt_of_le z7 hz)); (try (have z7 := Nat.lt_of_lt_of_le z8 hz)); (try (have z8 := Nat.lt_of_lt_of_le z9 hz)); (try (have z9 := Nat.lt_of_lt_of_le (Nat.lt_succ_self _) hz)); (try have z0 : w.heap.size < w'.heap.size := by omega); (try have z1 : w.heap.size + 1 < w'.heap.size := by omega); (try have z2 : w.heap.size + 1 + 1 < w'.heap.size := by omega); (try have z3 : w.heap.size + 1 + 1 + 1 < w'.heap.size := by omega); (try have y1 : w1.heap.size < w'.heap.size := by omega); (try have y2 : w2.heap.size < w'.heap.size := by omega); (try have y3 : w3.heap.size < w'.heap.size := by omega); (try have y6 : w6.heap.size < w'.heap.size := by omega); (try have x1 : w1.heap.size + 1 < w'.heap.size := by omega); (try have x2 : w2.heap.size + 1 < w'.heap.size := by omega); (try have x3 : w3.heap.size + 1 < w'.heap.size := by omega); (try have x6 : w6.heap.size + 1 < w'.heap.size := by omega); (try have y7 : w7.heap.size < w'.heap.size := by omega); (try have z10 : w1.heap.size < w'.heap.size + 1 := by omega); (try have z20 : w2.heap.size < w'.heap.size + 1 := by omega); (try have z30 : w3.heap.size < w'.heap.size + 1 := by omega); (try have z60 : w6.heap.size < w'.heap.size + 1 := by omega); (try have z70 : w7.heap.size < w'.heap.size + 1 := by omega); (have e2l := Nat.lt_of_lt_of_le E2l hb.size); (have e3l := Nat.lt_of_lt_of_le E3l hb.size))
      (refine name_code ?_; intro w' hb; (try replace hb := below_undrew hb); (try replace hb := below_undrewN hb); obtain ⟨hcell, hfroz⟩ := bcell hb; have hz := hb.size; (try simp at hz); (try (have z6 := Nat.lt_of_lt_of_le z7 hz)); (try (have z7 := Nat.lt_of_lt_of_le z8 hz)); (try (have z8 := Nat.lt_of_lt_of_le z9 hz)); (try (have z9 := Nat.lt_of_lt_of_le (Nat.lt_succ_self _) hz)); (try have z0 : w.heap.size < w'.heap.size := by omega); (try have z1 : w.heap.size + 1 < w'.heap.size := by omega); (try have z2 : w.heap.size + 1 + 1 < w'.heap.size := by omega); (try have z3 : w.heap.size + 1 + 1 + 1 < w'.heap.size := by omega); (try have y1 : w1.heap.size < w'.heap.size := by omega); (try have y2 : w2.heap.size < w'.heap.size := by omega); (try have y3 : w3.heap.size < w'.heap.size := by omega); (try have y6 : w6.heap.size < w'.heap.size := by omega); (try have x1 : w1.heap.size + 1 < w'.heap.size := by omega); (try have x2 : w2.heap.size + 1 < w'.heap.size := by omega); (try have x3 : w3.heap.size + 1 < w'.heap.size := by omega); (try have x6 : w6.heap.size + 1 < w'.heap.size := by omega); (try have y7 : w7.heap.size < w'.heap.size := by omega); (try have z10 : w1.heap.size < w'.heap.size + 1 := by omega); (try have z20 : w2.heap.size < w'.heap.size + 1 := by omega); (try have z30 : w3.heap.size < w'.heap.size + 1 := by omega); (try have z60 : w6.heap.size < w'.heap.size + 1 := by omega); (try have z70 : w7.heap.size < w'.heap.size + 1 := by omega))
      have n_s0 : w'.cell? ⟨w3.heap.size, 0, none⟩ = some (.string t) := by simp [go_sem, *]
      have n_s1 : w'.cell? ⟨w3.heap.size, 1, none⟩ = some (.int .i64 s) := by simp [go_sem, *]
      have n_t0 : w'.cell? ⟨E2, 0, none⟩ = some (.int .i64 lo) := by simp [go_sem, *]
      have n_t1 : w'.cell? ⟨E2, 1, none⟩ = some (.int .i64 hi) := by simp [go_sem, *]
      have n_k0 : w'.cell? ⟨E3, 0, none⟩ = some (.int .i64 zl) := by simp [go_sem, *]
      have n_k1 : w'.cell? ⟨E3, 1, none⟩ = some (.int .i64 zh) := by simp [go_sem, *]
      have n_b : Below v3.heap.size v3 w' := by (repeat (first | (with_reducible exact Below.refl _ _) | (with_reducible refine Below.setCell ?_ (by (first | (simp; done) | (simp; omega) | omega)) _) | (with_reducible refine bl_alloc ?_ _) | (with_reducible refine bl_drewN ?_) | (with_reducible refine bl_drew ?_) | (with_reducible refine bl_step (by assumption) ?_)))
      have n_w : Below w.heap.size w w' := bl_step n_b hv
      replace hBk := hBk.later n_b
      clear hcell hfroz hz hb n_b s0 s1 t0 t1 k0 k1 hv
      have s0 := n_s0
      have s1 := n_s1
      have t0 := n_t0
      have t1 := n_t1
      have k0 := n_k0
      have k1 := n_k1
      have hv := n_w
      clear n_w n_s0 n_s1 n_t0 n_t1 n_k0 n_k1
      obtain ⟨V4, rfl⟩ : ∃ v, v = w' := ⟨_, rfl⟩
      have E2l : E2 < V4.heap.size := World.block_lt_of_cell? _ _ t0
      have E3l : E3 < V4.heap.size := World.block_lt_of_cell? _ _ k0
      have E1l : w3.heap.size < V4.heap.size := World.block_lt_of_cell? _ _ s0
      refine wp_region_quiet_below (by kernel_rfl) (by kernel_rfl) ?_
      repeat (first | go_big_quiet_step ((first | (go_at_call 33; (with_reducible exact Calls.regrown_of (GH.out _))) | (go_at_call 32; (with_reducible exact Calls.regrown_of (NG.out _))) | (go_at_call 14; (with_reducible exact Calls.regrown_of (A1.out _))))) | quiet_step ((first | (go_at_call 33; (with_reducible exact Calls.regrown_of (GH.out _))) | (go_at_call 32; (with_reducible exact Calls.regrown_of (NG.out _))) | (go_at_call 14; (with_reducible exact Calls.regrown_of (A1.out _))))))
      refine wpQuiet_nil ?_; intro w' hw'; have hb := below_of_regrown hw'; clear hw'; (try replace hb := below_undrew hb); (try replace hb := below_undrewN hb); obtain ⟨hcell, hfroz⟩ := bcell hb; have hz := hb.size; (try simp at hz); (try (have z6 := Nat.lt_of_lt_of_le z7 hz)); (try (have z7 := Nat.lt_of_lt_of_le z8 hz)); (try (have z8 := Nat.lt_of_lt_of_le z9 hz)); (try (have z9 := Nat.lt_of_lt_of_le (Nat.lt_succ_self _) hz)); (try have z0 : w.heap.size < w'.heap.size := by omega); (try have z1 : w.heap.size + 1 < w'.heap.size := by omega); (try have z2 : w.heap.size + 1 + 1 < w'.heap.size := by omega); (try have z3 : w.heap.size + 1 + 1 + 1 < w'.heap.size := by omega); (try have y1 : w1.heap.size < w'.heap.size := by omega); (try have y2 : w2.heap.size < w'.heap.size := by omega); (try have y3 : w3.heap.size < w'.heap.size := by omega); (try have y6 : w6.heap.size < w'.heap.size := by omega); (try have x1 : w1.heap.size + 1 < w'.heap.size := by omega); (try have x2 : w2.heap.size + 1 < w'.heap.size := by omega); (try have x3 : w3.heap.size + 1 < w'.heap.size := by omega); (try have x6 : w6.heap.size + 1 < w'.heap.size := by omega); (try have y7 : w7.heap.size < w'.heap.size := by omega); (try have z10 : w1.heap.size < w'.heap.size + 1 := by omega); (try have z20 : w2.heap.size < w'.heap.size + 1 := by omega); (try have z30 : w3.heap.size < w'.heap.size + 1 := by omega); (try have z60 : w6.heap.size < w'.heap.size + 1 := by omega); (try have z70 : w7.heap.size < w'.heap.size + 1 := by omega)
      clear k0 k1 s1 E3l
      have hvn : Below w.heap.size w w' := bl_step hb hv
      clear hv
      have hv := hvn
      clear hvn
      replace s0 := cell_later hb s0
      replace t0 := cell_later hb t0
      replace t1 := cell_later hb t1
      replace hBk := hBk.later hb
      clear hcell hfroz hz hb
      obtain ⟨V5, rfl⟩ : ∃ v, v = w' := ⟨_, rfl⟩
      have ms0 : w3.heap.size < V5.heap.size := World.block_lt_of_cell? _ _ s0
      have mt0 : E2 < V5.heap.size := World.block_lt_of_cell? _ _ t0
      go_wp2_with (go_at_call 34; ((with_reducible refine (LO.out _ _ hBk).mono ?_); rintro e w' ⟨rfl, hb⟩); (try replace hb := below_undrew hb); (try replace hb := below_undrewN hb); obtain ⟨hcell, hfroz⟩ := bcell hb; have hz := hb.size; (try simp at hz); (try (have z6 := Nat.lt_of_lt_of_le z7 hz)); (try (have z7 := Nat.lt_of_lt_of_le z8 hz)); (try (have z8 := Nat.lt_of_lt_of_le z9 hz)); (try (have z9 := Nat.lt_of_lt_of_le (Nat.lt_succ_self _) hz)); (try have z0 : w.heap.size < w'.heap.size := by omega); (try have z1 : w.heap.size + 1 < w'.heap.size := by omega); (try have z2 : w.heap.size + 1 + 1 < w'.heap.size := by omega); (try have z3 : w.heap.size + 1 + 1 + 1 < w'.heap.size := by omega); (try have y1 : w1.heap.size < w'.heap.size := by omega); (try have y2 : w2.heap.size < w'.heap.size := by omega); (try have y3 : w3.heap.size < w'.heap.size := by omega); (try have x1 : w1.heap.size + 1 < w'.heap.size := by omega); (try have x2 : w2.heap.size + 1 < w'.heap.size := by omega); (try have x3 : w3.heap.size + 1 < w'.heap.size := by omega); (try have z10 : w1.heap.size < w'.heap.size + 1 := by omega); (try have z20 : w2.heap.size < w'.heap.size + 1 := by omega); (try have z30 : w3.heap.size < w'.heap.size + 1 := by omega); (have e2l := Nat.lt_of_lt_of_le mt0 hb.size); (have e1l := Nat.lt_of_lt_of_le ms0 hb.size); obtain ⟨w6, rfl⟩ : ∃ v, v = w' := ⟨_, rfl⟩)
      (refine name_code ?_; intro w' hb; (try replace hb := below_undrew hb); (try replace hb := below_undrewN hb); obtain ⟨hcell, hfroz⟩ := bcell hb; have hz := hb.size; (try simp at hz); (try (have z6 := Nat.lt_of_lt_of_le z7 hz)); (try (have z7 := Nat.lt_of_lt_of_le z8 hz)); (try (have z8 := Nat.lt_of_lt_of_le z9 hz)); (try (have z9 := Nat.lt_of_lt_of_le (Nat.lt_succ_self _) hz)); (try have z0 : w.heap.size < w'.heap.size := by omega); (try have z1 : w.heap.size + 1 < w'.heap.size := by omega); (try have z2 : w.heap.size + 1 + 1 < w'.heap.size := by omega); (try have z3 : w.heap.size + 1 + 1 + 1 < w'.heap.size := by omega); (try have y1 : w1.heap.size < w'.heap.size := by omega); (try have y2 : w2.heap.size < w'.heap.size := by omega); (try have y3 : w3.heap.size < w'.heap.size := by omega); (try have y6 : w6.heap.size < w'.heap.size := by omega); (try have x1 : w1.heap.size + 1 < w'.heap.size := by omega); (try have x2 : w2.heap.size + 1 < w'.heap.size := by omega); (try have x3 : w3.heap.size + 1 < w'.heap.size := by omega); (try have x6 : w6.heap.size + 1 < w'.heap.size := by omega); (try have y7 : w7.heap.size < w'.heap.size := by omega); (try have z10 : w1.heap.size < w'.heap.size + 1 := by omega); (try have z20 : w2.heap.size < w'.heap.size + 1 := by omega); (try have z30 : w3.heap.size < w'.heap.size + 1 := by omega); (try have z60 : w6.heap.size < w'.heap.size + 1 := by omega); (try have z70 : w7.heap.size < w'.heap.size + 1 := by omega))
      have n_s0 : w'.cell? ⟨w3.heap.size, 0, none⟩ = some (.string t) := by simp [go_sem, *]
      have n_t0 : w'.cell? ⟨E2, 0, none⟩ = some (.int .i64 lo) := by simp [go_sem, *]
      have n_t1 : w'.cell? ⟨E2, 1, none⟩ = some (.int .i64 hi) := by simp [go_sem, *]
      have n_x0 : w'.cell? ⟨w6.heap.size, 0, none⟩ = some (.int .i64 o0) := by simp [go_sem, *]
      have n_x1 : w'.cell? ⟨w6.heap.size, 1, none⟩ = some (.int .i64 o1) := by simp [go_sem, *]
      have n_b : Below V5.heap.size V5 w' := by (repeat (first | (with_reducible exact Below.refl _ _) | (with_reducible refine Below.setCell ?_ (by (first | (simp; done) | (simp; omega) | omega)) _) | (with_reducible refine bl_alloc ?_ _) | (with_reducible refine bl_drewN ?_) | (with_reducible refine bl_drew ?_) | (with_reducible refine bl_step (by assumption) ?_)))
      have n_w : Below w.heap.size w w' := bl_step n_b hv
      replace hBk := hBk.later n_b
      clear hcell hfroz hz hb n_b s0 t0 t1 hv
      have s0 := n_s0
      have t0 := n_t0
      have t1 := n_t1
      have x0 := n_x0
      have x1 := n_x1
      have hv := n_w
      clear n_w n_s0 n_t0 n_t1 n_x0 n_x1
      obtain ⟨V6, rfl⟩ : ∃ v, v = w' := ⟨_, rfl⟩
      have ms0 : w3.heap.size < V6.heap.size := World.block_lt_of_cell? _ _ s0
      have mt0 : E2 < V6.heap.size := World.block_lt_of_cell? _ _ t0
      have mx0 : w6.heap.size < V6.heap.size := World.block_lt_of_cell? _ _ x0
      refine wp_region_quiet_below (by kernel_rfl) (by kernel_rfl) ?_
      repeat (first | go_big_quiet_step ((first | (go_at_call 19; (with_reducible exact Calls.regrown_of (WA.out _ _))) | (go_at_call 14; (with_reducible exact Calls.regrown_of (A2.out _))))) | quiet_step ((first | (go_at_call 19; (with_reducible exact Calls.regrown_of (WA.out _ _))) | (go_at_call 14; (with_reducible exact Calls.regrown_of (A2.out _))))))
      refine wpQuiet_nil ?_; intro w' hw'; have hb := below_of_regrown hw'; clear hw'; (try replace hb := below_undrew hb); (try replace hb := below_undrewN hb); obtain ⟨hcell, hfroz⟩ := bcell hb; have hz := hb.size; (try simp at hz); (try (have z6 := Nat.lt_of_lt_of_le z7 hz)); (try (have z7 := Nat.lt_of_lt_of_le z8 hz)); (try (have z8 := Nat.lt_of_lt_of_le z9 hz)); (try (have z9 := Nat.lt_of_lt_of_le (Nat.lt_succ_self _) hz)); (try have z0 : w.heap.size < w'.heap.size := by omega); (try have z1 : w.heap.size + 1 < w'.heap.size := by omega); (try have z2 : w.heap.size + 1 + 1 < w'.heap.size := by omega); (try have z3 : w.heap.size + 1 + 1 + 1 < w'.heap.size := by omega); (try have y1 : w1.heap.size < w'.heap.size := by omega); (try have y2 : w2.heap.size < w'.heap.size := by omega); (try have y3 : w3.heap.size < w'.heap.size := by omega); (try have y6 : w6.heap.size < w'.heap.size := by omega); (try have x1 : w1.heap.size + 1 < w'.heap.size := by omega); (try have x2 : w2.heap.size + 1 < w'.heap.size := by omega); (try have x3 : w3.heap.size + 1 < w'.heap.size := by omega); (try have x6 : w6.heap.size + 1 < w'.heap.size := by omega); (try have y7 : w7.heap.size < w'.heap.size := by omega); (try have z10 : w1.heap.size < w'.heap.size + 1 := by omega); (try have z20 : w2.heap.size < w'.heap.size + 1 := by omega); (try have z30 : w3.heap.size < w'.heap.size + 1 := by omega); (try have z60 : w6.heap.size < w'.heap.size + 1 := by omega); (try have z70 : w7.heap.size < w'.heap.size + 1 := by omega)
      have hvn : Below w.heap.size w w' := bl_step hb hv
      clear hv
      have hv := hvn
      clear hvn
      replace s0 := cell_later hb s0
      replace t0 := cell_later hb t0
      replace t1 := cell_later hb t1
      replace hBk := hBk.later hb
      clear hcell hfroz hz hb
      obtain ⟨V7, rfl⟩ : ∃ v, v = w' := ⟨_, rfl⟩
      have ms0 : w3.heap.size < V7.heap.size := World.block_lt_of_cell? _ _ s0
      have mt0 : E2 < V7.heap.size := World.block_lt_of_cell? _ _ t0
      go_wp2_with (go_at_call 35; ((with_reducible refine (LE.out _).mono ?_); rintro e w' ⟨rfl, hb⟩); (try replace hb := below_undrew hb); (try replace hb := below_undrewN hb); obtain ⟨hcell, hfroz⟩ := bcell hb; have hz := hb.size; (try simp at hz); (try (have z6 := Nat.lt_of_lt_of_le z7 hz)); (try (have z7 := Nat.lt_of_lt_of_le z8 hz)); (try (have z8 := Nat.lt_of_lt_of_le z9 hz)); (try (have z9 := Nat.lt_of_lt_of_le (Nat.lt_succ_self _) hz)); (try have z0 : w.heap.size < w'.heap.size := by omega); (try have z1 : w.heap.size + 1 < w'.heap.size := by omega); (try have z2 : w.heap.size + 1 + 1 < w'.heap.size := by omega); (try have z3 : w.heap.size + 1 + 1 + 1 < w'.heap.size := by omega); (try have y1 : w1.heap.size < w'.heap.size := by omega); (try have y2 : w2.heap.size < w'.heap.size := by omega); (try have y3 : w3.heap.size < w'.heap.size := by omega); (try have y6 : w6.heap.size < w'.heap.size := by omega); (try have x1 : w1.heap.size + 1 < w'.heap.size := by omega); (try have x2 : w2.heap.size + 1 < w'.heap.size := by omega); (try have x3 : w3.heap.size + 1 < w'.heap.size := by omega); (try have x6 : w6.heap.size + 1 < w'.heap.size := by omega); (try have z10 : w1.heap.size < w'.heap.size + 1 := by omega); (try have z20 : w2.heap.size < w'.heap.size + 1 := by omega); (try have z30 : w3.heap.size < w'.heap.size + 1 := by omega); (try have z60 : w6.heap.size < w'.heap.size + 1 := by omega); (have e2l := Nat.lt_of_lt_of_le mt0 hb.size); (have e1l := Nat.lt_of_lt_of_le ms0 hb.size); obtain ⟨w7, rfl⟩ : ∃ v, v = w' := ⟨_, rfl⟩)
      (refine name_code ?_; intro w' hb; (try replace hb := below_undrew hb); (try replace hb := below_undrewN hb); obtain ⟨hcell, hfroz⟩ := bcell hb; have hz := hb.size; (try simp at hz); (try (have z6 := Nat.lt_of_lt_of_le z7 hz)); (try (have z7 := Nat.lt_of_lt_of_le z8 hz)); (try (have z8 := Nat.lt_of_lt_of_le z9 hz)); (try (have z9 := Nat.lt_of_lt_of_le (Nat.lt_succ_self _) hz)); (try have z0 : w.heap.size < w'.heap.size := by omega); (try have z1 : w.heap.size + 1 < w'.heap.size := by omega); (try have z2 : w.heap.size + 1 + 1 < w'.heap.size := by omega); (try have z3 : w.heap.size + 1 + 1 + 1 < w'.heap.size := by omega); (try have y1 : w1.heap.size < w'.heap.size := by omega); (try have y2 : w2.heap.size < w'.heap.size := by omega); (try have y3 : w3.heap.size < w'.heap.size := by omega); (try have y6 : w6.heap.size < w'.heap.size := by omega); (try have x1 : w1.heap.size + 1 < w'.heap.size := by omega); (try have x2 : w2.heap.size + 1 < w'.heap.size := by omega); (try have x3 : w3.heap.size + 1 < w'.heap.size := by omega); (try have x6 : w6.heap.size + 1 < w'.heap.size := by omega); (try have y7 : w7.heap.size < w'.heap.size := by omega); (try have z10 : w1.heap.size < w'.heap.size + 1 := by omega); (try have z20 : w2.heap.size < w'.heap.size + 1 := by omega); (try have z30 : w3.heap.size < w'.heap.size + 1 := by omega); (try have z60 : w6.heap.size < w'.heap.size + 1 := by omega); (try have z70 : w7.heap.size < w'.heap.size + 1 := by omega))
      have n_s0 : w'.cell? ⟨w3.heap.size, 0, none⟩ = some (.string t) := by simp [go_sem, *]
      have n_t0 : w'.cell? ⟨E2, 0, none⟩ = some (.int .i64 lo) := by simp [go_sem, *]
      have n_t1 : w'.cell? ⟨E2, 1, none⟩ = some (.int .i64 hi) := by simp [go_sem, *]
      have n_r0 : w'.cell? ⟨w7.heap.size, 0, none⟩ = some (.int .i64 86164090) := by simp [go_sem, *]
      have n_r1 : w'.cell? ⟨w7.heap.size, 1, none⟩ = some (.int .i64 86164091) := by simp [go_sem, *]
      have n_b : Below V7.heap.size V7 w' := by (repeat (first | (with_reducible exact Below.refl _ _) | (with_reducible refine Below.setCell ?_ (by (first | (simp; done) | (simp; omega) | omega)) _) | (with_reducible refine bl_alloc ?_ _) | (with_reducible refine bl_drewN ?_) | (with_reducible refine bl_drew ?_) | (with_reducible refine bl_step (by assumption) ?_)))
      have n_w : Below w.heap.size w w' := bl_step n_b hv
      replace hBk := hBk.later n_b
      clear hcell hfroz hz hb n_b s0 t0 t1 hv
      have s0 := n_s0
      have t0 := n_t0
      have t1 := n_t1
      have r0 := n_r0
      have r1 := n_r1
      have hv := n_w
      clear n_w n_s0 n_t0 n_t1 n_r0 n_r1
      obtain ⟨V8, rfl⟩ : ∃ v, v = w' := ⟨_, rfl⟩
      have ms0 : w3.heap.size < V8.heap.size := World.block_lt_of_cell? _ _ s0
      have mt0 : E2 < V8.heap.size := World.block_lt_of_cell? _ _ t0
      have mr0 : w7.heap.size < V8.heap.size := World.block_lt_of_cell? _ _ r0
      have wr1 : IntKind.i64.wrap (lo + 86164090) = lo + 86164090 := by simp [IntKind.wrap_i64]; omega
      have wr2 : IntKind.i64.wrap (hi + 86164091) = hi + 86164091 := by simp [IntKind.wrap_i64]; omega
      refine wp_region_inv (fun a0 LL aa v9 => ∃ (l0 l1 l2 l3 l4 l5 l6 l7 l8 l9 l10 l11 l12 l13 l14 l15 l16 l17 l18 l19 l20 l21 l22 : Bool) (E4 : Nat), LL = #[l0, l1, l2, l3, l4, l5, l6, l7, l8, l9, l10, l11, l12, l13, l14, l15, l16, l17, l18, l19, l20, l21, l22] ∧ aa = { a0 with tmps := ((((((((((((((((((((((a0.tmps.setIfInBounds 178 (cond l0 (.pointer (some ⟨b, 0, none⟩)) (undef))).setIfInBounds 179 (cond l1 (.pointer (some ⟨w3.heap.size, 0, none⟩)) (undef))).setIfInBounds 180 (cond l2 (.string t) (undef))).setIfInBounds 181 (cond l3 (.pointer (some ⟨E2, 0, none⟩)) (undef))).setIfInBounds 182 (cond l4 (.int .i64 lo) (undef))).setIfInBounds 183 (cond l5 (.pointer (some ⟨w7.heap.size, 0, none⟩)) (undef))).setIfInBounds 184 (cond l6 (.int .i64 86164090) (undef))).setIfInBounds 185 (cond l7 (.int .i64 (lo + 86164090)) (undef))).setIfInBounds 186 (cond l8 (.pointer (some ⟨E2, 1, none⟩)) (undef))).setIfInBounds 187 (cond l9 (.int .i64 hi) (undef))).setIfInBounds 188 (cond l10 (.pointer (some ⟨w7.heap.size, 1, none⟩)) (undef))).setIfInBounds 189 (cond l11 (.int .i64 86164091) (undef))).setIfInBounds 190 (cond l12 (.int .i64 (hi + 86164091)) (undef))).setIfInBounds 191 (cond l13 (.agg #[.int .i64 (lo + 86164090), .int .i64 (hi + 86164091)]) (undef))).setIfInBounds 192 (cond l14 (.int .i64 l) (undef))).setIfInBounds 193 (cond l15 (.agg #[.int .i64 l, .int .i64 l]) (undef))).setIfInBounds 194 (cond l16 (.tuple #[.agg #[.int .i64 u0, .int .i64 u1], .int .i64 0]) (undef))).setIfInBounds 177 (cond l17 (.tuple #[.agg #[.int .i64 u0, .int .i64 u1], .int .i64 0]) (undef))).setIfInBounds 195 (cond l18 (.agg #[.int .i64 u0, .int .i64 u1]) (undef))).setIfInBounds 196 (cond l19 (.int .i64 0) (undef))).setIfInBounds 21 (cond l20 (.pointer (some ⟨E4, 0, none⟩)) (undef))).setIfInBounds 22 (cond l22 (.int .i64 0) (undef))) } ∧ Below V8.heap.size V8 v9 ∧ (l21 = true → l20 = true) ∧ (l20 = true → Room2 V8 v9 E4 l21 (u0) (u1))) (by kernel_rfl) (by kernel_rfl) ?h0 ?hsize ?hdone ?hstep
      case h0 =>
        refine ⟨false, false, false, false, false, false, false, false, false, false, false, false, false, false, false, false, false, false, false, false, false, false, false, 0, rfl, ?_, by (repeat (first | exact Below.refl _ _ | refine bl_drewN ?_ | refine bl_drew ?_ | refine bl_alloc ?_ _ | refine Below.setCell ?_ (by (first | (simp; done) | (simp; omega) | omega)) _ | refine bl_step (by assumption) ?_)), (fun h => by cases h), (fun h => by cases h)⟩
        simp only [cond_false, List.setIfInBounds_toArray, List.set_cons_zero, List.set_cons_succ]
      case hsize =>
        intro LL aa v9 h
        obtain ⟨l0, l1, l2, l3, l4, l5, l6, l7, l8, l9, l10, l11, l12, l13, l14, l15, l16, l17, l18, l19, l20, l21, l22, E4, hL, _⟩ := h
        rw [hL]
        rfl
      case hstep =>
        intro LL aa v9 h
        obtain ⟨l0, l1, l2, l3, l4, l5, l6, l7, l8, l9, l10, l11, l12, l13, l14, l15, l16, l17, l18, l19, l20, l21, l22, E4, hL, ha, hb0, hq20, hr20⟩ := h
        simp only [List.setIfInBounds_toArray, List.set_cons_zero, List.set_cons_succ] at ha
        subst hL
        subst ha
        refine ⟨?s0, ?s1, ?s2, ?s3, ?s4, ?s5, ?s6, ?s7, ?s8, ?s9, ?s10, ?s11, ?s12, ?s13, ?s14, ?s15, ?s16, ?s17, ?s18, ?s19, ?s20, ?s21, ?s22, trivial⟩
        case s0 =>
          intro ff gg KK hK
          have f0 : l0 = false := ff
          clear ff gg
          subst f0
          simp only [cond_false]
          go_simp
          exact hK _ _ ⟨true, l1, l2, l3, l4, l5, l6, l7, l8, l9, l10, l11, l12, l13, l14, l15, l16, l17, l18, l19, l20, l21, l22, E4, rfl, (by simp only [cond_true, List.setIfInBounds_toArray, List.set_cons_zero, List.set_cons_succ]), hb0, hq20, hr20⟩
        case s1 =>
          intro ff gg KK hK
          have f0 : l1 = false := ff
          clear ff gg
          subst f0
          simp only [cond_false]
          go_simp
          exact hK _ _ ⟨l0, true, l2, l3, l4, l5, l6, l7, l8, l9, l10, l11, l12, l13, l14, l15, l16, l17, l18, l19, l20, l21, l22, E4, rfl, (by simp only [cond_true, List.setIfInBounds_toArray, List.set_cons_zero, List.set_cons_succ]), hb0, hq20, hr20⟩
        case s2 =>
          intro ff gg KK hK
          have t1 : l1 = true := gg ⟨1, .data⟩ (by simp) (by rfl)
          have f0 : l2 = false := ff
          clear ff gg
          subst t1
          subst f0
          simp only [cond_true, cond_false]
          have cc0 : v9.cell? ⟨w3.heap.size, 0, none⟩ = some (.string t) := cell_later hb0 s0
          go_simp
          exact hK _ _ ⟨l0, true, true, l3, l4, l5, l6, l7, l8, l9, l10, l11, l12, l13, l14, l15, l16, l17, l18, l19, l20, l21, l22, E4, rfl, (by simp only [cond_true, List.setIfInBounds_toArray, List.set_cons_zero, List.set_cons_succ]), hb0, hq20, hr20⟩
        case s3 =>
          intro ff gg KK hK
          have f0 : l3 = false := ff
          clear ff gg
          subst f0
          simp only [cond_false]
          go_simp
          exact hK _ _ ⟨l0, l1, l2, true, l4, l5, l6, l7, l8, l9, l10, l11, l12, l13, l14, l15, l16, l17, l18, l19, l20, l21, l22, E4, rfl, (by simp only [cond_true, List.setIfInBounds_toArray, List.set_cons_zero, List.set_cons_succ]), hb0, hq20, hr20⟩
        case s4 =>
          intro ff gg KK hK
          have t3 : l3 = true := gg ⟨3, .data⟩ (by simp) (by rfl)
          have f0 : l4 = false := ff
          clear ff gg
          subst t3
          subst f0
          simp only [cond_true, cond_false]
          have cc0 : v9.cell? ⟨E2, 0, none⟩ = some (.int .i64 lo) := cell_later hb0 t0
          go_simp
          exact hK _ _ ⟨l0, l1, l2, true, true, l5, l6, l7, l8, l9, l10, l11, l12, l13, l14, l15, l16, l17, l18, l19, l20, l21, l22, E4, rfl, (by simp only [cond_true, List.setIfInBounds_toArray, List.set_cons_zero, List.set_cons_succ]), hb0, hq20, hr20⟩
        case s5 =>
          intro ff gg KK hK
          have f0 : l5 = false := ff
          clear ff gg
          subst f0
          simp only [cond_false]
          go_simp
          exact hK _ _ ⟨l0, l1, l2, l3, l4, true, l6, l7, l8, l9, l10, l11, l12, l13, l14, l15, l16, l17, l18, l19, l20, l21, l22, E4, rfl, (by simp only [cond_true, List.setIfInBounds_toArray, List.set_cons_zero, List.set_cons_succ]), hb0, hq20, hr20⟩
        case s6 =>
          intro ff gg KK hK
          have t5 : l5 = true := gg ⟨5, .data⟩ (by simp) (by rfl)
          have f0 : l6 = false := ff
          clear ff gg
          subst t5
          subst f0
          simp only [cond_true, cond_false]
          have cc0 : v9.cell? ⟨w7.heap.size, 0, none⟩ = some (.int .i64 86164090) := cell_later hb0 r0
          go_simp
          exact hK _ _ ⟨l0, l1, l2, l3, l4, true, true, l7, l8, l9, l10, l11, l12, l13, l14, l15, l16, l17, l18, l19, l20, l21, l22, E4, rfl, (by simp only [cond_true, List.setIfInBounds_toArray, List.set_cons_zero, List.set_cons_succ]), hb0, hq20, hr20⟩
        case s7 =>
          intro ff gg KK hK
          have t4 : l4 = true := gg ⟨4, .data⟩ (by simp) (by rfl)
          have t6 : l6 = true := gg ⟨6, .data⟩ (by simp) (by rfl)
          have f0 : l7 = false := ff
          clear ff gg
          subst t4 t6
          subst f0
          simp only [cond_true, cond_false]
          go_simp
          exact hK _ _ ⟨l0, l1, l2, l3, true, l5, true, true, l8, l9, l10, l11, l12, l13, l14, l15, l16, l17, l18, l19, l20, l21, l22, E4, rfl, (by simp only [cond_true, List.setIfInBounds_toArray, List.set_cons_zero, List.set_cons_succ]), hb0, hq20, hr20⟩
        case s8 =>
          intro ff gg KK hK
          have f0 : l8 = false := ff
          clear ff gg
          subst f0
          simp only [cond_false]
          go_simp
          exact hK _ _ ⟨l0, l1, l2, l3, l4, l5, l6, l7, true, l9, l10, l11, l12, l13, l14, l15, l16, l17, l18, l19, l20, l21, l22, E4, rfl, (by simp only [cond_true, List.setIfInBounds_toArray, List.set_cons_zero, List.set_cons_succ]), hb0, hq20, hr20⟩
        case s9 =>
          intro ff gg KK hK
          have t8 : l8 = true := gg ⟨8, .data⟩ (by simp) (by rfl)
          have f0 : l9 = false := ff
          clear ff gg
          subst t8
          subst f0
          simp only [cond_true, cond_false]
          have cc0 : v9.cell? ⟨E2, 1, none⟩ = some (.int .i64 hi) := cell_later hb0 t1
          go_simp
          exact hK _ _ ⟨l0, l1, l2, l3, l4, l5, l6, l7, true, true, l10, l11, l12, l13, l14, l15, l16, l17, l18, l19, l20, l21, l22, E4, rfl, (by simp only [cond_true, List.setIfInBounds_toArray, List.set_cons_zero, List.set_cons_succ]), hb0, hq20, hr20⟩
        case s10 =>
          intro ff gg KK hK
          have f0 : l10 = false := ff
          clear ff gg
          subst f0
          simp only [cond_false]
          go_simp
          exact hK _ _ ⟨l0, l1, l2, l3, l4, l5, l6, l7, l8, l9, true, l11, l12, l13, l14, l15, l16, l17, l18, l19, l20, l21, l22, E4, rfl, (by simp only [cond_true, List.setIfInBounds_toArray, List.set_cons_zero, List.set_cons_succ]), hb0, hq20, hr20⟩
        case s11 =>
          intro ff gg KK hK
          have t10 : l10 = true := gg ⟨10, .data⟩ (by simp) (by rfl)
          have f0 : l11 = false := ff
          clear ff gg
          subst t10
          subst f0
          simp only [cond_true, cond_false]
          have cc0 : v9.cell? ⟨w7.heap.size, 1, none⟩ = some (.int .i64 86164091) := cell_later hb0 r1
          go_simp
          exact hK _ _ ⟨l0, l1, l2, l3, l4, l5, l6, l7, l8, l9, true, true, l12, l13, l14, l15, l16, l17, l18, l19, l20, l21, l22, E4, rfl, (by simp only [cond_true, List.setIfInBounds_toArray, List.set_cons_zero, List.set_cons_succ]), hb0, hq20, hr20⟩
        case s12 =>
          intro ff gg KK hK
          have t9 : l9 = true := gg ⟨9, .data⟩ (by simp) (by rfl)
          have t11 : l11 = true := gg ⟨11, .data⟩ (by simp) (by rfl)
          have f0 : l12 = false := ff
          clear ff gg
          subst t9 t11
          subst f0
          simp only [cond_true, cond_false]
          go_simp
          exact hK _ _ ⟨l0, l1, l2, l3, l4, l5, l6, l7, l8, true, l10, true, true, l13, l14, l15, l16, l17, l18, l19, l20, l21, l22, E4, rfl, (by simp only [cond_true, List.setIfInBounds_toArray, List.set_cons_zero, List.set_cons_succ]), hb0, hq20, hr20⟩
        case s13 =>
          intro ff gg KK hK
          have t7 : l7 = true := gg ⟨7, .data⟩ (by simp) (by rfl)
          have t12 : l12 = true := gg ⟨12, .data⟩ (by simp) (by rfl)
          have f0 : l13 = false := ff
          clear ff gg
          subst t7 t12
          subst f0
          simp only [cond_true, cond_false]
          go_simp
          exact hK _ _ ⟨l0, l1, l2, l3, l4, l5, l6, true, l8, l9, l10, l11, true, true, l14, l15, l16, l17, l18, l19, l20, l21, l22, E4, rfl, (by simp only [cond_true, List.setIfInBounds_toArray, List.set_cons_zero, List.set_cons_succ]), hb0, hq20, hr20⟩
        case s14 =>
          intro ff gg KK hK
          have f0 : l14 = false := ff
          clear ff gg
          subst f0
          simp only [cond_false]
          go_simp
          exact hK _ _ ⟨l0, l1, l2, l3, l4, l5, l6, l7, l8, l9, l10, l11, l12, l13, true, l15, l16, l17, l18, l19, l20, l21, l22, E4, rfl, (by simp only [cond_true, List.setIfInBounds_toArray, List.set_cons_zero, List.set_cons_succ]), hb0, hq20, hr20⟩
        case s15 =>
          intro ff gg KK hK
          have t14 : l14 = true := gg ⟨14, .data⟩ (by simp) (by rfl)
          have f0 : l15 = false := ff
          clear ff gg
          subst t14
          subst f0
          simp only [cond_true, cond_false]
          go_simp
          ((go_at_call 19; ((with_reducible refine (WA.out _ _).mono ?_); rintro e w' ⟨rfl, hb⟩)))
          exact hK _ _ ⟨l0, l1, l2, l3, l4, l5, l6, l7, l8, l9, l10, l11, l12, l13, true, true, l16, l17, l18, l19, l20, l21, l22, E4, rfl, (by simp only [cond_true, List.setIfInBounds_toArray, List.set_cons_zero, List.set_cons_succ]), bl_step hb hb0, hq20, (fun t => (hr20 t).later hb)⟩
        case s16 =>
          intro ff gg KK hK
          have t0 : l0 = true := gg ⟨0, .data⟩ (by simp) (by rfl)
          have t2 : l2 = true := gg ⟨2, .data⟩ (by simp) (by rfl)
          have t13 : l13 = true := gg ⟨13, .data⟩ (by simp) (by rfl)
          have t15 : l15 = true := gg ⟨15, .data⟩ (by simp) (by rfl)
          have f0 : l16 = false := ff
          clear ff gg
          subst t0 t2 t13 t15
          subst f0
          simp only [cond_true, cond_false]
          go_simp
          ((go_at_call 36; ((with_reducible refine (LH.out _ _ (hBk.later hb0)).mono ?_); rintro e w' ⟨rfl, hb⟩)))
          exact hK _ _ ⟨true, l1, true, l3, l4, l5, l6, l7, l8, l9, l10, l11, l12, true, l14, true, true, l17, l18, l19, l20, l21, l22, E4, rfl, (by simp only [cond_true, List.setIfInBounds_toArray, List.set_cons_zero, List.set_cons_succ]), bl_step hb hb0, hq20, (fun t => (hr20 t).later hb)⟩
        case s17 =>
          intro ff gg KK hK
          have t16 : l16 = true := gg ⟨16, .data⟩ (by simp) (by rfl)
          have f0 : l17 = false := ff
          clear ff gg
          subst t16
          subst f0
          simp only [cond_true, cond_false]
          go_simp
          exact hK _ _ ⟨l0, l1, l2, l3, l4, l5, l6, l7, l8, l9, l10, l11, l12, l13, l14, l15, true, true, l18, l19, l20, l21, l22, E4, rfl, (by simp only [cond_true, List.setIfInBounds_toArray, List.set_cons_zero, List.set_cons_succ]), hb0, hq20, hr20⟩
        case s18 =>
          intro ff gg KK hK
          have t17 : l17 = true := gg ⟨17, .data⟩ (by simp) (by rfl)
          have f0 : l18 = false := ff
          clear ff gg
          subst t17
          subst f0
          simp only [cond_true, cond_false]
          go_simp
          exact hK _ _ ⟨l0, l1, l2, l3, l4, l5, l6, l7, l8, l9, l10, l11, l12, l13, l14, l15, l16, true, true, l19, l20, l21, l22, E4, rfl, (by simp only [cond_true, List.setIfInBounds_toArray, List.set_cons_zero, List.set_cons_succ]), hb0, hq20, hr20⟩
        case s19 =>
          intro ff gg KK hK
          have t17 : l17 = true := gg ⟨17, .data⟩ (by simp) (by rfl)
          have f0 : l19 = false := ff
          clear ff gg
          subst t17
          subst f0
          simp only [cond_true, cond_false]
          go_simp
          exact hK _ _ ⟨l0, l1, l2, l3, l4, l5, l6, l7, l8, l9, l10, l11, l12, l13, l14, l15, l16, true, l18, true, l20, l21, l22, E4, rfl, (by simp only [cond_true, List.setIfInBounds_toArray, List.set_cons_zero, List.set_cons_succ]), hb0, hq20, hr20⟩
        case s20 =>
          intro ff gg KK hK
          have f0 : l20 = false := ff
          clear ff gg
          subst f0
          simp only [cond_false]
          go_simp
          exact hK _ _ ⟨l0, l1, l2, l3, l4, l5, l6, l7, l8, l9, l10, l11, l12, l13, l14, l15, l16, l17, l18, l19, true, l21, l22, v9.heap.size, rfl, (by simp only [cond_true, List.setIfInBounds_toArray, List.set_cons_zero, List.set_cons_succ]), (by (repeat (first | (with_reducible exact Below.refl _ _) | (with_reducible refine Below.setCell ?_ (by (first | (simp; done) | (simp; omega) | omega)) _) | (with_reducible refine bl_alloc ?_ _) | (with_reducible refine bl_drewN ?_) | (with_reducible refine bl_drew ?_) | (with_reducible refine bl_step (by assumption) ?_)))), (fun _ => rfl), (fun _ => Room2.alloc hb0 _ _ _ _ _ _ hq20)⟩
        case s21 =>
          intro ff gg KK hK
          have t20 : l20 = true := gg ⟨20, .data⟩ (by simp) (by rfl)
          have t18 : l18 = true := gg ⟨18, .data⟩ (by simp) (by rfl)
          have f0 : l21 = false := ff
          clear ff gg
          subst t20 t18
          subst f0
          simp only [cond_true]
          have rr := hr20 rfl
          obtain ⟨m1, m2, fz0, fz1, y0, y1, cz0, cz1, m7⟩ := rr
          go_simp
          exact hK _ _ ⟨l0, l1, l2, l3, l4, l5, l6, l7, l8, l9, l10, l11, l12, l13, l14, l15, l16, l17, true, l19, true, true, l22, E4, rfl, (by simp only [cond_true, List.setIfInBounds_toArray, List.set_cons_zero, List.set_cons_succ]), ((hb0.setCell m1 _).setCell m1 _), (fun _ => rfl), (fun _ => (hr20 rfl).store _ _ _)⟩
        case s22 =>
          intro ff gg KK hK
          have t19 : l19 = true := gg ⟨19, .data⟩ (by simp) (by rfl)
          have f0 : l22 = false := ff
          clear ff gg
          subst t19
          subst f0
          simp only [cond_true, cond_false]
          go_simp
          exact hK _ _ ⟨l0, l1, l2, l3, l4, l5, l6, l7, l8, l9, l10, l11, l12, l13, l14, l15, l16, l17, l18, true, l20, l21, true, E4, rfl, (by simp only [cond_true, List.setIfInBounds_toArray, List.set_cons_zero, List.set_cons_succ]), hb0, hq20, hr20⟩
      case hdone =>
        intro LL aa v9 h hd
        obtain ⟨l0, l1, l2, l3, l4, l5, l6, l7, l8, l9, l10, l11, l12, l13, l14, l15, l16, l17, l18, l19, l20, l21, l22, E4, hL, ha, hb0, hq20, hr20⟩ := h
        rw [hL] at hd
        have t0 : l0 = true := hd 0 (by decide)
        have t1 : l1 = true := hd 1 (by decide)
        have t2 : l2 = true := hd 2 (by decide)
        have t3 : l3 = true := hd 3 (by decide)
        have t4 : l4 = true := hd 4 (by decide)
        have t5 : l5 = true := hd 5 (by decide)
        have t6 : l6 = true := hd 6 (by decide)
        have t7 : l7 = true := hd 7 (by decide)
        have t8 : l8 = true := hd 8 (by decide)
        have t9 : l9 = true := hd 9 (by decide)
        have t10 : l10 = true := hd 10 (by decide)
        have t11 : l11 = true := hd 11 (by decide)
        have t12 : l12 = true := hd 12 (by decide)
        have t13 : l13 = true := hd 13 (by decide)
        have t14 : l14 = true := hd 14 (by decide)
        have t15 : l15 = true := hd 15 (by decide)
        have t16 : l16 = true := hd 16 (by decide)
        have t17 : l17 = true := hd 17 (by decide)
        have t18 : l18 = true := hd 18 (by decide)
        have t19 : l19 = true := hd 19 (by decide)
        have t20 : l20 = true := hd 20 (by decide)
        have t21 : l21 = true := hd 21 (by decide)
        have t22 : l22 = true := hd 22 (by decide)
        clear hd hL hq20
        subst t0 t1 t2 t3 t4 t5 t6 t7 t8 t9 t10 t11 t12 t13 t14 t15 t16 t17 t18 t19 t20 t21 t22
        simp only [cond_true, List.setIfInBounds_toArray, List.set_cons_zero, List.set_cons_succ] at ha
        subst ha
        obtain ⟨E4g, E4l, E4f0, E4f1, y0, y1, E4c0, E4c1, hy⟩ := hr20 rfl
        obtain ⟨rfl, rfl⟩ := hy rfl
        clear hr20
        have hv2 : Below w.heap.size w v9 := bl_step hb0 hv
        go_wp2_with (go_at_call 14; ((with_reducible refine (A3.out _).mono ?_); rintro e w' ⟨rfl, hb⟩); (try replace hb := below_undrew hb); (try replace hb := below_undrewN hb); obtain ⟨hcell, hfroz⟩ := bcell hb; have hz := hb.size; (try simp at hz); (try (have z6 := Nat.lt_of_lt_of_le z7 hz)); (try (have z7 := Nat.lt_of_lt_of_le z8 hz)); (try (have z8 := Nat.lt_of_lt_of_le z9 hz)); (try (have z9 := Nat.lt_of_lt_of_le (Nat.lt_succ_self _) hz)); (try have z0 : w.heap.size < w'.heap.size := by omega); (try have z1 : w.heap.size + 1 < w'.heap.size := by omega); (try have z2 : w.heap.size + 1 + 1 < w'.heap.size := by omega); (try have z3 : w.heap.size + 1 + 1 + 1 < w'.heap.size := by omega); (try have y1 : w1.heap.size < w'.heap.size := by omega); (try have y2 : w2.heap.size < w'.heap.size := by omega); (try have y3 : w3.heap.size < w'.heap.size := by omega); (try have y6 : w6.heap.size < w'.heap.size := by omega); (try have x1 : w1.heap.size + 1 < w'.heap.size := by omega); (try have x2 : w2.heap.size + 1 < w'.heap.size := by omega); (try have x3 : w3.heap.size + 1 < w'.heap.size := by omega); (try have x6 : w6.heap.size + 1 < w'.heap.size := by omega); (try have y7 : w7.heap.size < w'.heap.size := by omega); (try have z10 : w1.heap.size < w'.heap.size + 1 := by omega); (try have z20 : w2.heap.size < w'.heap.size + 1 := by omega); (try have z30 : w3.heap.size < w'.heap.size + 1 := by omega); (try have z60 : w6.heap.size < w'.heap.size + 1 := by omega); (try have z70 : w7.heap.size < w'.heap.size + 1 := by omega))
        go_ret
        exact ⟨rfl, bl_step hb hv2⟩
end Go.Proofs.YtdhbeoahpfimbaaGreat
