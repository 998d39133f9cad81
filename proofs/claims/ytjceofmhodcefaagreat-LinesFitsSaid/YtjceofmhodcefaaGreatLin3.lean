/- Move of package lines, as contracts. -/
import Derived.Test.YtjceofmhodcefaaGreatLa
import Derived.Deep.DeepCutAuto
import Derived.Deep.Cut
import Derived.Test.YtjceofmhodcefaaGreatInv
namespace Go.Proofs.YtjceofmhodcefaaGreat
open Go.RowKit

set_option maxRecDepth 100000 in
set_option maxHeartbeats 4000000 in
theorem move_ok (c d a b p q m n g h x y f k H L P Q : Int) (w : World) (h1 : lineB c d a b p q = true) (h2 : arcB m n = true) (h3 : arcB g h = true) (h4 : 0 ≤ g) (h5 : h ≤ 21600000)
    (S : Hid (∀ w, Calls Tryz.prog 29 #[.agg #[.int .i64 (m), .int .i64 (n)], .agg #[.int .i64 (a), .int .i64 (b)]] w fun e w' => e = .returned (.tuple #[.agg #[.int .i64 (x), .int .i64 (y)], .int .i64 (0)]) ∧ Below w.heap.size w w'))
    (C : Hid (∀ B w, okAt w B → Calls Tryz.prog 16 #[.pointer (some ⟨B, 0, none⟩), .agg #[.int .i64 (x), .int .i64 (y)]] w fun e w' => e = .returned (.agg #[.int .i64 (f), .int .i64 (k)]) ∧ Below w.heap.size w w'))
    (T : Hid (∀ B w, okAt w B → Calls Tryz.prog 33 #[.pointer (some ⟨B, 0, none⟩), .agg #[.int .i64 (g), .int .i64 (h)], .agg #[.int .i64 (f), .int .i64 (k)]] w fun e w' => e = .returned (.agg #[.int .i64 (L), .int .i64 (H)]) ∧ Below w.heap.size w w'))
    (A : Hid (∀ w, Calls Tryz.prog 34 #[.agg #[.int .i64 (p), .int .i64 (q)], .agg #[.int .i64 (L), .int .i64 (H)]] w fun e w' => e = .returned (.agg #[.int .i64 (P), .int .i64 (Q)]) ∧ Below w.heap.size w w'))
    (W : Hid (∀ w, Calls Tryz.prog 18 #[.agg #[.int .i64 (P), .int .i64 (Q)], .int .i64 600000] w fun e w' => e = .returned (.bool true) ∧ Below w.heap.size w w'))
    :
    Calls Tryz.prog 10 #[.agg #[.int .i64 (c), .int .i64 (d), .int .i64 (a), .int .i64 (b), .int .i64 (p), .int .i64 (q)], .agg #[.int .i64 m, .int .i64 n, .int .i64 g, .int .i64 h]] w fun e w' => e = .returned (.tuple #[.agg #[.int .i64 (c), .int .i64 (d), .int .i64 (a), .int .i64 (b), .int .i64 (P), .int .i64 (Q)], .int .i64 0]) ∧ Below w.heap.size w w' := by
  go_enter Tryz.func10, Tryz.ntmps10
  go_wp2_with ((first | (go_at_call 37; ((with_reducible refine (lvalid_any _ _ _ _ _ _ _).mono ?_); rintro e w' ⟨rfl, hb⟩); have nm0 := trivial) | (go_at_call 38; ((with_reducible refine (valid_any _ _ _).mono ?_); rintro e w' ⟨rfl, hb⟩); have nm1 := trivial) | (go_at_call 29; ((with_reducible refine (S.out _).mono ?_); rintro e w' ⟨rfl, hb⟩); have nm2 := trivial)); (try replace hb := below_undrew hb); (try replace hb := below_undrewN hb); obtain ⟨hcell, hfroz⟩ := bcell hb; have hz := hb.size; (try simp at hz); (try (have z6 := Nat.lt_of_lt_of_le z7 hz)); (try (have z7 := Nat.lt_of_lt_of_le z8 hz)); (try (have z8 := Nat.lt_of_lt_of_le z9 hz)); (try (have z9 := Nat.lt_of_lt_of_le (Nat.lt_succ_self _) hz)); (try (have z0 : w.heap.size < w'.heap.size := by omega)); (try (have z1 : w.heap.size + 1 < w'.heap.size := by omega)); (try (have z2 : w.heap.size + 1 + 1 < w'.heap.size := by omega)); (try (have z3 : w.heap.size + 1 + 1 + 1 < w'.heap.size := by omega)); (try (have y1 : w1.heap.size < w'.heap.size := by omega)); (try (have y2 : w2.heap.size < w'.heap.size := by omega)); (try (have x1 : w1.heap.size + 1 < w'.heap.size := by omega)); (try (have x2 : w2.heap.size + 1 < w'.heap.size := by omega)); (try (have z10 : w1.heap.size < w'.heap.size + 1 := by omega)); (try (have z20 : w2.heap.size < w'.heap.size + 1 := by omega)); (first | (clear nm0; obtain ⟨w1, rfl⟩ : ∃ v, v = w' := ⟨_, rfl⟩) | (clear nm1; obtain ⟨w2, rfl⟩ : ∃ v, v = w' := ⟨_, rfl⟩) | (clear nm2; obtain ⟨w4, rfl⟩ : ∃ v, v = w' := ⟨_, rfl⟩)))
  (refine name_below ?_; intro w' hb; (try replace hb := below_undrew hb); (try replace hb := below_undrewN hb); obtain ⟨hcell, hfroz⟩ := bcell hb; have hz := hb.size; (try simp at hz); (try (have z6 := Nat.lt_of_lt_of_le z7 hz)); (try (have z7 := Nat.lt_of_lt_of_le z8 hz)); (try (have z8 := Nat.lt_of_lt_of_le z9 hz)); (try (have z9 := Nat.lt_of_lt_of_le (Nat.lt_succ_self _) hz)); (try (have z0 : w.heap.size < w'.heap.size := by omega)); (try (have z1 : w.heap.size + 1 < w'.heap.size := by omega)); (try (have z2 : w.heap.size + 1 + 1 < w'.heap.size := by omega)); (try (have z3 : w.heap.size + 1 + 1 + 1 < w'.heap.size := by omega)); (try (have y1 : w1.heap.size < w'.heap.size := by omega)); (try (have y2 : w2.heap.size < w'.heap.size := by omega)); (try (have y4 : w4.heap.size < w'.heap.size := by omega)); (try (have y5 : w5.heap.size < w'.heap.size := by omega)); (try (have x1 : w1.heap.size + 1 < w'.heap.size := by omega)); (try (have x2 : w2.heap.size + 1 < w'.heap.size := by omega)); (try (have x4 : w4.heap.size + 1 < w'.heap.size := by omega)); (try (have x5 : w5.heap.size + 1 < w'.heap.size := by omega)); (try (have y8 : w8.heap.size < w'.heap.size := by omega)); (try (have z10 : w1.heap.size < w'.heap.size + 1 := by omega)); (try (have z20 : w2.heap.size < w'.heap.size + 1 := by omega)); (try (have z40 : w4.heap.size < w'.heap.size + 1 := by omega)); (try (have z50 : w5.heap.size < w'.heap.size + 1 := by omega)); (try (have z80 : w8.heap.size < w'.heap.size + 1 := by omega)))
  have hw5 : Below w.heap.size w w' := by (repeat (first | exact Below.refl _ _ | refine bl_drewN ?_ | refine bl_drew ?_ | refine bl_alloc ?_ _ | refine Below.setCell ?_ (by (first | (simp; done) | (simp; omega) | omega)) _ | refine bl_step (by assumption) ?_))
  have c0 : w'.cell? ⟨w.heap.size, 0, none⟩ = some (.int .i64 c) := by simp [go_sem, *]
  have c1 : w'.cell? ⟨w.heap.size, 1, none⟩ = some (.int .i64 d) := by simp [go_sem, *]
  have c2 : w'.cell? ⟨w.heap.size, 2, none⟩ = some (.int .i64 a) := by simp [go_sem, *]
  have c3 : w'.cell? ⟨w.heap.size, 3, none⟩ = some (.int .i64 b) := by simp [go_sem, *]
  have c4 : w'.cell? ⟨w.heap.size, 4, none⟩ = some (.int .i64 p) := by simp [go_sem, *]
  have c5 : w'.cell? ⟨w.heap.size, 5, none⟩ = some (.int .i64 q) := by simp [go_sem, *]
  have c6 : w'.cell? ⟨w.heap.size + 1 + 1 + 1, 0, none⟩ = some (.int .i64 g) := by simp [go_sem, *]
  have c7 : w'.cell? ⟨w.heap.size + 1 + 1 + 1, 1, none⟩ = some (.int .i64 h) := by simp [go_sem, *]
  have c8 : w'.cell? ⟨w2.heap.size, 0, none⟩ = some (.int .i64 0) := by simp [go_sem, *]
  have c9 : w'.cell? ⟨w4.heap.size, 0, none⟩ = some (.int .i64 x) := by simp [go_sem, *]
  have c10 : w'.cell? ⟨w4.heap.size, 1, none⟩ = some (.int .i64 y) := by simp [go_sem, *]
  have c11 : w'.cell? ⟨w.heap.size + 1 + 1, 0, none⟩ = some (.int .i64 0) := by simp [go_sem, *]
  have c12 : w'.cell? ⟨w.heap.size + 1 + 1, 1, none⟩ = some (.int .i64 0) := by simp [go_sem, *]
  have c13 : w'.cell? ⟨w.heap.size + 1 + 1, 2, none⟩ = some (.int .i64 0) := by simp [go_sem, *]
  have c14 : w'.cell? ⟨w.heap.size + 1 + 1, 3, none⟩ = some (.int .i64 0) := by simp [go_sem, *]
  have c15 : w'.cell? ⟨w.heap.size + 1 + 1, 4, none⟩ = some (.int .i64 0) := by simp [go_sem, *]
  have c16 : w'.cell? ⟨w.heap.size + 1 + 1, 5, none⟩ = some (.int .i64 0) := by simp [go_sem, *]
  have cf : ∀ o, w'.frozen? ⟨w.heap.size, o, none⟩ = false := by intro o; simp [go_sem, *]
  have cg : ∀ o, w'.frozen? ⟨w.heap.size + 1 + 1, o, none⟩ = false := by intro o; simp [go_sem, *]
  have ok5 : okAt w' w2.heap.size := ⟨c8, by simp [go_sem, *]⟩
  clear hcell hfroz
  obtain ⟨w5, rfl⟩ : ∃ v, v = w' := ⟨_, rfl⟩
  have hb0 : w.heap.size < w5.heap.size := World.block_lt_of_cell? _ _ c0
  have hb2 : w.heap.size + 1 + 1 < w5.heap.size := World.block_lt_of_cell? _ _ c11
  have n2 : w2.heap.size ≠ w.heap.size := by omega
  have n3 : w2.heap.size ≠ w.heap.size + 1 + 1 := by omega
  refine wp_region_inv (fun a0 LL aa vv => ∃ (l0 l1 l2 l3 l4 l5 l6 l7 l8 l9 l10 : Bool) (uu : World), LL = #[l0, l1, l2, l3, l4, l5, l6, l7, l8, l9, l10] ∧ aa = { a0 with tmps := ((((((((((a0.tmps.setIfInBounds 61 (cond l0 (.pointer (some ⟨w.heap.size, 4, none⟩)) undef)).setIfInBounds 62 (cond l1 (.agg #[.int .i64 (p), .int .i64 (q)]) undef)).setIfInBounds 63 (cond l2 (.pointer (some ⟨w2.heap.size, 0, none⟩)) undef)).setIfInBounds 64 (cond l3 (.agg #[.int .i64 (g), .int .i64 (h)]) undef)).setIfInBounds 65 (cond l4 (.pointer (some ⟨w2.heap.size, 0, none⟩)) undef)).setIfInBounds 66 (cond l5 (.agg #[.int .i64 (x), .int .i64 (y)]) undef)).setIfInBounds 67 (cond l6 (.agg #[.int .i64 (f), .int .i64 (k)]) undef)).setIfInBounds 68 (cond l7 (.agg #[.int .i64 (L), .int .i64 (H)]) undef)).setIfInBounds 69 (cond l8 (.agg #[.int .i64 (P), .int .i64 (Q)]) undef)).setIfInBounds 70 (cond l9 (.pointer (some ⟨w.heap.size, 4, none⟩)) undef)) } ∧ (l10 = true → l0 = true ∧ l1 = true ∧ l2 = true ∧ l3 = true ∧ l4 = true ∧ l5 = true ∧ l6 = true ∧ l7 = true ∧ l8 = true ∧ l9 = true) ∧ Below w5.heap.size w5 uu ∧ vv = cond l10 ((uu.setCell ⟨w.heap.size, 4, none⟩ (.int .i64 P)).setCell ⟨w.heap.size, 5, none⟩ (.int .i64 Q)) uu) (by kernel_rfl) (by kernel_rfl) ?h0 ?hsize ?hdone ?hstep
  case h0 =>
    refine ⟨false, false, false, false, false, false, false, false, false, false, false, _, rfl, ?_, (fun h => by cases h), by (repeat (first | exact Below.refl _ _ | refine bl_drewN ?_ | refine bl_drew ?_ | refine bl_alloc ?_ _ | refine Below.setCell ?_ (by (first | (simp; done) | (simp; omega) | omega)) _ | refine bl_step (by assumption) ?_)), rfl⟩
    simp only [cond_false, List.setIfInBounds_toArray, List.set_cons_zero, List.set_cons_succ]
  case hsize =>
    intro LL aa vv h
    obtain ⟨l0, l1, l2, l3, l4, l5, l6, l7, l8, l9, l10, uu, hL, _⟩ := h
    rw [hL]
    rfl
  case hdone =>
    intro LL aa vv h hd
    obtain ⟨l0, l1, l2, l3, l4, l5, l6, l7, l8, l9, l10, uu, hL, ha, hall, hu, hv⟩ := h
    rw [hL] at hd
    have t0 : l0 = true := hd 0 (by decide)
    have t1 : l1 = true := hd 1 (by decide)
    have t2 : l2 = true := hd 2 (by decide)
    have t3 : l3 = true := hd 3 (by decide)
    have t4 : l4 = true := hd 4 (by decide)
    have t5 : l5 = true := hd 5 (by decide)
    have t6 : l6 = true := hd 6 (by decide)
    have t7 : l7 = true := hd 7 (by decide)
    have t8 : l8 = true := hd 8 (by decide)
    have t9 : l9 = true := hd 9 (by decide)
    have t10 : l10 = true := hd 10 (by decide)
    clear hd hL hall
    subst t0 t1 t2 t3 t4 t5 t6 t7 t8 t9 t10
    simp only [cond_true, List.setIfInBounds_toArray, List.set_cons_zero, List.set_cons_succ] at ha hv
    subst ha
    subst hv
    replace c0 := cell_later hu c0
    replace c1 := cell_later hu c1
    replace c2 := cell_later hu c2
    replace c3 := cell_later hu c3
    replace c4 := cell_later hu c4
    replace c5 := cell_later hu c5
    replace c8 := cell_later hu c8
    replace c11 := cell_later hu c11
    replace c12 := cell_later hu c12
    replace c13 := cell_later hu c13
    replace c14 := cell_later hu c14
    replace c15 := cell_later hu c15
    replace c16 := cell_later hu c16
    replace ok5 := okAt_later hu ok5
    replace cf : ∀ o, uu.frozen? ⟨w.heap.size, o, none⟩ = false := fun o => (hu.frozen (p := ⟨w.heap.size, o, none⟩) hb0).trans (cf o)
    replace cg : ∀ o, uu.frozen? ⟨w.heap.size + 1 + 1, o, none⟩ = false := fun o => (hu.frozen (p := ⟨w.heap.size + 1 + 1, o, none⟩) hb2).trans (cg o)
    have b0 : w.heap.size < uu.heap.size := World.block_lt_of_cell? _ _ c0
    have b2 : w.heap.size + 1 + 1 < uu.heap.size := World.block_lt_of_cell? _ _ c11
    have b3 := okAt_lt ok5
    obtain ⟨ok1, ok2⟩ := ok5
    replace hw5 : Below w.heap.size w uu := bl_step hu hw5
    clear hu c6 c7 c9 c10
    go_wp2_with (first | (go_at_call 18; ((with_reducible refine (W.out _).mono ?_); rintro e w' ⟨rfl, hb⟩); (try replace hb := below_undrew hb); (try replace hb := below_undrewN hb); obtain ⟨hcell, hfroz⟩ := bcell hb; have hz := hb.size; (try simp at hz); (try (have z6 := Nat.lt_of_lt_of_le z7 hz)); (try (have z7 := Nat.lt_of_lt_of_le z8 hz)); (try (have z8 := Nat.lt_of_lt_of_le z9 hz)); (try (have z9 := Nat.lt_of_lt_of_le (Nat.lt_succ_self _) hz)); (try (have z0 : w.heap.size < w'.heap.size := by omega)); (try (have z1 : w.heap.size + 1 < w'.heap.size := by omega)); (try (have z2 : w.heap.size + 1 + 1 < w'.heap.size := by omega)); (try (have z3 : w.heap.size + 1 + 1 + 1 < w'.heap.size := by omega)); (try (have y1 : w1.heap.size < w'.heap.size := by omega)); (try (have y2 : w2.heap.size < w'.heap.size := by omega)); (try (have y4 : w4.heap.size < w'.heap.size := by omega)); (try (have y5 : w5.heap.size < w'.heap.size := by omega)); (try (have x1 : w1.heap.size + 1 < w'.heap.size := by omega)); (try (have x2 : w2.heap.size + 1 < w'.heap.size := by omega)); (try (have x4 : w4.heap.size + 1 < w'.heap.size := by omega)); (try (have x5 : w5.heap.size + 1 < w'.heap.size := by omega)); (try (have z10 : w1.heap.size < w'.heap.size + 1 := by omega)); (try (have z20 : w2.heap.size < w'.heap.size + 1 := by omega)); (try (have z40 : w4.heap.size < w'.heap.size + 1 := by omega)); (try (have z50 : w5.heap.size < w'.heap.size + 1 := by omega)); obtain ⟨w8, rfl⟩ : ∃ v, v = w' := ⟨_, rfl⟩))
    exact bodyPost_ret (v := .tuple #[.agg #[.int .i64 (c), .int .i64 (d), .int .i64 (a), .int .i64 (b), .int .i64 (P), .int .i64 (Q)], .int .i64 0]) (by first | (simp only [results, Tryz.results10]; go_simp; done) | simp [results, Tryz.results10, go_sem, *]) rfl ⟨rfl, by (repeat (first | (with_reducible exact Below.refl _ _) | (with_reducible refine Below.setCell ?_ (by (first | (simp; done) | (simp; omega) | omega)) _) | (with_reducible refine bl_alloc ?_ _) | (with_reducible refine bl_drewN ?_) | (with_reducible refine bl_drew ?_) | (with_reducible refine bl_step (by assumption) ?_)))⟩
  case hstep =>
    intro LL aa vv h
    obtain ⟨l0, l1, l2, l3, l4, l5, l6, l7, l8, l9, l10, uu, hL, ha, hall, hu, hv⟩ := h
    simp only [List.setIfInBounds_toArray, List.set_cons_zero, List.set_cons_succ] at ha
    subst hL
    subst ha
    refine ⟨?s0, ?s1, ?s2, ?s3, ?s4, ?s5, ?s6, ?s7, ?s8, ?s9, ?s10, trivial⟩
    case s0 =>
      intro ff gg KK hK
      have f0 : l0 = false := ff
      cases hl : l10
      case true =>
        have := (hall hl).1
        rw [f0] at this
        cases this
      rw [hl] at hv
      simp only [cond_false] at hv
      subst hv
      clear ff gg
      subst hl
      subst f0
      simp only [cond_false]
      go_simp
      exact hK _ _ ⟨true, l1, l2, l3, l4, l5, l6, l7, l8, l9, false, _, rfl, (by simp only [cond_true, List.setIfInBounds_toArray, List.set_cons_zero, List.set_cons_succ]), (fun h => by cases h), hu, rfl⟩
    case s1 =>
      intro ff gg KK hK
      have f0 : l1 = false := ff
      cases hl : l10
      case true =>
        have := (hall hl).2.1
        rw [f0] at this
        cases this
      rw [hl] at hv
      simp only [cond_false] at hv
      subst hv
      have t0 : l0 = true := gg ⟨0, .data⟩ (by simp) (by rfl)
      clear ff gg
      subst t0
      subst hl
      subst f0
      simp only [cond_true, cond_false]
      have k0 := cell_later hu c4
      have k1 := cell_later hu c5
      go_simp
      exact hK _ _ ⟨true, true, l2, l3, l4, l5, l6, l7, l8, l9, false, _, rfl, (by simp only [cond_true, List.setIfInBounds_toArray, List.set_cons_zero, List.set_cons_succ]), (fun h => by cases h), hu, rfl⟩
    case s2 =>
      intro ff gg KK hK
      have f0 : l2 = false := ff
      cases hl : l10
      case true =>
        have := (hall hl).2.2.1
        rw [f0] at this
        cases this
      rw [hl] at hv
      simp only [cond_false] at hv
      subst hv
      clear ff gg
      subst hl
      subst f0
      simp only [cond_false]
      go_simp
      exact hK _ _ ⟨l0, l1, true, l3, l4, l5, l6, l7, l8, l9, false, _, rfl, (by simp only [cond_true, List.setIfInBounds_toArray, List.set_cons_zero, List.set_cons_succ]), (fun h => by cases h), hu, rfl⟩
    case s3 =>
      intro ff gg KK hK
      have f0 : l3 = false := ff
      cases hl : l10
      case true =>
        have := (hall hl).2.2.2.1
        rw [f0] at this
        cases this
      rw [hl] at hv
      simp only [cond_false] at hv
      subst hv
      clear ff gg
      subst hl
      subst f0
      simp only [cond_false]
      have k0 := cell_later hu c6
      have k1 := cell_later hu c7
      go_simp
      exact hK _ _ ⟨l0, l1, l2, true, l4, l5, l6, l7, l8, l9, false, _, rfl, (by simp only [cond_true, List.setIfInBounds_toArray, List.set_cons_zero, List.set_cons_succ]), (fun h => by cases h), hu, rfl⟩
    case s4 =>
      intro ff gg KK hK
      have f0 : l4 = false := ff
      cases hl : l10
      case true =>
        have := (hall hl).2.2.2.2.1
        rw [f0] at this
        cases this
      rw [hl] at hv
      simp only [cond_false] at hv
      subst hv
      clear ff gg
      subst hl
      subst f0
      simp only [cond_false]
      go_simp
      exact hK _ _ ⟨l0, l1, l2, l3, true, l5, l6, l7, l8, l9, false, _, rfl, (by simp only [cond_true, List.setIfInBounds_toArray, List.set_cons_zero, List.set_cons_succ]), (fun h => by cases h), hu, rfl⟩
    case s5 =>
      intro ff gg KK hK
      have f0 : l5 = false := ff
      cases hl : l10
      case true =>
        have := (hall hl).2.2.2.2.2.1
        rw [f0] at this
        cases this
      rw [hl] at hv
      simp only [cond_false] at hv
      subst hv
      clear ff gg
      subst hl
      subst f0
      simp only [cond_false]
      have k0 := cell_later hu c9
      have k1 := cell_later hu c10
      go_simp
      exact hK _ _ ⟨l0, l1, l2, l3, l4, true, l6, l7, l8, l9, false, _, rfl, (by simp only [cond_true, List.setIfInBounds_toArray, List.set_cons_zero, List.set_cons_succ]), (fun h => by cases h), hu, rfl⟩
    case s6 =>
      intro ff gg KK hK
      have f0 : l6 = false := ff
      cases hl : l10
      case true =>
        have := (hall hl).2.2.2.2.2.2.1
        rw [f0] at this
        cases this
      rw [hl] at hv
      simp only [cond_false] at hv
      subst hv
      have t4 : l4 = true := gg ⟨4, .data⟩ (by simp) (by rfl)
      have t5 : l5 = true := gg ⟨5, .data⟩ (by simp) (by rfl)
      clear ff gg
      subst t4 t5
      subst hl
      subst f0
      simp only [cond_true, cond_false]
      go_simp
      go_at_call 16
      ((with_reducible refine (C.out _ _ (okAt_later hu ok5)).mono ?_); rintro e w' ⟨rfl, hb⟩)
      exact hK _ _ ⟨l0, l1, l2, l3, true, true, true, l7, l8, l9, false, _, rfl, (by simp only [cond_true, List.setIfInBounds_toArray, List.set_cons_zero, List.set_cons_succ]), (fun h => by cases h), bl_step hb hu, rfl⟩
    case s7 =>
      intro ff gg KK hK
      have f0 : l7 = false := ff
      cases hl : l10
      case true =>
        have := (hall hl).2.2.2.2.2.2.2.1
        rw [f0] at this
        cases this
      rw [hl] at hv
      simp only [cond_false] at hv
      subst hv
      have t2 : l2 = true := gg ⟨2, .data⟩ (by simp) (by rfl)
      have t3 : l3 = true := gg ⟨3, .data⟩ (by simp) (by rfl)
      have t6 : l6 = true := gg ⟨6, .data⟩ (by simp) (by rfl)
      clear ff gg
      subst t2 t3 t6
      subst hl
      subst f0
      simp only [cond_true, cond_false]
      go_simp
      go_at_call 33
      ((with_reducible refine (T.out _ _ (okAt_later hu ok5)).mono ?_); rintro e w' ⟨rfl, hb⟩)
      exact hK _ _ ⟨l0, l1, true, true, l4, l5, true, true, l8, l9, false, _, rfl, (by simp only [cond_true, List.setIfInBounds_toArray, List.set_cons_zero, List.set_cons_succ]), (fun h => by cases h), bl_step hb hu, rfl⟩
    case s8 =>
      intro ff gg KK hK
      have f0 : l8 = false := ff
      cases hl : l10
      case true =>
        have := (hall hl).2.2.2.2.2.2.2.2.1
        rw [f0] at this
        cases this
      rw [hl] at hv
      simp only [cond_false] at hv
      subst hv
      have t1 : l1 = true := gg ⟨1, .data⟩ (by simp) (by rfl)
      have t7 : l7 = true := gg ⟨7, .data⟩ (by simp) (by rfl)
      clear ff gg
      subst t1 t7
      subst hl
      subst f0
      simp only [cond_true, cond_false]
      go_simp
      go_at_call 34
      with_reducible refine (A.out _).mono ?_
      rintro e w' ⟨rfl, hb⟩
      exact hK _ _ ⟨l0, true, l2, l3, l4, l5, l6, true, true, l9, false, _, rfl, (by simp only [cond_true, List.setIfInBounds_toArray, List.set_cons_zero, List.set_cons_succ]), (fun h => by cases h), bl_step hb hu, rfl⟩
    case s9 =>
      intro ff gg KK hK
      have f0 : l9 = false := ff
      cases hl : l10
      case true =>
        have := (hall hl).2.2.2.2.2.2.2.2.2
        rw [f0] at this
        cases this
      rw [hl] at hv
      simp only [cond_false] at hv
      subst hv
      have t0 : l0 = true := gg ⟨0, .phase⟩ (by simp) (by rfl)
      have t1 : l1 = true := gg ⟨1, .phase⟩ (by simp) (by rfl)
      have t2 : l2 = true := gg ⟨2, .phase⟩ (by simp) (by rfl)
      have t3 : l3 = true := gg ⟨3, .phase⟩ (by simp) (by rfl)
      have t4 : l4 = true := gg ⟨4, .phase⟩ (by simp) (by rfl)
      have t5 : l5 = true := gg ⟨5, .phase⟩ (by simp) (by rfl)
      have t6 : l6 = true := gg ⟨6, .phase⟩ (by simp) (by rfl)
      have t7 : l7 = true := gg ⟨7, .phase⟩ (by simp) (by rfl)
      have t8 : l8 = true := gg ⟨8, .phase⟩ (by simp) (by rfl)
      clear ff gg
      subst t0 t1 t2 t3 t4 t5 t6 t7 t8
      subst hl
      subst f0
      simp only [cond_true, cond_false]
      go_simp
      exact hK _ _ ⟨true, true, true, true, true, true, true, true, true, true, false, _, rfl, (by simp only [cond_true, List.setIfInBounds_toArray, List.set_cons_zero, List.set_cons_succ]), (fun h => by cases h), hu, rfl⟩
    case s10 =>
      intro ff gg KK hK
      have t9 : l9 = true := gg ⟨9, .data⟩ (by simp) (by rfl)
      have t8 : l8 = true := gg ⟨8, .data⟩ (by simp) (by rfl)
      have t0 : l0 = true := gg ⟨0, .phase⟩ (by simp) (by rfl)
      have t1 : l1 = true := gg ⟨1, .phase⟩ (by simp) (by rfl)
      have t2 : l2 = true := gg ⟨2, .phase⟩ (by simp) (by rfl)
      have t3 : l3 = true := gg ⟨3, .phase⟩ (by simp) (by rfl)
      have t4 : l4 = true := gg ⟨4, .phase⟩ (by simp) (by rfl)
      have t5 : l5 = true := gg ⟨5, .phase⟩ (by simp) (by rfl)
      have t6 : l6 = true := gg ⟨6, .phase⟩ (by simp) (by rfl)
      have t7 : l7 = true := gg ⟨7, .phase⟩ (by simp) (by rfl)
      have f0 : l10 = false := ff
      clear ff gg
      subst t9 t8 t0 t1 t2 t3 t4 t5 t6 t7
      subst f0
      simp only [cond_false] at hv
      subst hv
      simp only [cond_true]
      have k0 := cell_later hu c4
      have k1 := cell_later hu c5
      have k2 : vv.frozen? ⟨w.heap.size, 4, none⟩ = false := (hu.frozen (p := ⟨w.heap.size, 4, none⟩) (World.block_lt_of_cell? _ _ c4)).trans (cf 4)
      have k3 : vv.frozen? ⟨w.heap.size, 5, none⟩ = false := (hu.frozen (p := ⟨w.heap.size, 5, none⟩) (World.block_lt_of_cell? _ _ c5)).trans (cf 5)
      go_simp
      exact hK _ _ ⟨true, true, true, true, true, true, true, true, true, true, true, _, rfl, (by simp only [cond_true, List.setIfInBounds_toArray, List.set_cons_zero, List.set_cons_succ]), (fun _ => ⟨rfl, rfl, rfl, rfl, rfl, rfl, rfl, rfl, rfl, rfl⟩), hu, rfl⟩

end Go.Proofs.YtjceofmhodcefaaGreat
