/- Numbers with signs by their values; Mul of the reference of layer 2. -/
import Derived.Test.YtoagcbamlnhkhaaNg
import Derived.OwnWalk
namespace Go.Proofs.Ytoagcbamlnhkhaa
open Go.RowKit

theorem sgb_is {w : World} {A : Option Addr} {n c z : Nat} {b s : Bool} (h : Dig w A n c z) (h0 : z = 0 → s = false) (h1 : z ≠ 0 → s = b) : sgb n b = s := by
  unfold sgb
  by_cases e : n = 0
  · rw [if_pos e, h0 (h.pos.1 e)]
  · rw [if_neg e, h1 (fun k => e (h.pos.2 k))]
theorem num_of {w : World} {z : Nat} {f : Nat → Bool} {e : Ending} {w' : World} {v : Int} (h : SgRes w z f e w') (hz : z = v.natAbs) (hf : ∀ {A : Option Addr} {n c : Nat}, Dig w' A n c z → f n = decide (v < 0)) : NumRes w v e w' := by
  obtain ⟨A, n, c, rfl, hd, hfr, hb⟩ := h
  exact ⟨A, n, c, _, rfl, by rw [← hz]; exact hd, hf hd, hfr, hb⟩
theorem plus02_num (A1 A2 : Option Addr) (n1 n2 c1 c2 : Nat) (x y : Int) (w : World) (h1 : Dig w A1 n1 c1 x.natAbs) (h2 : Dig w A2 n2 c2 y.natAbs) (hx : x.natAbs < pw 30) (hy : y.natAbs < pw 30) :
    Calls Try.prog 41 #[.agg #[.slice A1 n1 c1, .bool (decide (x < 0))], .agg #[.slice A2 n2 c2, .bool (decide (y < 0))]] w (NumRes w (x + y)) := by
  by_cases hs : decide (x < 0) = decide (y < 0)
  · refine (plus02_sum A1 A2 n1 n2 c1 c2 _ _ _ _ w h1 h2 hx hy hs).mono fun e w' h => num_of h ?_ fun _ => ?_
    · have := decide_eq_decide.1 hs; omega
    · have := decide_eq_decide.1 hs
      rw [decide_eq_decide]; omega
  · have hd : (decide (x < 0) == decide (y < 0)) = false := by simpa using hs
    have hne : ¬ (x < 0 ↔ y < 0) := fun k => hs (decide_eq_decide.2 k)
    by_cases hc : y.natAbs ≤ x.natAbs
    · refine (plus02_less1 A1 A2 n1 n2 c1 c2 _ _ _ _ w h1 h2 hx hy hd hc).mono fun e w' h => num_of h ?_ fun hz => sgb_is hz (fun k => ?_) (fun k => ?_)
      · omega
      · rw [decide_eq_false_iff_not]; omega
      · rw [decide_eq_decide]; omega
    · refine (plus02_less2 A1 A2 n1 n2 c1 c2 _ _ _ _ w h1 h2 hx hy hd (by omega)).mono fun e w' h => num_of h ?_ fun hz => sgb_is hz (fun k => ?_) (fun k => ?_)
      · omega
      · omega
      · rw [decide_eq_decide]; omega
theorem minus02_num (A : Option Addr) (n c : Nat) (x : Int) (w : World) (h : Dig w A n c x.natAbs) :
    Calls Try.prog 42 #[.agg #[.slice A n c, .bool (decide (x < 0))]] w fun e w' => e = .returned (.agg #[.slice A n c, .bool (decide (-x < 0))]) ∧ Below w.heap.size w w' := by
  rw [← sgb_is (b := !decide (x < 0)) (s := decide (-x < 0)) h (fun k => by rw [decide_eq_false_iff_not]; omega) (fun k => by rw [← decide_not, decide_eq_decide]; omega)]
  exact minus02_any A n c _ w

set_option maxRecDepth 100000 in
set_option maxHeartbeats 4000000 in
theorem mul02_any (A1 A2 : Option Addr) (n1 n2 c1 c2 x y : Nat) (b1 b2 : Bool) (w : World) (h1 : Dig w A1 n1 c1 x) (h2 : Dig w A2 n2 c2 y) (q1 : n1 ≤ 40) (q2 : n2 ≤ 40) :
    Calls Try.prog 40 #[.agg #[.slice A1 n1 c1, .bool b1], .agg #[.slice A2 n2 c2, .bool b2]] w (SgRes w (x * y) fun n => sgb n (!(b1 == b2))) := by
  go_enter Try.func40, Try.ntmps40
  go_wp2
  (refine name_below ?_; intro w' hb; (try replace hb := below_undrew hb); (try replace hb := below_undrewN hb); obtain ⟨hcell, hfroz⟩ := bcell hb; have hz := hb.size; (try simp at hz); (try (have z6 := Nat.lt_of_lt_of_le z7 hz)); (try (have z7 := Nat.lt_of_lt_of_le z8 hz)); (try (have z8 := Nat.lt_of_lt_of_le z9 hz)); (try (have z9 := Nat.lt_of_lt_of_le (Nat.lt_succ_self _) hz)); (try (have z0 : w.heap.size < w'.heap.size := by omega)); (try (have z1 : w.heap.size + 1 < w'.heap.size := by omega)); (try (have z2 : w.heap.size + 1 + 1 < w'.heap.size := by omega)); (try (have z3 : w.heap.size + 1 + 1 + 1 < w'.heap.size := by omega)); (try (have y1 : w1.heap.size < w'.heap.size := by omega)); (try (have y2 : w2.heap.size < w'.heap.size := by omega)); (try (have y3 : w3.heap.size < w'.heap.size := by omega)); (try (have y4 : w4.heap.size < w'.heap.size := by omega)); (try (have y5 : w5.heap.size < w'.heap.size := by omega)); (try (have y6 : w6.heap.size < w'.heap.size := by omega)); (try (have x1 : w1.heap.size + 1 < w'.heap.size := by omega)); (try (have x2 : w2.heap.size + 1 < w'.heap.size := by omega)); (try (have x3 : w3.heap.size + 1 < w'.heap.size := by omega)); (try (have x4 : w4.heap.size + 1 < w'.heap.size := by omega)); (try (have x5 : w5.heap.size + 1 < w'.heap.size := by omega)); (try (have x6 : w6.heap.size + 1 < w'.heap.size := by omega)); (try (have y7 : w7.heap.size < w'.heap.size := by omega)); (try (have y8 : w8.heap.size < w'.heap.size := by omega)); (try (have y9 : w9.heap.size < w'.heap.size := by omega)); (try (have z10 : w1.heap.size < w'.heap.size + 1 := by omega)); (try (have z20 : w2.heap.size < w'.heap.size + 1 := by omega)); (try (have z30 : w3.heap.size < w'.heap.size + 1 := by omega)); (try (have z40 : w4.heap.size < w'.heap.size + 1 := by omega)); (try (have z50 : w5.heap.size < w'.heap.size + 1 := by omega)); (try (have z60 : w6.heap.size < w'.heap.size + 1 := by omega)); (try (have z70 : w7.heap.size < w'.heap.size + 1 := by omega)); (try (have z80 : w8.heap.size < w'.heap.size + 1 := by omega)))
  have hw6 : Below w.heap.size w w' := by (repeat (first | (with_reducible exact Below.refl _ _) | (with_reducible refine Below.setCell ?_ (by (first | (simp; done) | (simp; omega) | omega)) _) | (with_reducible refine bl_alloc ?_ _) | (with_reducible refine bl_drewN ?_) | (with_reducible refine bl_drew ?_) | (with_reducible refine bl_step (by assumption) ?_)))
  have c0 : w'.cell? ⟨w.heap.size, 0, none⟩ = some (.slice A1 n1 c1) := by simp [go_sem, *]
  have c1x : w'.cell? ⟨w.heap.size, 1, none⟩ = some (.bool b1) := by simp [go_sem, *]
  have d0 : w'.cell? ⟨w.heap.size + 1, 0, none⟩ = some (.slice A2 n2 c2) := by simp [go_sem, *]
  have d1 : w'.cell? ⟨w.heap.size + 1, 1, none⟩ = some (.bool b2) := by simp [go_sem, *]
  have r0 : w'.cell? ⟨w.heap.size + 1 + 1, 0, none⟩ = some (.slice none 0 0) := by simp [go_sem, *]
  have r1 : w'.cell? ⟨w.heap.size + 1 + 1, 1, none⟩ = some (.bool false) := by simp [go_sem, *]
  have cf : ∀ o, w'.frozen? ⟨w.heap.size + 1 + 1, o, none⟩ = false := by intro o; simp [go_sem, *]
  clear hcell hfroz hz
  have hw0 := hw6
  obtain ⟨w7, rfl⟩ : ∃ v, v = w' := ⟨_, rfl⟩
  replace h1 := h1.below hw6
  replace h2 := h2.below hw6
  have hb3 : w.heap.size + 1 + 1 < w7.heap.size := World.block_lt_of_cell? _ _ r0
  refine wp_region_inv (fun a0 LL aa vv => ∃ (l0 l1 l2 l3 l4 l5 l6 l7 l8 l9 l10 l11 l12 : Bool) (uu : World) (EA : Option Addr) (En : Nat) (Ec : Nat), LL = #[l0, l1, l2, l3, l4, l5, l6, l7, l8, l9, l10, l11, l12] ∧ aa = { a0 with tmps := ((((((((((((a0.tmps.setIfInBounds 5 (cond l0 (.pointer (some ⟨w.heap.size, 0, none⟩)) (undef))).setIfInBounds 6 (cond l1 (.slice A1 n1 c1) (undef))).setIfInBounds 7 (cond l2 (.pointer (some ⟨w.heap.size + 1, 0, none⟩)) (undef))).setIfInBounds 8 (cond l3 (.slice A2 n2 c2) (undef))).setIfInBounds 9 (cond l4 (.slice EA En Ec) (undef))).setIfInBounds 10 (cond l5 (.pointer (some ⟨w.heap.size, 1, none⟩)) (undef))).setIfInBounds 11 (cond l6 (.bool b1) (undef))).setIfInBounds 12 (cond l7 (.pointer (some ⟨w.heap.size + 1, 1, none⟩)) (undef))).setIfInBounds 13 (cond l8 (.bool b2) (undef))).setIfInBounds 14 (cond l9 (.bool (!(b1 == b2))) (undef))).setIfInBounds 15 (cond l10 (.agg #[.slice EA En Ec, .bool (!(b1 == b2))]) (undef))).setIfInBounds 16 (cond l11 (.agg #[.slice EA En Ec, .bool (sgb En (!(b1 == b2)))]) (undef))) } ∧ (l12 = true → l0 = true ∧ l1 = true ∧ l2 = true ∧ l3 = true ∧ l4 = true ∧ l5 = true ∧ l6 = true ∧ l7 = true ∧ l8 = true ∧ l9 = true ∧ l10 = true ∧ l11 = true) ∧ Below w7.heap.size w7 uu ∧ (l10 = true → l4 = true) ∧ (l11 = true → l4 = true) ∧ (l4 = true → Dig uu EA En Ec (x * y) ∧ Fr w7.heap.size EA) ∧ vv = cond l12 ((uu.setCell ⟨w.heap.size + 1 + 1, 0, none⟩ (.slice EA En Ec)).setCell ⟨w.heap.size + 1 + 1, 1, none⟩ (.bool (sgb En (!(b1 == b2))))) uu) (by kernel_rfl) (by kernel_rfl) ?h0 ?hsize ?hdone ?hstep
  case h0 =>
    refine ⟨false, false, false, false, false, false, false, false, false, false, false, false, false, _, none, 0, 0, rfl, ?_, (fun h => by cases h), by (repeat (first | exact Below.refl _ _ | refine bl_drewN ?_ | refine bl_drew ?_ | refine bl_alloc ?_ _ | refine Below.setCell ?_ (by (first | (simp; done) | (simp; omega) | omega)) _ | refine bl_step (by assumption) ?_)), (fun h => by cases h), (fun h => by cases h), (fun h => by cases h), rfl⟩
    simp only [cond_false, List.setIfInBounds_toArray, List.set_cons_zero, List.set_cons_succ]
  case hsize =>
    intro LL aa vv h
    obtain ⟨l0, l1, l2, l3, l4, l5, l6, l7, l8, l9, l10, l11, l12, uu, EA, En, Ec, hL, _⟩ := h
    rw [hL]
    rfl
  case hstep =>
    intro LL aa vv h
    obtain ⟨l0, l1, l2, l3, l4, l5, l6, l7, l8, l9, l10, l11, l12, uu, EA, En, Ec, hL, ha, hall, hu, ho4_10, ho4_11, hx4, hv⟩ := h
    simp only [List.setIfInBounds_toArray, List.set_cons_zero, List.set_cons_succ] at ha
    subst hL
    subst ha
    refine ⟨?s0, ?s1, ?s2, ?s3, ?s4, ?s5, ?s6, ?s7, ?s8, ?s9, ?s10, ?s11, ?s12, trivial⟩
    case s0 =>
      intro ff gg KK hK
      have f0 : l0 = false := ff
      cases hl : l12
      case true =>
        have := (hall hl).1
        rw [f0] at this
        cases this
      rw [hl] at hv
      simp only [cond_false] at hv
      subst hv
      clear ff gg
      subst hl
      subst f0
      simp only [cond_false]
      go_simp
      exact hK _ _ ⟨true, l1, l2, l3, l4, l5, l6, l7, l8, l9, l10, l11, false, _, EA, En, Ec, rfl, (by simp only [cond_true, List.setIfInBounds_toArray, List.set_cons_zero, List.set_cons_succ]), (fun h => by cases h), hu, ho4_10, ho4_11, hx4, rfl⟩
    case s1 =>
      intro ff gg KK hK
      have f0 : l1 = false := ff
      cases hl : l12
      case true =>
        have := (hall hl).2.1
        rw [f0] at this
        cases this
      rw [hl] at hv
      simp only [cond_false] at hv
      subst hv
      have t0 : l0 = true := gg ⟨0, .data⟩ (by simp) (by rfl)
      clear ff gg
      subst t0
      subst hl
      subst f0
      simp only [cond_true, cond_false]
      have k0 := cell_later hu c0
      go_simp
      exact hK _ _ ⟨true, true, l2, l3, l4, l5, l6, l7, l8, l9, l10, l11, false, _, EA, En, Ec, rfl, (by simp only [cond_true, List.setIfInBounds_toArray, List.set_cons_zero, List.set_cons_succ]), (fun h => by cases h), hu, ho4_10, ho4_11, hx4, rfl⟩
    case s2 =>
      intro ff gg KK hK
      have f0 : l2 = false := ff
      cases hl : l12
      case true =>
        have := (hall hl).2.2.1
        rw [f0] at this
        cases this
      rw [hl] at hv
      simp only [cond_false] at hv
      subst hv
      clear ff gg
      subst hl
      subst f0
      simp only [cond_false]
      go_simp
      exact hK _ _ ⟨l0, l1, true, l3, l4, l5, l6, l7, l8, l9, l10, l11, false, _, EA, En, Ec, rfl, (by simp only [cond_true, List.setIfInBounds_toArray, List.set_cons_zero, List.set_cons_succ]), (fun h => by cases h), hu, ho4_10, ho4_11, hx4, rfl⟩
    case s3 =>
      intro ff gg KK hK
      have f0 : l3 = false := ff
      cases hl : l12
      case true =>
        have := (hall hl).2.2.2.1
        rw [f0] at this
        cases this
      rw [hl] at hv
      simp only [cond_false] at hv
      subst hv
      have t2 : l2 = true := gg ⟨2, .data⟩ (by simp) (by rfl)
      clear ff gg
      subst t2
      subst hl
      subst f0
      simp only [cond_true, cond_false]
      have k0 := cell_later hu d0
      go_simp
      exact hK _ _ ⟨l0, l1, true, true, l4, l5, l6, l7, l8, l9, l10, l11, false, _, EA, En, Ec, rfl, (by simp only [cond_true, List.setIfInBounds_toArray, List.set_cons_zero, List.set_cons_succ]), (fun h => by cases h), hu, ho4_10, ho4_11, hx4, rfl⟩
    case s4 =>
      intro ff gg KK hK
      have f0 : l4 = false := ff
      cases hl : l12
      case true =>
        have := (hall hl).2.2.2.2.1
        rw [f0] at this
        cases this
      rw [hl] at hv
      simp only [cond_false] at hv
      subst hv
      have t1 : l1 = true := gg ⟨1, .data⟩ (by simp) (by rfl)
      have t3 : l3 = true := gg ⟨3, .data⟩ (by simp) (by rfl)
      clear ff gg
      subst t1 t3
      subst hl
      subst f0
      have fq10 : l10 = false := by cases hq : l10; rfl; exact absurd (ho4_10 hq) (by simp)
      subst fq10
      have fq11 : l11 = false := by cases hq : l11; rfl; exact absurd (ho4_11 hq) (by simp)
      subst fq11
      simp only [cond_true, cond_false]
      go_simp
      go_at_call 57
      with_reducible refine (times02_any _ _ _ _ _ _ _ _ _ (h1.below hu) (h2.below hu) q1 q2).mono ?_
      rintro e w' ⟨A', n', c', rfl, hd, hfr, hb⟩
      exact hK _ _ ⟨l0, true, l2, true, true, l5, l6, l7, l8, l9, false, false, false, _, A', n', c', rfl, (by simp only [cond_true, cond_false, List.setIfInBounds_toArray, List.set_cons_zero, List.set_cons_succ]), (fun h => by cases h), bl_step hb hu, (fun _ => rfl), (fun _ => rfl), (fun _ => ⟨hd, hfr.le hu.size⟩), rfl⟩
    case s5 =>
      intro ff gg KK hK
      have f0 : l5 = false := ff
      cases hl : l12
      case true =>
        have := (hall hl).2.2.2.2.2.1
        rw [f0] at this
        cases this
      rw [hl] at hv
      simp only [cond_false] at hv
      subst hv
      clear ff gg
      subst hl
      subst f0
      simp only [cond_false]
      go_simp
      exact hK _ _ ⟨l0, l1, l2, l3, l4, true, l6, l7, l8, l9, l10, l11, false, _, EA, En, Ec, rfl, (by simp only [cond_true, List.setIfInBounds_toArray, List.set_cons_zero, List.set_cons_succ]), (fun h => by cases h), hu, ho4_10, ho4_11, hx4, rfl⟩
    case s6 =>
      intro ff gg KK hK
      have f0 : l6 = false := ff
      cases hl : l12
      case true =>
        have := (hall hl).2.2.2.2.2.2.1
        rw [f0] at this
        cases this
      rw [hl] at hv
      simp only [cond_false] at hv
      subst hv
      have t5 : l5 = true := gg ⟨5, .data⟩ (by simp) (by rfl)
      clear ff gg
      subst t5
      subst hl
      subst f0
      simp only [cond_true, cond_false]
      have k0 := cell_later hu c1x
      go_simp
      exact hK _ _ ⟨l0, l1, l2, l3, l4, true, true, l7, l8, l9, l10, l11, false, _, EA, En, Ec, rfl, (by simp only [cond_true, List.setIfInBounds_toArray, List.set_cons_zero, List.set_cons_succ]), (fun h => by cases h), hu, ho4_10, ho4_11, hx4, rfl⟩
    case s7 =>
      intro ff gg KK hK
      have f0 : l7 = false := ff
      cases hl : l12
      case true =>
        have := (hall hl).2.2.2.2.2.2.2.1
        rw [f0] at this
        cases this
      rw [hl] at hv
      simp only [cond_false] at hv
      subst hv
      clear ff gg
      subst hl
      subst f0
      simp only [cond_false]
      go_simp
      exact hK _ _ ⟨l0, l1, l2, l3, l4, l5, l6, true, l8, l9, l10, l11, false, _, EA, En, Ec, rfl, (by simp only [cond_true, List.setIfInBounds_toArray, List.set_cons_zero, List.set_cons_succ]), (fun h => by cases h), hu, ho4_10, ho4_11, hx4, rfl⟩
    case s8 =>
      intro ff gg KK hK
      have f0 : l8 = false := ff
      cases hl : l12
      case true =>
        have := (hall hl).2.2.2.2.2.2.2.2.1
        rw [f0] at this
        cases this
      rw [hl] at hv
      simp only [cond_false] at hv
      subst hv
      have t7 : l7 = true := gg ⟨7, .data⟩ (by simp) (by rfl)
      clear ff gg
      subst t7
      subst hl
      subst f0
      simp only [cond_true, cond_false]
      have k0 := cell_later hu d1
      go_simp
      exact hK _ _ ⟨l0, l1, l2, l3, l4, l5, l6, true, true, l9, l10, l11, false, _, EA, En, Ec, rfl, (by simp only [cond_true, List.setIfInBounds_toArray, List.set_cons_zero, List.set_cons_succ]), (fun h => by cases h), hu, ho4_10, ho4_11, hx4, rfl⟩
    case s9 =>
      intro ff gg KK hK
      have f0 : l9 = false := ff
      cases hl : l12
      case true =>
        have := (hall hl).2.2.2.2.2.2.2.2.2.1
        rw [f0] at this
        cases this
      rw [hl] at hv
      simp only [cond_false] at hv
      subst hv
      have t6 : l6 = true := gg ⟨6, .data⟩ (by simp) (by rfl)
      have t8 : l8 = true := gg ⟨8, .data⟩ (by simp) (by rfl)
      clear ff gg
      subst t6 t8
      subst hl
      subst f0
      simp only [cond_true, cond_false]
      go_simp
      exact hK _ _ ⟨l0, l1, l2, l3, l4, l5, true, l7, true, true, l10, l11, false, _, EA, En, Ec, rfl, (by simp only [cond_true, List.setIfInBounds_toArray, List.set_cons_zero, List.set_cons_succ]), (fun h => by cases h), hu, ho4_10, ho4_11, hx4, rfl⟩
    case s10 =>
      intro ff gg KK hK
      have f0 : l10 = false := ff
      cases hl : l12
      case true =>
        have := (hall hl).2.2.2.2.2.2.2.2.2.2.1
        rw [f0] at this
        cases this
      rw [hl] at hv
      simp only [cond_false] at hv
      subst hv
      have t4 : l4 = true := gg ⟨4, .data⟩ (by simp) (by rfl)
      have t9 : l9 = true := gg ⟨9, .data⟩ (by simp) (by rfl)
      clear ff gg
      subst t4 t9
      subst hl
      subst f0
      simp only [cond_true, cond_false]
      go_simp
      exact hK _ _ ⟨l0, l1, l2, l3, true, l5, l6, l7, l8, true, true, l11, false, _, EA, En, Ec, rfl, (by simp only [cond_true, List.setIfInBounds_toArray, List.set_cons_zero, List.set_cons_succ]), (fun h => by cases h), hu, (fun _ => rfl), (fun _ => rfl), hx4, rfl⟩
    case s11 =>
      intro ff gg KK hK
      have f0 : l11 = false := ff
      cases hl : l12
      case true =>
        have := (hall hl).2.2.2.2.2.2.2.2.2.2.2
        rw [f0] at this
        cases this
      rw [hl] at hv
      simp only [cond_false] at hv
      subst hv
      have t10 : l10 = true := gg ⟨10, .data⟩ (by simp) (by rfl)
      clear ff gg
      subst t10
      subst hl
      subst f0
      have te4 : l4 = true := ho4_10 rfl
      subst te4
      simp only [cond_true, cond_false]
      go_simp
      go_at_call 56
      with_reducible refine (sign02_any _ _ _ _ _).mono ?_
      rintro e w' ⟨rfl, hb⟩
      exact hK _ _ ⟨l0, l1, l2, l3, true, l5, l6, l7, l8, l9, true, true, false, _, EA, En, Ec, rfl, (by simp only [cond_true, List.setIfInBounds_toArray, List.set_cons_zero, List.set_cons_succ]), (fun h => by cases h), bl_step hb hu, (fun _ => rfl), (fun _ => rfl), (fun t => ⟨(hx4 t).1.below hb, (hx4 t).2⟩), rfl⟩
    case s12 =>
      intro ff gg KK hK
      have t11 : l11 = true := gg ⟨11, .data⟩ (by simp) (by rfl)
      have t0 : l0 = true := gg ⟨0, .phase⟩ (by simp) (by rfl)
      have t1 : l1 = true := gg ⟨1, .phase⟩ (by simp) (by rfl)
      have t2 : l2 = true := gg ⟨2, .phase⟩ (by simp) (by rfl)
      have t3 : l3 = true := gg ⟨3, .phase⟩ (by simp) (by rfl)
      have t4 : l4 = true := gg ⟨4, .phase⟩ (by simp) (by rfl)
      have t5 : l5 = true := gg ⟨5, .phase⟩ (by simp) (by rfl)
      have t6 : l6 = true := gg ⟨6, .phase⟩ (by simp) (by rfl)
      have t7 : l7 = true := gg ⟨7, .phase⟩ (by simp) (by rfl)
      have t8 : l8 = true := gg ⟨8, .phase⟩ (by simp) (by rfl)
      have t9 : l9 = true := gg ⟨9, .phase⟩ (by simp) (by rfl)
      have t10 : l10 = true := gg ⟨10, .phase⟩ (by simp) (by rfl)
      have f0 : l12 = false := ff
      clear ff gg
      subst t11 t0 t1 t2 t3 t4 t5 t6 t7 t8 t9 t10
      subst f0
      simp only [cond_false] at hv
      subst hv
      simp only [cond_true]
      have k0 := cell_later hu r0
      have k1 := cell_later hu r1
      have k2 : vv.frozen? ⟨w.heap.size + 1 + 1, 0, none⟩ = false := (hu.frozen (p := ⟨w.heap.size + 1 + 1, 0, none⟩) hb3).trans (cf 0)
      have k3 : vv.frozen? ⟨w.heap.size + 1 + 1, 1, none⟩ = false := (hu.frozen (p := ⟨w.heap.size + 1 + 1, 1, none⟩) hb3).trans (cf 1)
      go_simp
      exact hK _ _ ⟨true, true, true, true, true, true, true, true, true, true, true, true, true, _, EA, En, Ec, rfl, (by simp only [cond_true, List.setIfInBounds_toArray, List.set_cons_zero, List.set_cons_succ]), (fun _ => ⟨rfl, rfl, rfl, rfl, rfl, rfl, rfl, rfl, rfl, rfl, rfl, rfl⟩), hu, (fun _ => rfl), (fun _ => rfl), hx4, rfl⟩
  case hdone =>
    intro LL aa vv h hd
    obtain ⟨l0, l1, l2, l3, l4, l5, l6, l7, l8, l9, l10, l11, l12, uu, EA, En, Ec, hL, ha, hall, hu, ho4_10, ho4_11, hx4, hv⟩ := h
    rw [hL] at hd
    have t0 : l0 = true := hd 0 (by decide)
    have t1 : l1 = true := hd 1 (by decide)
    have t2 : l2 = true := hd 2 (by decide)
    have t3 : l3 = true := hd 3 (by decide)
    have t4 : l4 = true := hd 4 (by decide)
    have t5 : l5 = true := hd 5 (by decide)
    have t6 : l6 = true := hd 6 (by decide)
    have t7 : l7 = true := hd 7 (by decide)
    have t8 : l8 = true := hd 8 (by decide)
    have t9 : l9 = true := hd 9 (by decide)
    have t10 : l10 = true := hd 10 (by decide)
    have t11 : l11 = true := hd 11 (by decide)
    have t12 : l12 = true := hd 12 (by decide)
    clear hd hL hall
    subst t0 t1 t2 t3 t4 t5 t6 t7 t8 t9 t10 t11 t12
    simp only [cond_true, List.setIfInBounds_toArray, List.set_cons_zero, List.set_cons_succ] at ha hv
    subst ha
    subst hv
    replace hx4 := hx4 rfl
    replace r0 := cell_later hu r0
    replace r1 := cell_later hu r1
    replace hw6 : Below w.heap.size w uu := bl_step hu hw6
    obtain ⟨ed, ef⟩ := hx4
    have en : ∀ a, EA = some a → a.block ≠ w.heap.size + 1 + 1 := fun a e => by have := ef a e; omega
    go_wp2
    exact bodyPost_ret (v := .agg #[.slice EA En Ec, .bool (sgb En (!(b1 == b2)))]) (by first | (simp only [results, Try.results40]; go_simp; done) | simp [results, Try.results40, go_sem, *]) rfl ⟨EA, En, Ec, rfl, (ed.store ⟨w.heap.size + 1 + 1, 0, none⟩ _ en).store ⟨w.heap.size + 1 + 1, 1, none⟩ _ en, ef.le hw0.size, by (repeat (first | (with_reducible exact Below.refl _ _) | (with_reducible refine Below.setCell ?_ (by (first | (simp; done) | (simp; omega) | omega)) _) | (with_reducible refine bl_alloc ?_ _) | (with_reducible refine bl_drewN ?_) | (with_reducible refine bl_drew ?_) | (with_reducible refine bl_step (by assumption) ?_)))⟩

theorem mul02_num (A1 A2 : Option Addr) (n1 n2 c1 c2 : Nat) (x y : Int) (w : World) (h1 : Dig w A1 n1 c1 x.natAbs) (h2 : Dig w A2 n2 c2 y.natAbs) (hx : x.natAbs < pw 30) (hy : y.natAbs < pw 30) :
    Calls Try.prog 40 #[.agg #[.slice A1 n1 c1, .bool (decide (x < 0))], .agg #[.slice A2 n2 c2, .bool (decide (y < 0))]] w (NumRes w (x * y)) := by
  have l1 := h1.few hx
  have l2 := h2.few hy
  refine (mul02_any A1 A2 n1 n2 c1 c2 _ _ _ _ w h1 h2 (by omega) (by omega)).mono fun e w' h => num_of h (Int.natAbs_mul x y).symm fun hz => sgb_is hz (fun k => ?_) (fun k => ?_)
  · rw [← Int.natAbs_mul] at k
    rw [Int.natAbs_eq_zero.1 k]; rfl
  · have x0 : x ≠ 0 := fun e => k (by rw [e]; simp)
    have y0 : y ≠ 0 := fun e => k (by rw [e]; simp)
    rcases Int.lt_or_gt_of_ne x0 with h3 | h3 <;> rcases Int.lt_or_gt_of_ne y0 with h4 | h4
    · have := Int.mul_pos_of_neg_of_neg h3 h4; simp [h3, h4]; omega
    · have := Int.mul_neg_of_neg_of_pos h3 h4; have h5 : ¬ y < 0 := by omega
      simp [h3, h5, this]
    · have := Int.mul_neg_of_pos_of_neg h3 h4; have h5 : ¬ x < 0 := by omega
      simp [h4, h5, this]
    · have := Int.mul_pos h3 h4; have h5 : ¬ y < 0 := by omega
      have h6 : ¬ x < 0 := by omega
      simp [h5, h6]; omega

end Go.Proofs.Ytoagcbamlnhkhaa
