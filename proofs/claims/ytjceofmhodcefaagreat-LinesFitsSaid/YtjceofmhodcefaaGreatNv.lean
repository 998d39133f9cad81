/- Several small texts in one: XNg, XNh, XNi. -/
import Derived.Test.YtjceofmhodcefaaGreatNu
import Derived.Test.YtjceofmhodcefaaGreatInv
import Derived.OwnWalk
namespace Go.Proofs.YtjceofmhodcefaaGreat
open Go.RowKit

theorem sign02_zero (A : Option Addr) (n c : Nat) (b : Bool) (w : World) (hn : n = 0) :
    Calls Tryz.prog 78 #[.agg #[.slice A n c, .bool b]] w fun e w' => e = .returned (.agg #[.slice A n c, .bool false]) ∧ Below w.heap.size w w' := by
  subst hn
  go_enter Tryz.func78, Tryz.ntmps78
  go_wp2
  exact bodyPost_ret (v := .agg #[.slice A 0 c, .bool false]) (by first | (simp only [results, Tryz.results78]; go_simp; done) | simp [results, Tryz.results78, go_sem, *]) rfl ⟨rfl, by (repeat (first | (with_reducible exact Below.refl _ _) | (with_reducible refine Below.setCell ?_ (by (first | (simp; done) | (simp; omega) | omega)) _) | (with_reducible refine bl_alloc ?_ _) | (with_reducible refine bl_drewN ?_) | (with_reducible refine bl_drew ?_) | (with_reducible refine bl_step (by assumption) ?_)))⟩
theorem sign02_pos (A : Option Addr) (n c : Nat) (b : Bool) (w : World) (hn : 0 < n) :
    Calls Tryz.prog 78 #[.agg #[.slice A n c, .bool b]] w fun e w' => e = .returned (.agg #[.slice A n c, .bool b]) ∧ Below w.heap.size w w' := by
  have h1 : ((n : Int) == 0) = false := by simp; omega
  go_enter Tryz.func78, Tryz.ntmps78
  go_wp2
  exact bodyPost_ret (v := .agg #[.slice A n c, .bool b]) (by first | (simp only [results, Tryz.results78]; go_simp; done) | simp [results, Tryz.results78, go_sem, *]) rfl ⟨rfl, by (repeat (first | (with_reducible exact Below.refl _ _) | (with_reducible refine Below.setCell ?_ (by (first | (simp; done) | (simp; omega) | omega)) _) | (with_reducible refine bl_alloc ?_ _) | (with_reducible refine bl_drewN ?_) | (with_reducible refine bl_drew ?_) | (with_reducible refine bl_step (by assumption) ?_)))⟩
/-- a call that returns a number with a sign -/
def SgRes (w : World) (z : Nat) (f : Nat → Bool) (e : Ending) (w' : World) : Prop := ∃ A n c, e = .returned (.agg #[.slice A n c, .bool (f n)]) ∧ Dig w' A n c z ∧ Fr w.heap.size A ∧ Below w.heap.size w w'
/-- the sign of a number that has n digits -/
def sgb (n : Nat) (b : Bool) : Bool := if n = 0 then false else b
theorem sign02_any (A : Option Addr) (n c : Nat) (b : Bool) (w : World) :
    Calls Tryz.prog 78 #[.agg #[.slice A n c, .bool b]] w fun e w' => e = .returned (.agg #[.slice A n c, .bool (sgb n b)]) ∧ Below w.heap.size w w' := by
  unfold sgb
  by_cases h : n = 0
  · rw [if_pos h]; exact sign02_zero A n c b w h
  · rw [if_neg h]; exact sign02_pos A n c b w (by omega)
theorem minus02_any (A : Option Addr) (n c : Nat) (b : Bool) (w : World) :
    Calls Tryz.prog 54 #[.agg #[.slice A n c, .bool b]] w fun e w' => e = .returned (.agg #[.slice A n c, .bool (sgb n (!b))]) ∧ Below w.heap.size w w' := by
  have S := hidden fun w => sign02_any A n c (!b) w
  go_enter Tryz.func54, Tryz.ntmps54
  go_wp2_with (go_at_call 78; ((with_reducible refine (S.out _).mono ?_); rintro e w' ⟨rfl, hb⟩); (try replace hb := below_undrew hb); (try replace hb := below_undrewN hb); obtain ⟨hcell, hfroz⟩ := bcell hb; have hz := hb.size; (try simp at hz); (try (have z6 := Nat.lt_of_lt_of_le z7 hz)); (try (have z7 := Nat.lt_of_lt_of_le z8 hz)); (try (have z8 := Nat.lt_of_lt_of_le z9 hz)); (try (have z9 := Nat.lt_of_lt_of_le (Nat.lt_succ_self _) hz)); (try (have z0 : w.heap.size < w'.heap.size := by omega)); (try (have z1 : w.heap.size + 1 < w'.heap.size := by omega)); (try (have z2 : w.heap.size + 1 + 1 < w'.heap.size := by omega)); (try (have z3 : w.heap.size + 1 + 1 + 1 < w'.heap.size := by omega)))
  exact bodyPost_ret (v := .agg #[.slice A n c, .bool (sgb n (!b))]) (by first | (simp only [results, Tryz.results54]; go_simp; done) | simp [results, Tryz.results54, go_sem, *]) rfl ⟨rfl, by (repeat (first | (with_reducible exact Below.refl _ _) | (with_reducible refine Below.setCell ?_ (by (first | (simp; done) | (simp; omega) | omega)) _) | (with_reducible refine bl_alloc ?_ _) | (with_reducible refine bl_drewN ?_) | (with_reducible refine bl_drew ?_) | (with_reducible refine bl_step (by assumption) ?_)))⟩

theorem less02_any (A1 A2 : Option Addr) (n1 n2 c1 c2 x y : Nat) (w : World) (h1 : Dig w A1 n1 c1 x) (h2 : Dig w A2 n2 c2 y) (hc : y ≤ x) (l1 : n1 ≤ 100) :
    Calls Tryz.prog 79 #[.slice A1 n1 c1, .slice A2 n2 c2] w (DigRes w (x - y)) := by
  obtain ⟨z, rfl⟩ : ∃ z, x = y + z := ⟨x - y, by omega⟩
  rw [show y + z - y = z by omega]
  exact less02_add A1 A2 n1 n2 c1 c2 y z w h1 h2 l1
set_option maxRecDepth 100000 in
set_option maxHeartbeats 4000000 in
theorem plus02_sum (A1 A2 : Option Addr) (n1 n2 c1 c2 x y : Nat) (b1 b2 : Bool) (w : World) (h1 : Dig w A1 n1 c1 x) (h2 : Dig w A2 n2 c2 y) (hx : x < pw 30) (hy : y < pw 30) (hb : b1 = b2) :
    Calls Tryz.prog 51 #[.agg #[.slice A1 n1 c1, .bool b1], .agg #[.slice A2 n2 c2, .bool b2]] w (SgRes w (x + y) fun _n => b1) := by
  subst hb
  have HX := hidden hx
  have HY := hidden hy
  clear hx hy
  go_enter Tryz.func51, Tryz.ntmps51
  go_wp2
  (refine name_below ?_; intro w' hb; (try replace hb := below_undrew hb); (try replace hb := below_undrewN hb); obtain ⟨hcell, hfroz⟩ := bcell hb; have hz := hb.size; (try simp at hz); (try (have z6 := Nat.lt_of_lt_of_le z7 hz)); (try (have z7 := Nat.lt_of_lt_of_le z8 hz)); (try (have z8 := Nat.lt_of_lt_of_le z9 hz)); (try (have z9 := Nat.lt_of_lt_of_le (Nat.lt_succ_self _) hz)); (try (have z0 : w.heap.size < w'.heap.size := by omega)); (try (have z1 : w.heap.size + 1 < w'.heap.size := by omega)); (try (have z2 : w.heap.size + 1 + 1 < w'.heap.size := by omega)); (try (have z3 : w.heap.size + 1 + 1 + 1 < w'.heap.size := by omega)); (try (have y7 : w7.heap.size < w'.heap.size := by omega)); (try (have z70 : w7.heap.size < w'.heap.size + 1 := by omega)))
  have hw6 : Below w.heap.size w w' := by (repeat (first | (with_reducible exact Below.refl _ _) | (with_reducible refine Below.setCell ?_ (by (first | (simp; done) | (simp; omega) | omega)) _) | (with_reducible refine bl_alloc ?_ _) | (with_reducible refine bl_drewN ?_) | (with_reducible refine bl_drew ?_) | (with_reducible refine bl_step (by assumption) ?_)))
  have c0 : w'.cell? ⟨w.heap.size, 0, none⟩ = some (.slice A1 n1 c1) := by simp [go_sem, *]
  have c1x : w'.cell? ⟨w.heap.size, 1, none⟩ = some (.bool b1) := by simp [go_sem, *]
  have d0 : w'.cell? ⟨w.heap.size + 1, 0, none⟩ = some (.slice A2 n2 c2) := by simp [go_sem, *]
  have d1 : w'.cell? ⟨w.heap.size + 1, 1, none⟩ = some (.bool b1) := by simp [go_sem, *]
  have r0 : w'.cell? ⟨w.heap.size + 1 + 1, 0, none⟩ = some (.slice none 0 0) := by simp [go_sem, *]
  have r1 : w'.cell? ⟨w.heap.size + 1 + 1, 1, none⟩ = some (.bool false) := by simp [go_sem, *]
  have cf : ∀ o, w'.frozen? ⟨w.heap.size + 1 + 1, o, none⟩ = false := by intro o; simp [go_sem, *]
  clear hcell hfroz hz
  have hw0 := hw6
  obtain ⟨w7, rfl⟩ : ∃ v, v = w' := ⟨_, rfl⟩
  replace h1 := h1.below hw6
  replace h2 := h2.below hw6
  have hb3 : w.heap.size + 1 + 1 < w7.heap.size := World.block_lt_of_cell? _ _ r0
  refine wp_region_inv (fun a0 LL aa vv => ∃ (l0 l1 l2 l3 l4 l5 l6 l7 l8 : Bool) (uu : World) (EA : Option Addr) (En : Nat) (Ec : Nat), LL = #[l0, l1, l2, l3, l4, l5, l6, l7, l8] ∧ aa = { a0 with tmps := ((((((((a0.tmps.setIfInBounds 10 (cond l0 (.pointer (some ⟨w.heap.size, 0, none⟩)) (undef))).setIfInBounds 11 (cond l1 (.slice A1 n1 c1) (undef))).setIfInBounds 12 (cond l2 (.pointer (some ⟨w.heap.size + 1, 0, none⟩)) (undef))).setIfInBounds 13 (cond l3 (.slice A2 n2 c2) (undef))).setIfInBounds 14 (cond l4 (.slice EA En Ec) (undef))).setIfInBounds 15 (cond l5 (.pointer (some ⟨w.heap.size, 1, none⟩)) (undef))).setIfInBounds 16 (cond l6 (.bool b1) (undef))).setIfInBounds 17 (cond l7 (.agg #[.slice EA En Ec, .bool b1]) (undef))) } ∧ (l8 = true → l0 = true ∧ l1 = true ∧ l2 = true ∧ l3 = true ∧ l4 = true ∧ l5 = true ∧ l6 = true ∧ l7 = true) ∧ Below w7.heap.size w7 uu ∧ (l7 = true → l4 = true) ∧ (l4 = true → Dig uu EA En Ec (x + y) ∧ Fr w7.heap.size EA) ∧ vv = cond l8 ((uu.setCell ⟨w.heap.size + 1 + 1, 0, none⟩ (.slice EA En Ec)).setCell ⟨w.heap.size + 1 + 1, 1, none⟩ (.bool (b1))) uu) (by kernel_rfl) (by kernel_rfl) ?h0 ?hsize ?hdone ?hstep
  case h0 =>
    refine ⟨false, false, false, false, false, false, false, false, false, _, none, 0, 0, rfl, ?_, (fun h => by cases h), by (repeat (first | exact Below.refl _ _ | refine bl_drewN ?_ | refine bl_drew ?_ | refine bl_alloc ?_ _ | refine Below.setCell ?_ (by (first | (simp; done) | (simp; omega) | omega)) _ | refine bl_step (by assumption) ?_)), (fun h => by cases h), (fun h => by cases h), rfl⟩
    simp only [cond_false, List.setIfInBounds_toArray, List.set_cons_zero, List.set_cons_succ]
  case hsize =>
    intro LL aa vv h
    obtain ⟨l0, l1, l2, l3, l4, l5, l6, l7, l8, uu, EA, En, Ec, hL, _⟩ := h
    rw [hL]
    rfl
  case hstep =>
    intro LL aa vv h
    obtain ⟨l0, l1, l2, l3, l4, l5, l6, l7, l8, uu, EA, En, Ec, hL, ha, hall, hu, ho4_7, hx4, hv⟩ := h
    simp only [List.setIfInBounds_toArray, List.set_cons_zero, List.set_cons_succ] at ha
    subst hL
    subst ha
    refine ⟨?s0, ?s1, ?s2, ?s3, ?s4, ?s5, ?s6, ?s7, ?s8, trivial⟩
    case s0 =>
      intro ff gg KK hK
      have f0 : l0 = false := ff
      cases hl : l8
      case true =>
        have := (hall hl).1
        rw [f0] at this
        cases this
      rw [hl] at hv
      simp only [cond_false] at hv
      subst hv
      clear ff gg
      subst hl
      subst f0
      simp only [cond_false]
      go_simp
      exact hK _ _ ⟨true, l1, l2, l3, l4, l5, l6, l7, false, _, EA, En, Ec, rfl, (by simp only [cond_true, List.setIfInBounds_toArray, List.set_cons_zero, List.set_cons_succ]), (fun h => by cases h), hu, ho4_7, hx4, rfl⟩
    case s1 =>
      intro ff gg KK hK
      have f0 : l1 = false := ff
      cases hl : l8
      case true =>
        have := (hall hl).2.1
        rw [f0] at this
        cases this
      rw [hl] at hv
      simp only [cond_false] at hv
      subst hv
      have t0 : l0 = true := gg ⟨0, .data⟩ (by simp) (by rfl)
      clear ff gg
      subst t0
      subst hl
      subst f0
      simp only [cond_true, cond_false]
      have k0 := cell_later hu c0
      go_simp
      exact hK _ _ ⟨true, true, l2, l3, l4, l5, l6, l7, false, _, EA, En, Ec, rfl, (by simp only [cond_true, List.setIfInBounds_toArray, List.set_cons_zero, List.set_cons_succ]), (fun h => by cases h), hu, ho4_7, hx4, rfl⟩
    case s2 =>
      intro ff gg KK hK
      have f0 : l2 = false := ff
      cases hl : l8
      case true =>
        have := (hall hl).2.2.1
        rw [f0] at this
        cases this
      rw [hl] at hv
      simp only [cond_false] at hv
      subst hv
      clear ff gg
      subst hl
      subst f0
      simp only [cond_false]
      go_simp
      exact hK _ _ ⟨l0, l1, true, l3, l4, l5, l6, l7, false, _, EA, En, Ec, rfl, (by simp only [cond_true, List.setIfInBounds_toArray, List.set_cons_zero, List.set_cons_succ]), (fun h => by cases h), hu, ho4_7, hx4, rfl⟩
    case s3 =>
      intro ff gg KK hK
      have f0 : l3 = false := ff
      cases hl : l8
      case true =>
        have := (hall hl).2.2.2.1
        rw [f0] at this
        cases this
      rw [hl] at hv
      simp only [cond_false] at hv
      subst hv
      have t2 : l2 = true := gg ⟨2, .data⟩ (by simp) (by rfl)
      clear ff gg
      subst t2
      subst hl
      subst f0
      simp only [cond_true, cond_false]
      have k0 := cell_later hu d0
      go_simp
      exact hK _ _ ⟨l0, l1, true, true, l4, l5, l6, l7, false, _, EA, En, Ec, rfl, (by simp only [cond_true, List.setIfInBounds_toArray, List.set_cons_zero, List.set_cons_succ]), (fun h => by cases h), hu, ho4_7, hx4, rfl⟩
    case s4 =>
      intro ff gg KK hK
      have f0 : l4 = false := ff
      cases hl : l8
      case true =>
        have := (hall hl).2.2.2.2.1
        rw [f0] at this
        cases this
      rw [hl] at hv
      simp only [cond_false] at hv
      subst hv
      have t1 : l1 = true := gg ⟨1, .data⟩ (by simp) (by rfl)
      have t3 : l3 = true := gg ⟨3, .data⟩ (by simp) (by rfl)
      clear ff gg
      subst t1 t3
      subst hl
      subst f0
      have fq7 : l7 = false := by cases hq : l7; rfl; exact absurd (ho4_7 hq) (by simp)
      subst fq7
      simp only [cond_true, cond_false]
      go_simp
      go_at_call 76
      with_reducible refine (sum02_any _ _ _ _ _ _ _ _ _ (h1.below hu) (h2.below hu) HX.out HY.out).mono ?_
      rintro e w' ⟨A', n', c', rfl, hd, hfr, hb⟩
      exact hK _ _ ⟨l0, true, l2, true, true, l5, l6, false, false, _, A', n', c', rfl, (by simp only [cond_true, cond_false, List.setIfInBounds_toArray, List.set_cons_zero, List.set_cons_succ]), (fun h => by cases h), bl_step hb hu, (fun _ => rfl), (fun _ => ⟨hd, hfr.le hu.size⟩), rfl⟩
    case s5 =>
      intro ff gg KK hK
      have f0 : l5 = false := ff
      cases hl : l8
      case true =>
        have := (hall hl).2.2.2.2.2.1
        rw [f0] at this
        cases this
      rw [hl] at hv
      simp only [cond_false] at hv
      subst hv
      clear ff gg
      subst hl
      subst f0
      simp only [cond_false]
      go_simp
      exact hK _ _ ⟨l0, l1, l2, l3, l4, true, l6, l7, false, _, EA, En, Ec, rfl, (by simp only [cond_true, List.setIfInBounds_toArray, List.set_cons_zero, List.set_cons_succ]), (fun h => by cases h), hu, ho4_7, hx4, rfl⟩
    case s6 =>
      intro ff gg KK hK
      have f0 : l6 = false := ff
      cases hl : l8
      case true =>
        have := (hall hl).2.2.2.2.2.2.1
        rw [f0] at this
        cases this
      rw [hl] at hv
      simp only [cond_false] at hv
      subst hv
      have t5 : l5 = true := gg ⟨5, .data⟩ (by simp) (by rfl)
      clear ff gg
      subst t5
      subst hl
      subst f0
      simp only [cond_true, cond_false]
      have k0 := cell_later hu c1x
      go_simp
      exact hK _ _ ⟨l0, l1, l2, l3, l4, true, true, l7, false, _, EA, En, Ec, rfl, (by simp only [cond_true, List.setIfInBounds_toArray, List.set_cons_zero, List.set_cons_succ]), (fun h => by cases h), hu, ho4_7, hx4, rfl⟩
    case s7 =>
      intro ff gg KK hK
      have f0 : l7 = false := ff
      cases hl : l8
      case true =>
        have := (hall hl).2.2.2.2.2.2.2
        rw [f0] at this
        cases this
      rw [hl] at hv
      simp only [cond_false] at hv
      subst hv
      have t4 : l4 = true := gg ⟨4, .data⟩ (by simp) (by rfl)
      have t6 : l6 = true := gg ⟨6, .data⟩ (by simp) (by rfl)
      clear ff gg
      subst t4 t6
      subst hl
      subst f0
      simp only [cond_true, cond_false]
      go_simp
      exact hK _ _ ⟨l0, l1, l2, l3, true, l5, true, true, false, _, EA, En, Ec, rfl, (by simp only [cond_true, List.setIfInBounds_toArray, List.set_cons_zero, List.set_cons_succ]), (fun h => by cases h), hu, (fun _ => rfl), hx4, rfl⟩
    case s8 =>
      intro ff gg KK hK
      have t7 : l7 = true := gg ⟨7, .data⟩ (by simp) (by rfl)
      have t0 : l0 = true := gg ⟨0, .phase⟩ (by simp) (by rfl)
      have t1 : l1 = true := gg ⟨1, .phase⟩ (by simp) (by rfl)
      have t2 : l2 = true := gg ⟨2, .phase⟩ (by simp) (by rfl)
      have t3 : l3 = true := gg ⟨3, .phase⟩ (by simp) (by rfl)
      have t4 : l4 = true := gg ⟨4, .phase⟩ (by simp) (by rfl)
      have t5 : l5 = true := gg ⟨5, .phase⟩ (by simp) (by rfl)
      have t6 : l6 = true := gg ⟨6, .phase⟩ (by simp) (by rfl)
      have f0 : l8 = false := ff
      clear ff gg
      subst t7 t0 t1 t2 t3 t4 t5 t6
      subst f0
      simp only [cond_false] at hv
      subst hv
      simp only [cond_true]
      have k0 := cell_later hu r0
      have k1 := cell_later hu r1
      have k2 : vv.frozen? ⟨w.heap.size + 1 + 1, 0, none⟩ = false := (hu.frozen (p := ⟨w.heap.size + 1 + 1, 0, none⟩) hb3).trans (cf 0)
      have k3 : vv.frozen? ⟨w.heap.size + 1 + 1, 1, none⟩ = false := (hu.frozen (p := ⟨w.heap.size + 1 + 1, 1, none⟩) hb3).trans (cf 1)
      go_simp
      exact hK _ _ ⟨true, true, true, true, true, true, true, true, true, _, EA, En, Ec, rfl, (by simp only [cond_true, List.setIfInBounds_toArray, List.set_cons_zero, List.set_cons_succ]), (fun _ => ⟨rfl, rfl, rfl, rfl, rfl, rfl, rfl, rfl⟩), hu, (fun _ => rfl), hx4, rfl⟩
  case hdone =>
    intro LL aa vv h hd
    obtain ⟨l0, l1, l2, l3, l4, l5, l6, l7, l8, uu, EA, En, Ec, hL, ha, hall, hu, ho4_7, hx4, hv⟩ := h
    rw [hL] at hd
    have t0 : l0 = true := hd 0 (by decide)
    have t1 : l1 = true := hd 1 (by decide)
    have t2 : l2 = true := hd 2 (by decide)
    have t3 : l3 = true := hd 3 (by decide)
    have t4 : l4 = true := hd 4 (by decide)
    have t5 : l5 = true := hd 5 (by decide)
    have t6 : l6 = true := hd 6 (by decide)
    have t7 : l7 = true := hd 7 (by decide)
    have t8 : l8 = true := hd 8 (by decide)
    clear hd hL hall
    subst t0 t1 t2 t3 t4 t5 t6 t7 t8
    simp only [cond_true, List.setIfInBounds_toArray, List.set_cons_zero, List.set_cons_succ] at ha hv
    subst ha
    subst hv
    replace hx4 := hx4 rfl
    replace r0 := cell_later hu r0
    replace r1 := cell_later hu r1
    replace hw6 : Below w.heap.size w uu := bl_step hu hw6
    obtain ⟨ed, ef⟩ := hx4
    have en : ∀ a, EA = some a → a.block ≠ w.heap.size + 1 + 1 := fun a e => by have := ef a e; omega
    go_wp2
    exact bodyPost_ret (v := .agg #[.slice EA En Ec, .bool (b1)]) (by first | (simp only [results, Tryz.results51]; go_simp; done) | simp [results, Tryz.results51, go_sem, *]) rfl ⟨EA, En, Ec, rfl, (ed.store ⟨w.heap.size + 1 + 1, 0, none⟩ _ en).store ⟨w.heap.size + 1 + 1, 1, none⟩ _ en, ef.le hw0.size, by (repeat (first | (with_reducible exact Below.refl _ _) | (with_reducible refine Below.setCell ?_ (by (first | (simp; done) | (simp; omega) | omega)) _) | (with_reducible refine bl_alloc ?_ _) | (with_reducible refine bl_drewN ?_) | (with_reducible refine bl_drew ?_) | (with_reducible refine bl_step (by assumption) ?_)))⟩
set_option maxRecDepth 100000 in
set_option maxHeartbeats 4000000 in
theorem plus02_less1 (A1 A2 : Option Addr) (n1 n2 c1 c2 x y : Nat) (b1 b2 : Bool) (w : World) (h1 : Dig w A1 n1 c1 x) (h2 : Dig w A2 n2 c2 y) (hx : x < pw 30) (hy : y < pw 30) (hb : (b1 == b2) = false) (hc : y ≤ x) :
    Calls Tryz.prog 51 #[.agg #[.slice A1 n1 c1, .bool b1], .agg #[.slice A2 n2 c2, .bool b2]] w (SgRes w (x - y) fun n => sgb n b1) := by
  have l1 := h1.few hx
  have l2 := h2.few hy
  clear hx hy
  have cm : 0 ≤ cmpN x y := by unfold cmpN; split; omega; split <;> omega
  obtain ⟨cc, ec⟩ : ∃ cc, cmpN x y = cc := ⟨_, rfl⟩
  have O := fun w' (h : Below w.heap.size w w') => order02_any A1 A2 n1 n2 c1 c2 x y w' (h1.below h) (h2.below h) (by omega) (by omega)
  rw [ec] at O cm
  replace O := hidden O
  clear ec
  go_enter Tryz.func51, Tryz.ntmps51
  go_wp2_with (go_at_call 77; ((with_reducible refine (O.out _ ?bb).mono ?_); (case bb => (repeat (first | (with_reducible exact Below.refl _ _) | (with_reducible refine Below.setCell ?_ (by (first | (simp; done) | (simp; omega) | omega)) _) | (with_reducible refine bl_alloc ?_ _) | (with_reducible refine bl_drewN ?_) | (with_reducible refine bl_drew ?_) | (with_reducible refine bl_step (by assumption) ?_))); done); rintro e w' ⟨rfl, hb⟩); (try replace hb := below_undrew hb); (try replace hb := below_undrewN hb); obtain ⟨hcell, hfroz⟩ := bcell hb; have hz := hb.size; (try simp at hz); (try (have z6 := Nat.lt_of_lt_of_le z7 hz)); (try (have z7 := Nat.lt_of_lt_of_le z8 hz)); (try (have z8 := Nat.lt_of_lt_of_le z9 hz)); (try (have z9 := Nat.lt_of_lt_of_le (Nat.lt_succ_self _) hz)); (try (have z0 : w.heap.size < w'.heap.size := by omega)); (try (have z1 : w.heap.size + 1 < w'.heap.size := by omega)); (try (have z2 : w.heap.size + 1 + 1 < w'.heap.size := by omega)); (try (have z3 : w.heap.size + 1 + 1 + 1 < w'.heap.size := by omega)); (try (have y7 : w7.heap.size < w'.heap.size := by omega)); (try (have z70 : w7.heap.size < w'.heap.size + 1 := by omega)))
  (refine name_below ?_; intro w' hb; (try replace hb := below_undrew hb); (try replace hb := below_undrewN hb); obtain ⟨hcell, hfroz⟩ := bcell hb; have hz := hb.size; (try simp at hz); (try (have z6 := Nat.lt_of_lt_of_le z7 hz)); (try (have z7 := Nat.lt_of_lt_of_le z8 hz)); (try (have z8 := Nat.lt_of_lt_of_le z9 hz)); (try (have z9 := Nat.lt_of_lt_of_le (Nat.lt_succ_self _) hz)); (try (have z0 : w.heap.size < w'.heap.size := by omega)); (try (have z1 : w.heap.size + 1 < w'.heap.size := by omega)); (try (have z2 : w.heap.size + 1 + 1 < w'.heap.size := by omega)); (try (have z3 : w.heap.size + 1 + 1 + 1 < w'.heap.size := by omega)); (try (have y7 : w7.heap.size < w'.heap.size := by omega)); (try (have z70 : w7.heap.size < w'.heap.size + 1 := by omega)))
  have hw6 : Below w.heap.size w w' := by (repeat (first | (with_reducible exact Below.refl _ _) | (with_reducible refine Below.setCell ?_ (by (first | (simp; done) | (simp; omega) | omega)) _) | (with_reducible refine bl_alloc ?_ _) | (with_reducible refine bl_drewN ?_) | (with_reducible refine bl_drew ?_) | (with_reducible refine bl_step (by assumption) ?_)))
  have c0 : w'.cell? ⟨w.heap.size, 0, none⟩ = some (.slice A1 n1 c1) := by simp [go_sem, *]
  have c1x : w'.cell? ⟨w.heap.size, 1, none⟩ = some (.bool b1) := by simp [go_sem, *]
  have d0 : w'.cell? ⟨w.heap.size + 1, 0, none⟩ = some (.slice A2 n2 c2) := by simp [go_sem, *]
  have d1 : w'.cell? ⟨w.heap.size + 1, 1, none⟩ = some (.bool b2) := by simp [go_sem, *]
  have r0 : w'.cell? ⟨w.heap.size + 1 + 1, 0, none⟩ = some (.slice none 0 0) := by simp [go_sem, *]
  have r1 : w'.cell? ⟨w.heap.size + 1 + 1, 1, none⟩ = some (.bool false) := by simp [go_sem, *]
  have cf : ∀ o, w'.frozen? ⟨w.heap.size + 1 + 1, o, none⟩ = false := by intro o; simp [go_sem, *]
  clear hcell hfroz hz
  have hw0 := hw6
  obtain ⟨w7, rfl⟩ : ∃ v, v = w' := ⟨_, rfl⟩
  replace h1 := h1.below hw6
  replace h2 := h2.below hw6
  have hb3 : w.heap.size + 1 + 1 < w7.heap.size := World.block_lt_of_cell? _ _ r0
  refine wp_region_inv (fun a0 LL aa vv => ∃ (l0 l1 l2 l3 l4 l5 l6 l7 l8 l9 : Bool) (uu : World) (EA : Option Addr) (En : Nat) (Ec : Nat), LL = #[l0, l1, l2, l3, l4, l5, l6, l7, l8, l9] ∧ aa = { a0 with tmps := (((((((((a0.tmps.setIfInBounds 24 (cond l0 (.pointer (some ⟨w.heap.size, 0, none⟩)) (undef))).setIfInBounds 25 (cond l1 (.slice A1 n1 c1) (undef))).setIfInBounds 26 (cond l2 (.pointer (some ⟨w.heap.size + 1, 0, none⟩)) (undef))).setIfInBounds 27 (cond l3 (.slice A2 n2 c2) (undef))).setIfInBounds 28 (cond l4 (.slice EA En Ec) (undef))).setIfInBounds 29 (cond l5 (.pointer (some ⟨w.heap.size, 1, none⟩)) (undef))).setIfInBounds 30 (cond l6 (.bool b1) (undef))).setIfInBounds 31 (cond l7 (.agg #[.slice EA En Ec, .bool b1]) (undef))).setIfInBounds 32 (cond l8 (.agg #[.slice EA En Ec, .bool (sgb En b1)]) (undef))) } ∧ (l9 = true → l0 = true ∧ l1 = true ∧ l2 = true ∧ l3 = true ∧ l4 = true ∧ l5 = true ∧ l6 = true ∧ l7 = true ∧ l8 = true) ∧ Below w7.heap.size w7 uu ∧ (l7 = true → l4 = true) ∧ (l8 = true → l4 = true) ∧ (l4 = true → Dig uu EA En Ec (x - y) ∧ Fr w7.heap.size EA) ∧ vv = cond l9 ((uu.setCell ⟨w.heap.size + 1 + 1, 0, none⟩ (.slice EA En Ec)).setCell ⟨w.heap.size + 1 + 1, 1, none⟩ (.bool (sgb En b1))) uu) (by kernel_rfl) (by kernel_rfl) ?h0 ?hsize ?hdone ?hstep
  case h0 =>
    refine ⟨false, false, false, false, false, false, false, false, false, false, _, none, 0, 0, rfl, ?_, (fun h => by cases h), by (repeat (first | exact Below.refl _ _ | refine bl_drewN ?_ | refine bl_drew ?_ | refine bl_alloc ?_ _ | refine Below.setCell ?_ (by (first | (simp; done) | (simp; omega) | omega)) _ | refine bl_step (by assumption) ?_)), (fun h => by cases h), (fun h => by cases h), (fun h => by cases h), rfl⟩
    simp only [cond_false, List.setIfInBounds_toArray, List.set_cons_zero, List.set_cons_succ]
  case hsize =>
    intro LL aa vv h
    obtain ⟨l0, l1, l2, l3, l4, l5, l6, l7, l8, l9, uu, EA, En, Ec, hL, _⟩ := h
    rw [hL]
    rfl
  case hstep =>
    intro LL aa vv h
    obtain ⟨l0, l1, l2, l3, l4, l5, l6, l7, l8, l9, uu, EA, En, Ec, hL, ha, hall, hu, ho4_7, ho4_8, hx4, hv⟩ := h
    simp only [List.setIfInBounds_toArray, List.set_cons_zero, List.set_cons_succ] at ha
    subst hL
    subst ha
    refine ⟨?s0, ?s1, ?s2, ?s3, ?s4, ?s5, ?s6, ?s7, ?s8, ?s9, trivial⟩
    case s0 =>
      intro ff gg KK hK
      have f0 : l0 = false := ff
      cases hl : l9
      case true =>
        have := (hall hl).1
        rw [f0] at this
        cases this
      rw [hl] at hv
      simp only [cond_false] at hv
      subst hv
      clear ff gg
      subst hl
      subst f0
      simp only [cond_false]
      go_simp
      exact hK _ _ ⟨true, l1, l2, l3, l4, l5, l6, l7, l8, false, _, EA, En, Ec, rfl, (by simp only [cond_true, List.setIfInBounds_toArray, List.set_cons_zero, List.set_cons_succ]), (fun h => by cases h), hu, ho4_7, ho4_8, hx4, rfl⟩
    case s1 =>
      intro ff gg KK hK
      have f0 : l1 = false := ff
      cases hl : l9
      case true =>
        have := (hall hl).2.1
        rw [f0] at this
        cases this
      rw [hl] at hv
      simp only [cond_false] at hv
      subst hv
      have t0 : l0 = true := gg ⟨0, .data⟩ (by simp) (by rfl)
      clear ff gg
      subst t0
      subst hl
      subst f0
      simp only [cond_true, cond_false]
      have k0 := cell_later hu c0
      go_simp
      exact hK _ _ ⟨true, true, l2, l3, l4, l5, l6, l7, l8, false, _, EA, En, Ec, rfl, (by simp only [cond_true, List.setIfInBounds_toArray, List.set_cons_zero, List.set_cons_succ]), (fun h => by cases h), hu, ho4_7, ho4_8, hx4, rfl⟩
    case s2 =>
      intro ff gg KK hK
      have f0 : l2 = false := ff
      cases hl : l9
      case true =>
        have := (hall hl).2.2.1
        rw [f0] at this
        cases this
      rw [hl] at hv
      simp only [cond_false] at hv
      subst hv
      clear ff gg
      subst hl
      subst f0
      simp only [cond_false]
      go_simp
      exact hK _ _ ⟨l0, l1, true, l3, l4, l5, l6, l7, l8, false, _, EA, En, Ec, rfl, (by simp only [cond_true, List.setIfInBounds_toArray, List.set_cons_zero, List.set_cons_succ]), (fun h => by cases h), hu, ho4_7, ho4_8, hx4, rfl⟩
    case s3 =>
      intro ff gg KK hK
      have f0 : l3 = false := ff
      cases hl : l9
      case true =>
        have := (hall hl).2.2.2.1
        rw [f0] at this
        cases this
      rw [hl] at hv
      simp only [cond_false] at hv
      subst hv
      have t2 : l2 = true := gg ⟨2, .data⟩ (by simp) (by rfl)
      clear ff gg
      subst t2
      subst hl
      subst f0
      simp only [cond_true, cond_false]
      have k0 := cell_later hu d0
      go_simp
      exact hK _ _ ⟨l0, l1, true, true, l4, l5, l6, l7, l8, false, _, EA, En, Ec, rfl, (by simp only [cond_true, List.setIfInBounds_toArray, List.set_cons_zero, List.set_cons_succ]), (fun h => by cases h), hu, ho4_7, ho4_8, hx4, rfl⟩
    case s4 =>
      intro ff gg KK hK
      have f0 : l4 = false := ff
      cases hl : l9
      case true =>
        have := (hall hl).2.2.2.2.1
        rw [f0] at this
        cases this
      rw [hl] at hv
      simp only [cond_false] at hv
      subst hv
      have t1 : l1 = true := gg ⟨1, .data⟩ (by simp) (by rfl)
      have t3 : l3 = true := gg ⟨3, .data⟩ (by simp) (by rfl)
      clear ff gg
      subst t1 t3
      subst hl
      subst f0
      have fq7 : l7 = false := by cases hq : l7; rfl; exact absurd (ho4_7 hq) (by simp)
      subst fq7
      have fq8 : l8 = false := by cases hq : l8; rfl; exact absurd (ho4_8 hq) (by simp)
      subst fq8
      simp only [cond_true, cond_false]
      go_simp
      go_at_call 79
      with_reducible refine (less02_any _ _ _ _ _ _ _ _ _ (h1.below hu) (h2.below hu) (by omega) (by omega)).mono ?_
      rintro e w' ⟨A', n', c', rfl, hd, hfr, hb⟩
      exact hK _ _ ⟨l0, true, l2, true, true, l5, l6, false, false, false, _, A', n', c', rfl, (by simp only [cond_true, cond_false, List.setIfInBounds_toArray, List.set_cons_zero, List.set_cons_succ]), (fun h => by cases h), bl_step hb hu, (fun _ => rfl), (fun _ => rfl), (fun _ => ⟨hd, hfr.le hu.size⟩), rfl⟩
    case s5 =>
      intro ff gg KK hK
      have f0 : l5 = false := ff
      cases hl : l9
      case true =>
        have := (hall hl).2.2.2.2.2.1
        rw [f0] at this
        cases this
      rw [hl] at hv
      simp only [cond_false] at hv
      subst hv
      clear ff gg
      subst hl
      subst f0
      simp only [cond_false]
      go_simp
      exact hK _ _ ⟨l0, l1, l2, l3, l4, true, l6, l7, l8, false, _, EA, En, Ec, rfl, (by simp only [cond_true, List.setIfInBounds_toArray, List.set_cons_zero, List.set_cons_succ]), (fun h => by cases h), hu, ho4_7, ho4_8, hx4, rfl⟩
    case s6 =>
      intro ff gg KK hK
      have f0 : l6 = false := ff
      cases hl : l9
      case true =>
        have := (hall hl).2.2.2.2.2.2.1
        rw [f0] at this
        cases this
      rw [hl] at hv
      simp only [cond_false] at hv
      subst hv
      have t5 : l5 = true := gg ⟨5, .data⟩ (by simp) (by rfl)
      clear ff gg
      subst t5
      subst hl
      subst f0
      simp only [cond_true, cond_false]
      have k0 := cell_later hu c1x
      go_simp
      exact hK _ _ ⟨l0, l1, l2, l3, l4, true, true, l7, l8, false, _, EA, En, Ec, rfl, (by simp only [cond_true, List.setIfInBounds_toArray, List.set_cons_zero, List.set_cons_succ]), (fun h => by cases h), hu, ho4_7, ho4_8, hx4, rfl⟩
    case s7 =>
      intro ff gg KK hK
      have f0 : l7 = false := ff
      cases hl : l9
      case true =>
        have := (hall hl).2.2.2.2.2.2.2.1
        rw [f0] at this
        cases this
      rw [hl] at hv
      simp only [cond_false] at hv
      subst hv
      have t4 : l4 = true := gg ⟨4, .data⟩ (by simp) (by rfl)
      have t6 : l6 = true := gg ⟨6, .data⟩ (by simp) (by rfl)
      clear ff gg
      subst t4 t6
      subst hl
      subst f0
      simp only [cond_true, cond_false]
      go_simp
      exact hK _ _ ⟨l0, l1, l2, l3, true, l5, true, true, l8, false, _, EA, En, Ec, rfl, (by simp only [cond_true, List.setIfInBounds_toArray, List.set_cons_zero, List.set_cons_succ]), (fun h => by cases h), hu, (fun _ => rfl), (fun _ => rfl), hx4, rfl⟩
    case s8 =>
      intro ff gg KK hK
      have f0 : l8 = false := ff
      cases hl : l9
      case true =>
        have := (hall hl).2.2.2.2.2.2.2.2
        rw [f0] at this
        cases this
      rw [hl] at hv
      simp only [cond_false] at hv
      subst hv
      have t7 : l7 = true := gg ⟨7, .data⟩ (by simp) (by rfl)
      clear ff gg
      subst t7
      subst hl
      subst f0
      have te4 : l4 = true := ho4_7 rfl
      subst te4
      simp only [cond_true, cond_false]
      go_simp
      go_at_call 78
      with_reducible refine (sign02_any _ _ _ _ _).mono ?_
      rintro e w' ⟨rfl, hb⟩
      exact hK _ _ ⟨l0, l1, l2, l3, true, l5, l6, true, true, false, _, EA, En, Ec, rfl, (by simp only [cond_true, List.setIfInBounds_toArray, List.set_cons_zero, List.set_cons_succ]), (fun h => by cases h), bl_step hb hu, (fun _ => rfl), (fun _ => rfl), (fun t => ⟨(hx4 t).1.below hb, (hx4 t).2⟩), rfl⟩
    case s9 =>
      intro ff gg KK hK
      have t8 : l8 = true := gg ⟨8, .data⟩ (by simp) (by rfl)
      have t0 : l0 = true := gg ⟨0, .phase⟩ (by simp) (by rfl)
      have t1 : l1 = true := gg ⟨1, .phase⟩ (by simp) (by rfl)
      have t2 : l2 = true := gg ⟨2, .phase⟩ (by simp) (by rfl)
      have t3 : l3 = true := gg ⟨3, .phase⟩ (by simp) (by rfl)
      have t4 : l4 = true := gg ⟨4, .phase⟩ (by simp) (by rfl)
      have t5 : l5 = true := gg ⟨5, .phase⟩ (by simp) (by rfl)
      have t6 : l6 = true := gg ⟨6, .phase⟩ (by simp) (by rfl)
      have t7 : l7 = true := gg ⟨7, .phase⟩ (by simp) (by rfl)
      have f0 : l9 = false := ff
      clear ff gg
      subst t8 t0 t1 t2 t3 t4 t5 t6 t7
      subst f0
      simp only [cond_false] at hv
      subst hv
      simp only [cond_true]
      have k0 := cell_later hu r0
      have k1 := cell_later hu r1
      have k2 : vv.frozen? ⟨w.heap.size + 1 + 1, 0, none⟩ = false := (hu.frozen (p := ⟨w.heap.size + 1 + 1, 0, none⟩) hb3).trans (cf 0)
      have k3 : vv.frozen? ⟨w.heap.size + 1 + 1, 1, none⟩ = false := (hu.frozen (p := ⟨w.heap.size + 1 + 1, 1, none⟩) hb3).trans (cf 1)
      go_simp
      exact hK _ _ ⟨true, true, true, true, true, true, true, true, true, true, _, EA, En, Ec, rfl, (by simp only [cond_true, List.setIfInBounds_toArray, List.set_cons_zero, List.set_cons_succ]), (fun _ => ⟨rfl, rfl, rfl, rfl, rfl, rfl, rfl, rfl, rfl⟩), hu, (fun _ => rfl), (fun _ => rfl), hx4, rfl⟩
  case hdone =>
    intro LL aa vv h hd
    obtain ⟨l0, l1, l2, l3, l4, l5, l6, l7, l8, l9, uu, EA, En, Ec, hL, ha, hall, hu, ho4_7, ho4_8, hx4, hv⟩ := h
    rw [hL] at hd
    have t0 : l0 = true := hd 0 (by decide)
    have t1 : l1 = true := hd 1 (by decide)
    have t2 : l2 = true := hd 2 (by decide)
    have t3 : l3 = true := hd 3 (by decide)
    have t4 : l4 = true := hd 4 (by decide)
    have t5 : l5 = true := hd 5 (by decide)
    have t6 : l6 = true := hd 6 (by decide)
    have t7 : l7 = true := hd 7 (by decide)
    have t8 : l8 = true := hd 8 (by decide)
    have t9 : l9 = true := hd 9 (by decide)
    clear hd hL hall
    subst t0 t1 t2 t3 t4 t5 t6 t7 t8 t9
    simp only [cond_true, List.setIfInBounds_toArray, List.set_cons_zero, List.set_cons_succ] at ha hv
    subst ha
    subst hv
    replace hx4 := hx4 rfl
    replace r0 := cell_later hu r0
    replace r1 := cell_later hu r1
    replace hw6 : Below w.heap.size w uu := bl_step hu hw6
    obtain ⟨ed, ef⟩ := hx4
    have en : ∀ a, EA = some a → a.block ≠ w.heap.size + 1 + 1 := fun a e => by have := ef a e; omega
    go_wp2
    exact bodyPost_ret (v := .agg #[.slice EA En Ec, .bool (sgb En b1)]) (by first | (simp only [results, Tryz.results51]; go_simp; done) | simp [results, Tryz.results51, go_sem, *]) rfl ⟨EA, En, Ec, rfl, (ed.store ⟨w.heap.size + 1 + 1, 0, none⟩ _ en).store ⟨w.heap.size + 1 + 1, 1, none⟩ _ en, ef.le hw0.size, by (repeat (first | (with_reducible exact Below.refl _ _) | (with_reducible refine Below.setCell ?_ (by (first | (simp; done) | (simp; omega) | omega)) _) | (with_reducible refine bl_alloc ?_ _) | (with_reducible refine bl_drewN ?_) | (with_reducible refine bl_drew ?_) | (with_reducible refine bl_step (by assumption) ?_)))⟩
set_option maxRecDepth 100000 in
set_option maxHeartbeats 4000000 in
theorem plus02_less2 (A1 A2 : Option Addr) (n1 n2 c1 c2 x y : Nat) (b1 b2 : Bool) (w : World) (h1 : Dig w A1 n1 c1 x) (h2 : Dig w A2 n2 c2 y) (hx : x < pw 30) (hy : y < pw 30) (hb : (b1 == b2) = false) (hc : x < y) :
    Calls Tryz.prog 51 #[.agg #[.slice A1 n1 c1, .bool b1], .agg #[.slice A2 n2 c2, .bool b2]] w (SgRes w (y - x) fun n => sgb n b2) := by
  have l1 := h1.few hx
  have l2 := h2.few hy
  clear hx hy
  have cm : cmpN x y < 0 := by rw [cmpN_lt hc]; decide
  obtain ⟨cc, ec⟩ : ∃ cc, cmpN x y = cc := ⟨_, rfl⟩
  have O := fun w' (h : Below w.heap.size w w') => order02_any A1 A2 n1 n2 c1 c2 x y w' (h1.below h) (h2.below h) (by omega) (by omega)
  rw [ec] at O cm
  replace O := hidden O
  clear ec
  go_enter Tryz.func51, Tryz.ntmps51
  go_wp2_with (go_at_call 77; ((with_reducible refine (O.out _ ?bb).mono ?_); (case bb => (repeat (first | (with_reducible exact Below.refl _ _) | (with_reducible refine Below.setCell ?_ (by (first | (simp; done) | (simp; omega) | omega)) _) | (with_reducible refine bl_alloc ?_ _) | (with_reducible refine bl_drewN ?_) | (with_reducible refine bl_drew ?_) | (with_reducible refine bl_step (by assumption) ?_))); done); rintro e w' ⟨rfl, hb⟩); (try replace hb := below_undrew hb); (try replace hb := below_undrewN hb); obtain ⟨hcell, hfroz⟩ := bcell hb; have hz := hb.size; (try simp at hz); (try (have z6 := Nat.lt_of_lt_of_le z7 hz)); (try (have z7 := Nat.lt_of_lt_of_le z8 hz)); (try (have z8 := Nat.lt_of_lt_of_le z9 hz)); (try (have z9 := Nat.lt_of_lt_of_le (Nat.lt_succ_self _) hz)); (try (have z0 : w.heap.size < w'.heap.size := by omega)); (try (have z1 : w.heap.size + 1 < w'.heap.size := by omega)); (try (have z2 : w.heap.size + 1 + 1 < w'.heap.size := by omega)); (try (have z3 : w.heap.size + 1 + 1 + 1 < w'.heap.size := by omega)); (try (have y7 : w7.heap.size < w'.heap.size := by omega)); (try (have z70 : w7.heap.size < w'.heap.size + 1 := by omega)))
  (refine name_below ?_; intro w' hb; (try replace hb := below_undrew hb); (try replace hb := below_undrewN hb); obtain ⟨hcell, hfroz⟩ := bcell hb; have hz := hb.size; (try simp at hz); (try (have z6 := Nat.lt_of_lt_of_le z7 hz)); (try (have z7 := Nat.lt_of_lt_of_le z8 hz)); (try (have z8 := Nat.lt_of_lt_of_le z9 hz)); (try (have z9 := Nat.lt_of_lt_of_le (Nat.lt_succ_self _) hz)); (try (have z0 : w.heap.size < w'.heap.size := by omega)); (try (have z1 : w.heap.size + 1 < w'.heap.size := by omega)); (try (have z2 : w.heap.size + 1 + 1 < w'.heap.size := by omega)); (try (have z3 : w.heap.size + 1 + 1 + 1 < w'.heap.size := by omega)); (try (have y7 : w7.heap.size < w'.heap.size := by omega)); (try (have z70 : w7.heap.size < w'.heap.size + 1 := by omega)))
  have hw6 : Below w.heap.size w w' := by (repeat (first | (with_reducible exact Below.refl _ _) | (with_reducible refine Below.setCell ?_ (by (first | (simp; done) | (simp; omega) | omega)) _) | (with_reducible refine bl_alloc ?_ _) | (with_reducible refine bl_drewN ?_) | (with_reducible refine bl_drew ?_) | (with_reducible refine bl_step (by assumption) ?_)))
  have c0 : w'.cell? ⟨w.heap.size, 0, none⟩ = some (.slice A1 n1 c1) := by simp [go_sem, *]
  have c1x : w'.cell? ⟨w.heap.size, 1, none⟩ = some (.bool b1) := by simp [go_sem, *]
  have d0 : w'.cell? ⟨w.heap.size + 1, 0, none⟩ = some (.slice A2 n2 c2) := by simp [go_sem, *]
  have d1 : w'.cell? ⟨w.heap.size + 1, 1, none⟩ = some (.bool b2) := by simp [go_sem, *]
  have r0 : w'.cell? ⟨w.heap.size + 1 + 1, 0, none⟩ = some (.slice none 0 0) := by simp [go_sem, *]
  have r1 : w'.cell? ⟨w.heap.size + 1 + 1, 1, none⟩ = some (.bool false) := by simp [go_sem, *]
  have cf : ∀ o, w'.frozen? ⟨w.heap.size + 1 + 1, o, none⟩ = false := by intro o; simp [go_sem, *]
  clear hcell hfroz hz
  have hw0 := hw6
  obtain ⟨w7, rfl⟩ : ∃ v, v = w' := ⟨_, rfl⟩
  replace h1 := h1.below hw6
  replace h2 := h2.below hw6
  have hb3 : w.heap.size + 1 + 1 < w7.heap.size := World.block_lt_of_cell? _ _ r0
  refine wp_region_inv (fun a0 LL aa vv => ∃ (l0 l1 l2 l3 l4 l5 l6 l7 l8 l9 : Bool) (uu : World) (EA : Option Addr) (En : Nat) (Ec : Nat), LL = #[l0, l1, l2, l3, l4, l5, l6, l7, l8, l9] ∧ aa = { a0 with tmps := (((((((((a0.tmps.setIfInBounds 33 (cond l0 (.pointer (some ⟨w.heap.size + 1, 0, none⟩)) (undef))).setIfInBounds 34 (cond l1 (.slice A2 n2 c2) (undef))).setIfInBounds 35 (cond l2 (.pointer (some ⟨w.heap.size, 0, none⟩)) (undef))).setIfInBounds 36 (cond l3 (.slice A1 n1 c1) (undef))).setIfInBounds 37 (cond l4 (.slice EA En Ec) (undef))).setIfInBounds 38 (cond l5 (.pointer (some ⟨w.heap.size + 1, 1, none⟩)) (undef))).setIfInBounds 39 (cond l6 (.bool b2) (undef))).setIfInBounds 40 (cond l7 (.agg #[.slice EA En Ec, .bool b2]) (undef))).setIfInBounds 41 (cond l8 (.agg #[.slice EA En Ec, .bool (sgb En b2)]) (undef))) } ∧ (l9 = true → l0 = true ∧ l1 = true ∧ l2 = true ∧ l3 = true ∧ l4 = true ∧ l5 = true ∧ l6 = true ∧ l7 = true ∧ l8 = true) ∧ Below w7.heap.size w7 uu ∧ (l7 = true → l4 = true) ∧ (l8 = true → l4 = true) ∧ (l4 = true → Dig uu EA En Ec (y - x) ∧ Fr w7.heap.size EA) ∧ vv = cond l9 ((uu.setCell ⟨w.heap.size + 1 + 1, 0, none⟩ (.slice EA En Ec)).setCell ⟨w.heap.size + 1 + 1, 1, none⟩ (.bool (sgb En b2))) uu) (by kernel_rfl) (by kernel_rfl) ?h0 ?hsize ?hdone ?hstep
  case h0 =>
    refine ⟨false, false, false, false, false, false, false, false, false, false, _, none, 0, 0, rfl, ?_, (fun h => by cases h), by (repeat (first | exact Below.refl _ _ | refine bl_drewN ?_ | refine bl_drew ?_ | refine bl_alloc ?_ _ | refine Below.setCell ?_ (by (first | (simp; done) | (simp; omega) | omega)) _ | refine bl_step (by assumption) ?_)), (fun h => by cases h), (fun h => by cases h), (fun h => by cases h), rfl⟩
    simp only [cond_false, List.setIfInBounds_toArray, List.set_cons_zero, List.set_cons_succ]
  case hsize =>
    intro LL aa vv h
    obtain ⟨l0, l1, l2, l3, l4, l5, l6, l7, l8, l9, uu, EA, En, Ec, hL, _⟩ := h
    rw [hL]
    rfl
  case hstep =>
    intro LL aa vv h
    obtain ⟨l0, l1, l2, l3, l4, l5, l6, l7, l8, l9, uu, EA, En, Ec, hL, ha, hall, hu, ho4_7, ho4_8, hx4, hv⟩ := h
    simp only [List.setIfInBounds_toArray, List.set_cons_zero, List.set_cons_succ] at ha
    subst hL
    subst ha
    refine ⟨?s0, ?s1, ?s2, ?s3, ?s4, ?s5, ?s6, ?s7, ?s8, ?s9, trivial⟩
    case s0 =>
      intro ff gg KK hK
      have f0 : l0 = false := ff
      cases hl : l9
      case true =>
        have := (hall hl).1
        rw [f0] at this
        cases this
      rw [hl] at hv
      simp only [cond_false] at hv
      subst hv
      clear ff gg
      subst hl
      subst f0
      simp only [cond_false]
      go_simp
      exact hK _ _ ⟨true, l1, l2, l3, l4, l5, l6, l7, l8, false, _, EA, En, Ec, rfl, (by simp only [cond_true, List.setIfInBounds_toArray, List.set_cons_zero, List.set_cons_succ]), (fun h => by cases h), hu, ho4_7, ho4_8, hx4, rfl⟩
    case s1 =>
      intro ff gg KK hK
      have f0 : l1 = false := ff
      cases hl : l9
      case true =>
        have := (hall hl).2.1
        rw [f0] at this
        cases this
      rw [hl] at hv
      simp only [cond_false] at hv
      subst hv
      have t0 : l0 = true := gg ⟨0, .data⟩ (by simp) (by rfl)
      clear ff gg
      subst t0
      subst hl
      subst f0
      simp only [cond_true, cond_false]
      have k0 := cell_later hu d0
      go_simp
      exact hK _ _ ⟨true, true, l2, l3, l4, l5, l6, l7, l8, false, _, EA, En, Ec, rfl, (by simp only [cond_true, List.setIfInBounds_toArray, List.set_cons_zero, List.set_cons_succ]), (fun h => by cases h), hu, ho4_7, ho4_8, hx4, rfl⟩
    case s2 =>
      intro ff gg KK hK
      have f0 : l2 = false := ff
      cases hl : l9
      case true =>
        have := (hall hl).2.2.1
        rw [f0] at this
        cases this
      rw [hl] at hv
      simp only [cond_false] at hv
      subst hv
      clear ff gg
      subst hl
      subst f0
      simp only [cond_false]
      go_simp
      exact hK _ _ ⟨l0, l1, true, l3, l4, l5, l6, l7, l8, false, _, EA, En, Ec, rfl, (by simp only [cond_true, List.setIfInBounds_toArray, List.set_cons_zero, List.set_cons_succ]), (fun h => by cases h), hu, ho4_7, ho4_8, hx4, rfl⟩
    case s3 =>
      intro ff gg KK hK
      have f0 : l3 = false := ff
      cases hl : l9
      case true =>
        have := (hall hl).2.2.2.1
        rw [f0] at this
        cases this
      rw [hl] at hv
      simp only [cond_false] at hv
      subst hv
      have t2 : l2 = true := gg ⟨2, .data⟩ (by simp) (by rfl)
      clear ff gg
      subst t2
      subst hl
      subst f0
      simp only [cond_true, cond_false]
      have k0 := cell_later hu c0
      go_simp
      exact hK _ _ ⟨l0, l1, true, true, l4, l5, l6, l7, l8, false, _, EA, En, Ec, rfl, (by simp only [cond_true, List.setIfInBounds_toArray, List.set_cons_zero, List.set_cons_succ]), (fun h => by cases h), hu, ho4_7, ho4_8, hx4, rfl⟩
    case s4 =>
      intro ff gg KK hK
      have f0 : l4 = false := ff
      cases hl : l9
      case true =>
        have := (hall hl).2.2.2.2.1
        rw [f0] at this
        cases this
      rw [hl] at hv
      simp only [cond_false] at hv
      subst hv
      have t1 : l1 = true := gg ⟨1, .data⟩ (by simp) (by rfl)
      have t3 : l3 = true := gg ⟨3, .data⟩ (by simp) (by rfl)
      clear ff gg
      subst t1 t3
      subst hl
      subst f0
      have fq7 : l7 = false := by cases hq : l7; rfl; exact absurd (ho4_7 hq) (by simp)
      subst fq7
      have fq8 : l8 = false := by cases hq : l8; rfl; exact absurd (ho4_8 hq) (by simp)
      subst fq8
      simp only [cond_true, cond_false]
      go_simp
      go_at_call 79
      with_reducible refine (less02_any _ _ _ _ _ _ _ _ _ (h2.below hu) (h1.below hu) (by omega) (by omega)).mono ?_
      rintro e w' ⟨A', n', c', rfl, hd, hfr, hb⟩
      exact hK _ _ ⟨l0, true, l2, true, true, l5, l6, false, false, false, _, A', n', c', rfl, (by simp only [cond_true, cond_false, List.setIfInBounds_toArray, List.set_cons_zero, List.set_cons_succ]), (fun h => by cases h), bl_step hb hu, (fun _ => rfl), (fun _ => rfl), (fun _ => ⟨hd, hfr.le hu.size⟩), rfl⟩
    case s5 =>
      intro ff gg KK hK
      have f0 : l5 = false := ff
      cases hl : l9
      case true =>
        have := (hall hl).2.2.2.2.2.1
        rw [f0] at this
        cases this
      rw [hl] at hv
      simp only [cond_false] at hv
      subst hv
      clear ff gg
      subst hl
      subst f0
      simp only [cond_false]
      go_simp
      exact hK _ _ ⟨l0, l1, l2, l3, l4, true, l6, l7, l8, false, _, EA, En, Ec, rfl, (by simp only [cond_true, List.setIfInBounds_toArray, List.set_cons_zero, List.set_cons_succ]), (fun h => by cases h), hu, ho4_7, ho4_8, hx4, rfl⟩
    case s6 =>
      intro ff gg KK hK
      have f0 : l6 = false := ff
      cases hl : l9
      case true =>
        have := (hall hl).2.2.2.2.2.2.1
        rw [f0] at this
        cases this
      rw [hl] at hv
      simp only [cond_false] at hv
      subst hv
      have t5 : l5 = true := gg ⟨5, .data⟩ (by simp) (by rfl)
      clear ff gg
      subst t5
      subst hl
      subst f0
      simp only [cond_true, cond_false]
      have k0 := cell_later hu d1
      go_simp
      exact hK _ _ ⟨l0, l1, l2, l3, l4, true, true, l7, l8, false, _, EA, En, Ec, rfl, (by simp only [cond_true, List.setIfInBounds_toArray, List.set_cons_zero, List.set_cons_succ]), (fun h => by cases h), hu, ho4_7, ho4_8, hx4, rfl⟩
    case s7 =>
      intro ff gg KK hK
      have f0 : l7 = false := ff
      cases hl : l9
      case true =>
        have := (hall hl).2.2.2.2.2.2.2.1
        rw [f0] at this
        cases this
      rw [hl] at hv
      simp only [cond_false] at hv
      subst hv
      have t4 : l4 = true := gg ⟨4, .data⟩ (by simp) (by rfl)
      have t6 : l6 = true := gg ⟨6, .data⟩ (by simp) (by rfl)
      clear ff gg
      subst t4 t6
      subst hl
      subst f0
      simp only [cond_true, cond_false]
      go_simp
      exact hK _ _ ⟨l0, l1, l2, l3, true, l5, true, true, l8, false, _, EA, En, Ec, rfl, (by simp only [cond_true, List.setIfInBounds_toArray, List.set_cons_zero, List.set_cons_succ]), (fun h => by cases h), hu, (fun _ => rfl), (fun _ => rfl), hx4, rfl⟩
    case s8 =>
      intro ff gg KK hK
      have f0 : l8 = false := ff
      cases hl : l9
      case true =>
        have := (hall hl).2.2.2.2.2.2.2.2
        rw [f0] at this
        cases this
      rw [hl] at hv
      simp only [cond_false] at hv
      subst hv
      have t7 : l7 = true := gg ⟨7, .data⟩ (by simp) (by rfl)
      clear ff gg
      subst t7
      subst hl
      subst f0
      have te4 : l4 = true := ho4_7 rfl
      subst te4
      simp only [cond_true, cond_false]
      go_simp
      go_at_call 78
      with_reducible refine (sign02_any _ _ _ _ _).mono ?_
      rintro e w' ⟨rfl, hb⟩
      exact hK _ _ ⟨l0, l1, l2, l3, true, l5, l6, true, true, false, _, EA, En, Ec, rfl, (by simp only [cond_true, List.setIfInBounds_toArray, List.set_cons_zero, List.set_cons_succ]), (fun h => by cases h), bl_step hb hu, (fun _ => rfl), (fun _ => rfl), (fun t => ⟨(hx4 t).1.below hb, (hx4 t).2⟩), rfl⟩
    case s9 =>
      intro ff gg KK hK
      have t8 : l8 = true := gg ⟨8, .data⟩ (by simp) (by rfl)
      have t0 : l0 = true := gg ⟨0, .phase⟩ (by simp) (by rfl)
      have t1 : l1 = true := gg ⟨1, .phase⟩ (by simp) (by rfl)
      have t2 : l2 = true := gg ⟨2, .phase⟩ (by simp) (by rfl)
      have t3 : l3 = true := gg ⟨3, .phase⟩ (by simp) (by rfl)
      have t4 : l4 = true := gg ⟨4, .phase⟩ (by simp) (by rfl)
      have t5 : l5 = true := gg ⟨5, .phase⟩ (by simp) (by rfl)
      have t6 : l6 = true := gg ⟨6, .phase⟩ (by simp) (by rfl)
      have t7 : l7 = true := gg ⟨7, .phase⟩ (by simp) (by rfl)
      have f0 : l9 = false := ff
      clear ff gg
      subst t8 t0 t1 t2 t3 t4 t5 t6 t7
      subst f0
      simp only [cond_false] at hv
      subst hv
      simp only [cond_true]
      have k0 := cell_later hu r0
      have k1 := cell_later hu r1
      have k2 : vv.frozen? ⟨w.heap.size + 1 + 1, 0, none⟩ = false := (hu.frozen (p := ⟨w.heap.size + 1 + 1, 0, none⟩) hb3).trans (cf 0)
      have k3 : vv.frozen? ⟨w.heap.size + 1 + 1, 1, none⟩ = false := (hu.frozen (p := ⟨w.heap.size + 1 + 1, 1, none⟩) hb3).trans (cf 1)
      go_simp
      exact hK _ _ ⟨true, true, true, true, true, true, true, true, true, true, _, EA, En, Ec, rfl, (by simp only [cond_true, List.setIfInBounds_toArray, List.set_cons_zero, List.set_cons_succ]), (fun _ => ⟨rfl, rfl, rfl, rfl, rfl, rfl, rfl, rfl, rfl⟩), hu, (fun _ => rfl), (fun _ => rfl), hx4, rfl⟩
  case hdone =>
    intro LL aa vv h hd
    obtain ⟨l0, l1, l2, l3, l4, l5, l6, l7, l8, l9, uu, EA, En, Ec, hL, ha, hall, hu, ho4_7, ho4_8, hx4, hv⟩ := h
    rw [hL] at hd
    have t0 : l0 = true := hd 0 (by decide)
    have t1 : l1 = true := hd 1 (by decide)
    have t2 : l2 = true := hd 2 (by decide)
    have t3 : l3 = true := hd 3 (by decide)
    have t4 : l4 = true := hd 4 (by decide)
    have t5 : l5 = true := hd 5 (by decide)
    have t6 : l6 = true := hd 6 (by decide)
    have t7 : l7 = true := hd 7 (by decide)
    have t8 : l8 = true := hd 8 (by decide)
    have t9 : l9 = true := hd 9 (by decide)
    clear hd hL hall
    subst t0 t1 t2 t3 t4 t5 t6 t7 t8 t9
    simp only [cond_true, List.setIfInBounds_toArray, List.set_cons_zero, List.set_cons_succ] at ha hv
    subst ha
    subst hv
    replace hx4 := hx4 rfl
    replace r0 := cell_later hu r0
    replace r1 := cell_later hu r1
    replace hw6 : Below w.heap.size w uu := bl_step hu hw6
    obtain ⟨ed, ef⟩ := hx4
    have en : ∀ a, EA = some a → a.block ≠ w.heap.size + 1 + 1 := fun a e => by have := ef a e; omega
    go_wp2
    exact bodyPost_ret (v := .agg #[.slice EA En Ec, .bool (sgb En b2)]) (by first | (simp only [results, Tryz.results51]; go_simp; done) | simp [results, Tryz.results51, go_sem, *]) rfl ⟨EA, En, Ec, rfl, (ed.store ⟨w.heap.size + 1 + 1, 0, none⟩ _ en).store ⟨w.heap.size + 1 + 1, 1, none⟩ _ en, ef.le hw0.size, by (repeat (first | (with_reducible exact Below.refl _ _) | (with_reducible refine Below.setCell ?_ (by (first | (simp; done) | (simp; omega) | omega)) _) | (with_reducible refine bl_alloc ?_ _) | (with_reducible refine bl_drewN ?_) | (with_reducible refine bl_drew ?_) | (with_reducible refine bl_step (by assumption) ?_)))⟩

end Go.Proofs.YtjceofmhodcefaaGreat

namespace Go.Proofs.YtjceofmhodcefaaGreat
open Go.RowKit

theorem sgb_is {w : World} {A : Option Addr} {n c z : Nat} {b s : Bool} (h : Dig w A n c z) (h0 : z = 0 → s = false) (h1 : z ≠ 0 → s = b) : sgb n b = s := by
  unfold sgb
  by_cases e : n = 0
  · rw [if_pos e, h0 (h.pos.1 e)]
  · rw [if_neg e, h1 (fun k => e (h.pos.2 k))]
theorem num_of {w : World} {z : Nat} {f : Nat → Bool} {e : Ending} {w' : World} {v : Int} (h : SgRes w z f e w') (hz : z = v.natAbs) (hf : ∀ {A : Option Addr} {n c : Nat}, Dig w' A n c z → f n = decide (v < 0)) : NumRes w v e w' := by
  obtain ⟨A, n, c, rfl, hd, hfr, hb⟩ := h
  exact ⟨A, n, c, _, rfl, by rw [← hz]; exact hd, hf hd, hfr, hb⟩
theorem plus02_num (A1 A2 : Option Addr) (n1 n2 c1 c2 : Nat) (x y : Int) (w : World) (h1 : Dig w A1 n1 c1 x.natAbs) (h2 : Dig w A2 n2 c2 y.natAbs) (hx : x.natAbs < pw 30) (hy : y.natAbs < pw 30) :
    Calls Tryz.prog 51 #[.agg #[.slice A1 n1 c1, .bool (decide (x < 0))], .agg #[.slice A2 n2 c2, .bool (decide (y < 0))]] w (NumRes w (x + y)) := by
  by_cases hs : decide (x < 0) = decide (y < 0)
  · refine (plus02_sum A1 A2 n1 n2 c1 c2 _ _ _ _ w h1 h2 hx hy hs).mono fun e w' h => num_of h ?_ fun _ => ?_
    · have := decide_eq_decide.1 hs; omega
    · have := decide_eq_decide.1 hs
      rw [decide_eq_decide]; omega
  · have hd : (decide (x < 0) == decide (y < 0)) = false := by simpa using hs
    have hne : ¬ (x < 0 ↔ y < 0) := fun k => hs (decide_eq_decide.2 k)
    by_cases hc : y.natAbs ≤ x.natAbs
    · refine (plus02_less1 A1 A2 n1 n2 c1 c2 _ _ _ _ w h1 h2 hx hy hd hc).mono fun e w' h => num_of h ?_ fun hz => sgb_is hz (fun k => ?_) (fun k => ?_)
      · omega
      · rw [decide_eq_false_iff_not]; omega
      · rw [decide_eq_decide]; omega
    · refine (plus02_less2 A1 A2 n1 n2 c1 c2 _ _ _ _ w h1 h2 hx hy hd (by omega)).mono fun e w' h => num_of h ?_ fun hz => sgb_is hz (fun k => ?_) (fun k => ?_)
      · omega
      · omega
      · rw [decide_eq_decide]; omega
theorem minus02_num (A : Option Addr) (n c : Nat) (x : Int) (w : World) (h : Dig w A n c x.natAbs) :
    Calls Tryz.prog 54 #[.agg #[.slice A n c, .bool (decide (x < 0))]] w fun e w' => e = .returned (.agg #[.slice A n c, .bool (decide (-x < 0))]) ∧ Below w.heap.size w w' := by
  rw [← sgb_is (b := !decide (x < 0)) (s := decide (-x < 0)) h (fun k => by rw [decide_eq_false_iff_not]; omega) (fun k => by rw [← decide_not, decide_eq_decide]; omega)]
  exact minus02_any A n c _ w

set_option maxRecDepth 100000 in
set_option maxHeartbeats 4000000 in
theorem mul02_any (A1 A2 : Option Addr) (n1 n2 c1 c2 x y : Nat) (b1 b2 : Bool) (w : World) (h1 : Dig w A1 n1 c1 x) (h2 : Dig w A2 n2 c2 y) (q1 : n1 ≤ 40) (q2 : n2 ≤ 40) :
    Calls Tryz.prog 52 #[.agg #[.slice A1 n1 c1, .bool b1], .agg #[.slice A2 n2 c2, .bool b2]] w (SgRes w (x * y) fun n => sgb n (!(b1 == b2))) := by
  go_enter Tryz.func52, Tryz.ntmps52
  go_wp2
  (refine name_below ?_; intro w' hb; (try replace hb := below_undrew hb); (try replace hb := below_undrewN hb); obtain ⟨hcell, hfroz⟩ := bcell hb; have hz := hb.size; (try simp at hz); (try (have z6 := Nat.lt_of_lt_of_le z7 hz)); (try (have z7 := Nat.lt_of_lt_of_le z8 hz)); (try (have z8 := Nat.lt_of_lt_of_le z9 hz)); (try (have z9 := Nat.lt_of_lt_of_le (Nat.lt_succ_self _) hz)); (try (have z0 : w.heap.size < w'.heap.size := by omega)); (try (have z1 : w.heap.size + 1 < w'.heap.size := by omega)); (try (have z2 : w.heap.size + 1 + 1 < w'.heap.size := by omega)); (try (have z3 : w.heap.size + 1 + 1 + 1 < w'.heap.size := by omega)); (try (have y7 : w7.heap.size < w'.heap.size := by omega)); (try (have z70 : w7.heap.size < w'.heap.size + 1 := by omega)))
  have hw6 : Below w.heap.size w w' := by (repeat (first | (with_reducible exact Below.refl _ _) | (with_reducible refine Below.setCell ?_ (by (first | (simp; done) | (simp; omega) | omega)) _) | (with_reducible refine bl_alloc ?_ _) | (with_reducible refine bl_drewN ?_) | (with_reducible refine bl_drew ?_) | (with_reducible refine bl_step (by assumption) ?_)))
  have c0 : w'.cell? ⟨w.heap.size, 0, none⟩ = some (.slice A1 n1 c1) := by simp [go_sem, *]
  have c1x : w'.cell? ⟨w.heap.size, 1, none⟩ = some (.bool b1) := by simp [go_sem, *]
  have d0 : w'.cell? ⟨w.heap.size + 1, 0, none⟩ = some (.slice A2 n2 c2) := by simp [go_sem, *]
  have d1 : w'.cell? ⟨w.heap.size + 1, 1, none⟩ = some (.bool b2) := by simp [go_sem, *]
  have r0 : w'.cell? ⟨w.heap.size + 1 + 1, 0, none⟩ = some (.slice none 0 0) := by simp [go_sem, *]
  have r1 : w'.cell? ⟨w.heap.size + 1 + 1, 1, none⟩ = some (.bool false) := by simp [go_sem, *]
  have cf : ∀ o, w'.frozen? ⟨w.heap.size + 1 + 1, o, none⟩ = false := by intro o; simp [go_sem, *]
  clear hcell hfroz hz
  have hw0 := hw6
  obtain ⟨w7, rfl⟩ : ∃ v, v = w' := ⟨_, rfl⟩
  replace h1 := h1.below hw6
  replace h2 := h2.below hw6
  have hb3 : w.heap.size + 1 + 1 < w7.heap.size := World.block_lt_of_cell? _ _ r0
  refine wp_region_inv (fun a0 LL aa vv => ∃ (l0 l1 l2 l3 l4 l5 l6 l7 l8 l9 l10 l11 l12 : Bool) (uu : World) (EA : Option Addr) (En : Nat) (Ec : Nat), LL = #[l0, l1, l2, l3, l4, l5, l6, l7, l8, l9, l10, l11, l12] ∧ aa = { a0 with tmps := ((((((((((((a0.tmps.setIfInBounds 5 (cond l0 (.pointer (some ⟨w.heap.size, 0, none⟩)) (undef))).setIfInBounds 6 (cond l1 (.slice A1 n1 c1) (undef))).setIfInBounds 7 (cond l2 (.pointer (some ⟨w.heap.size + 1, 0, none⟩)) (undef))).setIfInBounds 8 (cond l3 (.slice A2 n2 c2) (undef))).setIfInBounds 9 (cond l4 (.slice EA En Ec) (undef))).setIfInBounds 10 (cond l5 (.pointer (some ⟨w.heap.size, 1, none⟩)) (undef))).setIfInBounds 11 (cond l6 (.bool b1) (undef))).setIfInBounds 12 (cond l7 (.pointer (some ⟨w.heap.size + 1, 1, none⟩)) (undef))).setIfInBounds 13 (cond l8 (.bool b2) (undef))).setIfInBounds 14 (cond l9 (.bool (!(b1 == b2))) (undef))).setIfInBounds 15 (cond l10 (.agg #[.slice EA En Ec, .bool (!(b1 == b2))]) (undef))).setIfInBounds 16 (cond l11 (.agg #[.slice EA En Ec, .bool (sgb En (!(b1 == b2)))]) (undef))) } ∧ (l12 = true → l0 = true ∧ l1 = true ∧ l2 = true ∧ l3 = true ∧ l4 = true ∧ l5 = true ∧ l6 = true ∧ l7 = true ∧ l8 = true ∧ l9 = true ∧ l10 = true ∧ l11 = true) ∧ Below w7.heap.size w7 uu ∧ (l10 = true → l4 = true) ∧ (l11 = true → l4 = true) ∧ (l4 = true → Dig uu EA En Ec (x * y) ∧ Fr w7.heap.size EA) ∧ vv = cond l12 ((uu.setCell ⟨w.heap.size + 1 + 1, 0, none⟩ (.slice EA En Ec)).setCell ⟨w.heap.size + 1 + 1, 1, none⟩ (.bool (sgb En (!(b1 == b2))))) uu) (by kernel_rfl) (by kernel_rfl) ?h0 ?hsize ?hdone ?hstep
  case h0 =>
    refine ⟨false, false, false, false, false, false, false, false, false, false, false, false, false, _, none, 0, 0, rfl, ?_, (fun h => by cases h), by (repeat (first | exact Below.refl _ _ | refine bl_drewN ?_ | refine bl_drew ?_ | refine bl_alloc ?_ _ | refine Below.setCell ?_ (by (first | (simp; done) | (simp; omega) | omega)) _ | refine bl_step (by assumption) ?_)), (fun h => by cases h), (fun h => by cases h), (fun h => by cases h), rfl⟩
    simp only [cond_false, List.setIfInBounds_toArray, List.set_cons_zero, List.set_cons_succ]
  case hsize =>
    intro LL aa vv h
    obtain ⟨l0, l1, l2, l3, l4, l5, l6, l7, l8, l9, l10, l11, l12, uu, EA, En, Ec, hL, _⟩ := h
    rw [hL]
    rfl
  case hstep =>
    intro LL aa vv h
    obtain ⟨l0, l1, l2, l3, l4, l5, l6, l7, l8, l9, l10, l11, l12, uu, EA, En, Ec, hL, ha, hall, hu, ho4_10, ho4_11, hx4, hv⟩ := h
    simp only [List.setIfInBounds_toArray, List.set_cons_zero, List.set_cons_succ] at ha
    subst hL
    subst ha
    refine ⟨?s0, ?s1, ?s2, ?s3, ?s4, ?s5, ?s6, ?s7, ?s8, ?s9, ?s10, ?s11, ?s12, trivial⟩
    case s0 =>
      intro ff gg KK hK
      have f0 : l0 = false := ff
      cases hl : l12
      case true =>
        have := (hall hl).1
        rw [f0] at this
        cases this
      rw [hl] at hv
      simp only [cond_false] at hv
      subst hv
      clear ff gg
      subst hl
      subst f0
      simp only [cond_false]
      go_simp
      exact hK _ _ ⟨true, l1, l2, l3, l4, l5, l6, l7, l8, l9, l10, l11, false, _, EA, En, Ec, rfl, (by simp only [cond_true, List.setIfInBounds_toArray, List.set_cons_zero, List.set_cons_succ]), (fun h => by cases h), hu, ho4_10, ho4_11, hx4, rfl⟩
    case s1 =>
      intro ff gg KK hK
      have f0 : l1 = false := ff
      cases hl : l12
      case true =>
        have := (hall hl).2.1
        rw [f0] at this
        cases this
      rw [hl] at hv
      simp only [cond_false] at hv
      subst hv
      have t0 : l0 = true := gg ⟨0, .data⟩ (by simp) (by rfl)
      clear ff gg
      subst t0
      subst hl
      subst f0
      simp only [cond_true, cond_false]
      have k0 := cell_later hu c0
      go_simp
      exact hK _ _ ⟨true, true, l2, l3, l4, l5, l6, l7, l8, l9, l10, l11, false, _, EA, En, Ec, rfl, (by simp only [cond_true, List.setIfInBounds_toArray, List.set_cons_zero, List.set_cons_succ]), (fun h => by cases h), hu, ho4_10, ho4_11, hx4, rfl⟩
    case s2 =>
      intro ff gg KK hK
      have f0 : l2 = false := ff
      cases hl : l12
      case true =>
        have := (hall hl).2.2.1
        rw [f0] at this
        cases this
      rw [hl] at hv
      simp only [cond_false] at hv
      subst hv
      clear ff gg
      subst hl
      subst f0
      simp only [cond_false]
      go_simp
      exact hK _ _ ⟨l0, l1, true, l3, l4, l5, l6, l7, l8, l9, l10, l11, false, _, EA, En, Ec, rfl, (by simp only [cond_true, List.setIfInBounds_toArray, List.set_cons_zero, List.set_cons_succ]), (fun h => by cases h), hu, ho4_10, ho4_11, hx4, rfl⟩
    case s3 =>
      intro ff gg KK hK
      have f0 : l3 = false := ff
      cases hl : l12
      case true =>
        have := (hall hl).2.2.2.1
        rw [f0] at this
        cases this
      rw [hl] at hv
      simp only [cond_false] at hv
      subst hv
      have t2 : l2 = true := gg ⟨2, .data⟩ (by simp) (by rfl)
      clear ff gg
      subst t2
      subst hl
      subst f0
      simp only [cond_true, cond_false]
      have k0 := cell_later hu d0
      go_simp
      exact hK _ _ ⟨l0, l1, true, true, l4, l5, l6, l7, l8, l9, l10, l11, false, _, EA, En, Ec, rfl, (by simp only [cond_true, List.setIfInBounds_toArray, List.set_cons_zero, List.set_cons_succ]), (fun h => by cases h), hu, ho4_10, ho4_11, hx4, rfl⟩
    case s4 =>
      intro ff gg KK hK
      have f0 : l4 = false := ff
      cases hl : l12
      case true =>
        have := (hall hl).2.2.2.2.1
        rw [f0] at this
        cases this
      rw [hl] at hv
      simp only [cond_false] at hv
      subst hv
      have t1 : l1 = true := gg ⟨1, .data⟩ (by simp) (by rfl)
      have t3 : l3 = true := gg ⟨3, .data⟩ (by simp) (by rfl)
      clear ff gg
      subst t1 t3
      subst hl
      subst f0
      have fq10 : l10 = false := by cases hq : l10; rfl; exact absurd (ho4_10 hq) (by simp)
      subst fq10
      have fq11 : l11 = false := by cases hq : l11; rfl; exact absurd (ho4_11 hq) (by simp)
      subst fq11
      simp only [cond_true, cond_false]
      go_simp
      go_at_call 80
      with_reducible refine (times02_any _ _ _ _ _ _ _ _ _ (h1.below hu) (h2.below hu) q1 q2).mono ?_
      rintro e w' ⟨A', n', c', rfl, hd, hfr, hb⟩
      exact hK _ _ ⟨l0, true, l2, true, true, l5, l6, l7, l8, l9, false, false, false, _, A', n', c', rfl, (by simp only [cond_true, cond_false, List.setIfInBounds_toArray, List.set_cons_zero, List.set_cons_succ]), (fun h => by cases h), bl_step hb hu, (fun _ => rfl), (fun _ => rfl), (fun _ => ⟨hd, hfr.le hu.size⟩), rfl⟩
    case s5 =>
      intro ff gg KK hK
      have f0 : l5 = false := ff
      cases hl : l12
      case true =>
        have := (hall hl).2.2.2.2.2.1
        rw [f0] at this
        cases this
      rw [hl] at hv
      simp only [cond_false] at hv
      subst hv
      clear ff gg
      subst hl
      subst f0
      simp only [cond_false]
      go_simp
      exact hK _ _ ⟨l0, l1, l2, l3, l4, true, l6, l7, l8, l9, l10, l11, false, _, EA, En, Ec, rfl, (by simp only [cond_true, List.setIfInBounds_toArray, List.set_cons_zero, List.set_cons_succ]), (fun h => by cases h), hu, ho4_10, ho4_11, hx4, rfl⟩
    case s6 =>
      intro ff gg KK hK
      have f0 : l6 = false := ff
      cases hl : l12
      case true =>
        have := (hall hl).2.2.2.2.2.2.1
        rw [f0] at this
        cases this
      rw [hl] at hv
      simp only [cond_false] at hv
      subst hv
      have t5 : l5 = true := gg ⟨5, .data⟩ (by simp) (by rfl)
      clear ff gg
      subst t5
      subst hl
      subst f0
      simp only [cond_true, cond_false]
      have k0 := cell_later hu c1x
      go_simp
      exact hK _ _ ⟨l0, l1, l2, l3, l4, true, true, l7, l8, l9, l10, l11, false, _, EA, En, Ec, rfl, (by simp only [cond_true, List.setIfInBounds_toArray, List.set_cons_zero, List.set_cons_succ]), (fun h => by cases h), hu, ho4_10, ho4_11, hx4, rfl⟩
    case s7 =>
      intro ff gg KK hK
      have f0 : l7 = false := ff
      cases hl : l12
      case true =>
        have := (hall hl).2.2.2.2.2.2.2.1
        rw [f0] at this
        cases this
      rw [hl] at hv
      simp only [cond_false] at hv
      subst hv
      clear ff gg
      subst hl
      subst f0
      simp only [cond_false]
      go_simp
      exact hK _ _ ⟨l0, l1, l2, l3, l4, l5, l6, true, l8, l9, l10, l11, false, _, EA, En, Ec, rfl, (by simp only [cond_true, List.setIfInBounds_toArray, List.set_cons_zero, List.set_cons_succ]), (fun h => by cases h), hu, ho4_10, ho4_11, hx4, rfl⟩
    case s8 =>
      intro ff gg KK hK
      have f0 : l8 = false := ff
      cases hl : l12
      case true =>
        have := (hall hl).2.2.2.2.2.2.2.2.1
        rw [f0] at this
        cases this
      rw [hl] at hv
      simp only [cond_false] at hv
      subst hv
      have t7 : l7 = true := gg ⟨7, .data⟩ (by simp) (by rfl)
      clear ff gg
      subst t7
      subst hl
      subst f0
      simp only [cond_true, cond_false]
      have k0 := cell_later hu d1
      go_simp
      exact hK _ _ ⟨l0, l1, l2, l3, l4, l5, l6, true, true, l9, l10, l11, false, _, EA, En, Ec, rfl, (by simp only [cond_true, List.setIfInBounds_toArray, List.set_cons_zero, List.set_cons_succ]), (fun h => by cases h), hu, ho4_10, ho4_11, hx4, rfl⟩
    case s9 =>
      intro ff gg KK hK
      have f0 : l9 = false := ff
      cases hl : l12
      case true =>
        have := (hall hl).2.2.2.2.2.2.2.2.2.1
        rw [f0] at this
        cases this
      rw [hl] at hv
      simp only [cond_false] at hv
      subst hv
      have t6 : l6 = true := gg ⟨6, .data⟩ (by simp) (by rfl)
      have t8 : l8 = true := gg ⟨8, .data⟩ (by simp) (by rfl)
      clear ff gg
      subst t6 t8
      subst hl
      subst f0
      simp only [cond_true, cond_false]
      go_simp
      exact hK _ _ ⟨l0, l1, l2, l3, l4, l5, true, l7, true, true, l10, l11, false, _, EA, En, Ec, rfl, (by simp only [cond_true, List.setIfInBounds_toArray, List.set_cons_zero, List.set_cons_succ]), (fun h => by cases h), hu, ho4_10, ho4_11, hx4, rfl⟩
    case s10 =>
      intro ff gg KK hK
      have f0 : l10 = false := ff
      cases hl : l12
      case true =>
        have := (hall hl).2.2.2.2.2.2.2.2.2.2.1
        rw [f0] at this
        cases this
      rw [hl] at hv
      simp only [cond_false] at hv
      subst hv
      have t4 : l4 = true := gg ⟨4, .data⟩ (by simp) (by rfl)
      have t9 : l9 = true := gg ⟨9, .data⟩ (by simp) (by rfl)
      clear ff gg
      subst t4 t9
      subst hl
      subst f0
      simp only [cond_true, cond_false]
      go_simp
      exact hK _ _ ⟨l0, l1, l2, l3, true, l5, l6, l7, l8, true, true, l11, false, _, EA, En, Ec, rfl, (by simp only [cond_true, List.setIfInBounds_toArray, List.set_cons_zero, List.set_cons_succ]), (fun h => by cases h), hu, (fun _ => rfl), (fun _ => rfl), hx4, rfl⟩
    case s11 =>
      intro ff gg KK hK
      have f0 : l11 = false := ff
      cases hl : l12
      case true =>
        have := (hall hl).2.2.2.2.2.2.2.2.2.2.2
        rw [f0] at this
        cases this
      rw [hl] at hv
      simp only [cond_false] at hv
      subst hv
      have t10 : l10 = true := gg ⟨10, .data⟩ (by simp) (by rfl)
      clear ff gg
      subst t10
      subst hl
      subst f0
      have te4 : l4 = true := ho4_10 rfl
      subst te4
      simp only [cond_true, cond_false]
      go_simp
      go_at_call 78
      with_reducible refine (sign02_any _ _ _ _ _).mono ?_
      rintro e w' ⟨rfl, hb⟩
      exact hK _ _ ⟨l0, l1, l2, l3, true, l5, l6, l7, l8, l9, true, true, false, _, EA, En, Ec, rfl, (by simp only [cond_true, List.setIfInBounds_toArray, List.set_cons_zero, List.set_cons_succ]), (fun h => by cases h), bl_step hb hu, (fun _ => rfl), (fun _ => rfl), (fun t => ⟨(hx4 t).1.below hb, (hx4 t).2⟩), rfl⟩
    case s12 =>
      intro ff gg KK hK
      have t11 : l11 = true := gg ⟨11, .data⟩ (by simp) (by rfl)
      have t0 : l0 = true := gg ⟨0, .phase⟩ (by simp) (by rfl)
      have t1 : l1 = true := gg ⟨1, .phase⟩ (by simp) (by rfl)
      have t2 : l2 = true := gg ⟨2, .phase⟩ (by simp) (by rfl)
      have t3 : l3 = true := gg ⟨3, .phase⟩ (by simp) (by rfl)
      have t4 : l4 = true := gg ⟨4, .phase⟩ (by simp) (by rfl)
      have t5 : l5 = true := gg ⟨5, .phase⟩ (by simp) (by rfl)
      have t6 : l6 = true := gg ⟨6, .phase⟩ (by simp) (by rfl)
      have t7 : l7 = true := gg ⟨7, .phase⟩ (by simp) (by rfl)
      have t8 : l8 = true := gg ⟨8, .phase⟩ (by simp) (by rfl)
      have t9 : l9 = true := gg ⟨9, .phase⟩ (by simp) (by rfl)
      have t10 : l10 = true := gg ⟨10, .phase⟩ (by simp) (by rfl)
      have f0 : l12 = false := ff
      clear ff gg
      subst t11 t0 t1 t2 t3 t4 t5 t6 t7 t8 t9 t10
      subst f0
      simp only [cond_false] at hv
      subst hv
      simp only [cond_true]
      have k0 := cell_later hu r0
      have k1 := cell_later hu r1
      have k2 : vv.frozen? ⟨w.heap.size + 1 + 1, 0, none⟩ = false := (hu.frozen (p := ⟨w.heap.size + 1 + 1, 0, none⟩) hb3).trans (cf 0)
      have k3 : vv.frozen? ⟨w.heap.size + 1 + 1, 1, none⟩ = false := (hu.frozen (p := ⟨w.heap.size + 1 + 1, 1, none⟩) hb3).trans (cf 1)
      go_simp
      exact hK _ _ ⟨true, true, true, true, true, true, true, true, true, true, true, true, true, _, EA, En, Ec, rfl, (by simp only [cond_true, List.setIfInBounds_toArray, List.set_cons_zero, List.set_cons_succ]), (fun _ => ⟨rfl, rfl, rfl, rfl, rfl, rfl, rfl, rfl, rfl, rfl, rfl, rfl⟩), hu, (fun _ => rfl), (fun _ => rfl), hx4, rfl⟩
  case hdone =>
    intro LL aa vv h hd
    obtain ⟨l0, l1, l2, l3, l4, l5, l6, l7, l8, l9, l10, l11, l12, uu, EA, En, Ec, hL, ha, hall, hu, ho4_10, ho4_11, hx4, hv⟩ := h
    rw [hL] at hd
    have t0 : l0 = true := hd 0 (by decide)
    have t1 : l1 = true := hd 1 (by decide)
    have t2 : l2 = true := hd 2 (by decide)
    have t3 : l3 = true := hd 3 (by decide)
    have t4 : l4 = true := hd 4 (by decide)
    have t5 : l5 = true := hd 5 (by decide)
    have t6 : l6 = true := hd 6 (by decide)
    have t7 : l7 = true := hd 7 (by decide)
    have t8 : l8 = true := hd 8 (by decide)
    have t9 : l9 = true := hd 9 (by decide)
    have t10 : l10 = true := hd 10 (by decide)
    have t11 : l11 = true := hd 11 (by decide)
    have t12 : l12 = true := hd 12 (by decide)
    clear hd hL hall
    subst t0 t1 t2 t3 t4 t5 t6 t7 t8 t9 t10 t11 t12
    simp only [cond_true, List.setIfInBounds_toArray, List.set_cons_zero, List.set_cons_succ] at ha hv
    subst ha
    subst hv
    replace hx4 := hx4 rfl
    replace r0 := cell_later hu r0
    replace r1 := cell_later hu r1
    replace hw6 : Below w.heap.size w uu := bl_step hu hw6
    obtain ⟨ed, ef⟩ := hx4
    have en : ∀ a, EA = some a → a.block ≠ w.heap.size + 1 + 1 := fun a e => by have := ef a e; omega
    go_wp2
    exact bodyPost_ret (v := .agg #[.slice EA En Ec, .bool (sgb En (!(b1 == b2)))]) (by first | (simp only [results, Tryz.results52]; go_simp; done) | simp [results, Tryz.results52, go_sem, *]) rfl ⟨EA, En, Ec, rfl, (ed.store ⟨w.heap.size + 1 + 1, 0, none⟩ _ en).store ⟨w.heap.size + 1 + 1, 1, none⟩ _ en, ef.le hw0.size, by (repeat (first | (with_reducible exact Below.refl _ _) | (with_reducible refine Below.setCell ?_ (by (first | (simp; done) | (simp; omega) | omega)) _) | (with_reducible refine bl_alloc ?_ _) | (with_reducible refine bl_drewN ?_) | (with_reducible refine bl_drew ?_) | (with_reducible refine bl_step (by assumption) ?_)))⟩

theorem mul02_num (A1 A2 : Option Addr) (n1 n2 c1 c2 : Nat) (x y : Int) (w : World) (h1 : Dig w A1 n1 c1 x.natAbs) (h2 : Dig w A2 n2 c2 y.natAbs) (hx : x.natAbs < pw 30) (hy : y.natAbs < pw 30) :
    Calls Tryz.prog 52 #[.agg #[.slice A1 n1 c1, .bool (decide (x < 0))], .agg #[.slice A2 n2 c2, .bool (decide (y < 0))]] w (NumRes w (x * y)) := by
  have l1 := h1.few hx
  have l2 := h2.few hy
  refine (mul02_any A1 A2 n1 n2 c1 c2 _ _ _ _ w h1 h2 (by omega) (by omega)).mono fun e w' h => num_of h (Int.natAbs_mul x y).symm fun hz => sgb_is hz (fun k => ?_) (fun k => ?_)
  · rw [← Int.natAbs_mul] at k
    rw [Int.natAbs_eq_zero.1 k]; rfl
  · have x0 : x ≠ 0 := fun e => k (by rw [e]; simp)
    have y0 : y ≠ 0 := fun e => k (by rw [e]; simp)
    rcases Int.lt_or_gt_of_ne x0 with h3 | h3 <;> rcases Int.lt_or_gt_of_ne y0 with h4 | h4
    · have := Int.mul_pos_of_neg_of_neg h3 h4; simp [h3, h4]; omega
    · have := Int.mul_neg_of_neg_of_pos h3 h4; have h5 : ¬ y < 0 := by omega
      simp [h3, h5, this]
    · have := Int.mul_neg_of_pos_of_neg h3 h4; have h5 : ¬ x < 0 := by omega
      simp [h4, h5, this]
    · have := Int.mul_pos h3 h4; have h5 : ¬ y < 0 := by omega
      have h6 : ¬ x < 0 := by omega
      simp [h5, h6]; omega

end Go.Proofs.YtjceofmhodcefaaGreat

namespace Go.Proofs.YtjceofmhodcefaaGreat
open Go.RowKit

def RoomV2 (w0 w : World) (B : Nat) (d : Bool) (v0 v1 : Value) : Prop :=
  w0.heap.size ≤ B ∧ B < w.heap.size ∧ w.frozen? ⟨B, 0, none⟩ = false ∧ w.frozen? ⟨B, 1, none⟩ = false ∧ ∃ x0 x1, w.cell? ⟨B, 0, none⟩ = some x0 ∧ w.cell? ⟨B, 1, none⟩ = some x1 ∧ (d = true → x0 = v0 ∧ x1 = v1)
theorem RoomV2.later {w0 w w' : World} {B : Nat} {d : Bool} {v0 v1 : Value} (hb : Below w.heap.size w w') (h : RoomV2 w0 w B d v0 v1) : RoomV2 w0 w' B d v0 v1 := by
  obtain ⟨h1, h2, f0, f1, x0, x1, c0, c1, h7⟩ := h
  exact ⟨h1, Nat.lt_of_lt_of_le h2 hb.size, (hb.frozen (p := ⟨B, 0, none⟩) h2).trans f0, (hb.frozen (p := ⟨B, 1, none⟩) h2).trans f1, x0, x1, (hb.cell (p := ⟨B, 0, none⟩) h2).trans c0, (hb.cell (p := ⟨B, 1, none⟩) h2).trans c1, h7⟩
theorem RoomV2.chg {w0 w : World} {B : Nat} {v0 v1 u0 u1 : Value} (h : RoomV2 w0 w B false v0 v1) : RoomV2 w0 w B false u0 u1 := by
  obtain ⟨h1, h2, f0, f1, x0, x1, c0, c1, h7⟩ := h
  exact ⟨h1, h2, f0, f1, x0, x1, c0, c1, fun e => by cases e⟩
theorem RoomV2.alloc {w0 w : World} (h : Below w0.heap.size w0 w) (x0 x1 : Value) (t : Nat) (d : Bool) (v0 v1 : Value) (hd : d = true → False) : RoomV2 w0 (w.alloc (Obj.cells #[x0, x1] t)) w.heap.size d v0 v1 :=
  ⟨h.size, by simp [go_sem], by simp [go_sem], by simp [go_sem], x0, x1, by simp [go_sem], by simp [go_sem], fun e => (hd e).elim⟩
theorem RoomV2.store {w0 w : World} {B : Nat} {d : Bool} {v0 v1 : Value} (u0 u1 : Value) (h : RoomV2 w0 w B d v0 v1) (d' : Bool) : RoomV2 w0 ((w.setCell ⟨B, 0, none⟩ u0).setCell ⟨B, 1, none⟩ u1) B d' u0 u1 := by
  obtain ⟨h1, h2, f0, f1, x0, x1, c0, c1, h7⟩ := h
  refine ⟨h1, by simpa using h2, by simpa using f0, by simpa using f1, u0, u1, ?_, ?_, fun _ => ⟨rfl, rfl⟩⟩
  · simp [go_sem, *]
  · simp [go_sem, *]
/-- digits that a call returned behind W, and a block that does not hold them -/
def DP (W v : World) (A : Option Addr) (n c z : Nat) (al : Bool) (E : Nat) : Prop := Dig v A n c z ∧ Fr W.heap.size A ∧ (al = true → ∀ a, A = some a → a.block ≠ E)
theorem DP.later {W v w' : World} {A : Option Addr} {n c z : Nat} {al : Bool} {E : Nat} (h : DP W v A n c z al E) (hb : Below v.heap.size v w') : DP W w' A n c z al E := ⟨h.1.below hb, h.2⟩
theorem DP.alloc {W v : World} {A : Option Addr} {n c z : Nat} {al : Bool} {E : Nat} (h : DP W v A n c z al E) (o : Obj) : DP W (v.alloc o) A n c z true v.heap.size :=
  ⟨h.1.below ((Below.refl _ _).alloc (Nat.le_refl _) o), h.2.1, fun _ a e => by have := h.1.lt a e; omega⟩
theorem DP.intro {W v w' : World} {A : Option Addr} {n c z : Nat} {al : Bool} {E : Nat} (hd : Dig w' A n c z) (hf : Fr v.heap.size A) (hW : W.heap.size ≤ v.heap.size) (hE : al = true → E < v.heap.size) : DP W w' A n c z al E :=
  ⟨hd, hf.le hW, fun t a e => by have := hE t; have := hf a e; omega⟩
theorem DP.store {W v : World} {A : Option Addr} {n c z : Nat} {E : Nat} (h : DP W v A n c z true E) (p : Addr) (u : Value) (hp : p.block = E) : DP W (v.setCell p u) A n c z true E :=
  ⟨h.1.store p u (fun a e => by rw [hp]; exact h.2.2 rfl a e), h.2⟩

def cmpI (x y : Int) : Int := if x < y then -1 else if x = y then 0 else 1
set_option maxRecDepth 100000 in
set_option maxHeartbeats 4000000 in
theorem compare02_any (A1 A2 : Option Addr) (n1 n2 c1 c2 : Nat) (x y : Int) (w : World) (h1 : Dig w A1 n1 c1 x.natAbs) (h2 : Dig w A2 n2 c2 y.natAbs) (hx : x.natAbs < pw 30) (hy : y.natAbs < pw 30) :
    Calls Tryz.prog 81 #[.agg #[.slice A1 n1 c1, .bool (decide (x < 0))], .agg #[.slice A2 n2 c2, .bool (decide (y < 0))]] w fun e w' => e = .returned (.int .i64 (cmpI x y)) ∧ Below w.heap.size w w' := by
  obtain ⟨b1, e1⟩ : ∃ b1, decide (x < 0) = b1 := ⟨_, rfl⟩
  obtain ⟨b2, e2⟩ : ∃ b2, decide (y < 0) = b2 := ⟨_, rfl⟩
  obtain ⟨b3, e3⟩ : ∃ b3, decide (-y < 0) = b3 := ⟨_, rfl⟩
  obtain ⟨b4, e4⟩ : ∃ b4, decide (x + -y < 0) = b4 := ⟨_, rfl⟩
  have MI := fun v (h : Below w.heap.size w v) => minus02_num A2 n2 c2 y v (h2.below h)
  have PL := fun v (h : Below w.heap.size w v) => plus02_num A1 A2 n1 n2 c1 c2 x (-y) v (h1.below h) (by rw [Int.natAbs_neg]; exact h2.below h) hx (by rw [Int.natAbs_neg]; exact hy)
  unfold NumRes at PL
  rw [e1, e3, e4] at PL
  rw [e2, e3] at MI
  rw [e1, e2]
  have C : Hid ((x + -y).natAbs = 0 → cmpI x y = 0) := by intro h; unfold cmpI; rw [if_neg (by omega), if_pos (by omega)]
  have C2 : Hid ((x + -y).natAbs ≠ 0 → b4 = true → cmpI x y = -1) := by intro h k; rw [k] at e4; have := of_decide_eq_true e4; unfold cmpI; rw [if_pos (by omega)]
  have C3 : Hid ((x + -y).natAbs ≠ 0 → b4 = false → cmpI x y = 1) := by intro h k; rw [k] at e4; have := of_decide_eq_false e4; unfold cmpI; rw [if_neg (by omega), if_neg (by omega)]
  generalize (x + -y).natAbs = Z at *
  replace MI := hidden MI
  replace PL := hidden PL
  clear e1 e2 e3 e4 h1 h2 hx hy
  go_enter Tryz.func81, Tryz.ntmps81
  go_wp2
  (refine name_below ?_; intro w' hb; (try replace hb := below_undrew hb); (try replace hb := below_undrewN hb); obtain ⟨hcell, hfroz⟩ := bcell hb; have hz := hb.size; (try simp at hz); (try (have z6 := Nat.lt_of_lt_of_le z7 hz)); (try (have z7 := Nat.lt_of_lt_of_le z8 hz)); (try (have z8 := Nat.lt_of_lt_of_le z9 hz)); (try (have z9 := Nat.lt_of_lt_of_le (Nat.lt_succ_self _) hz)); (try (have z0 : w.heap.size < w'.heap.size := by omega)); (try (have z1 : w.heap.size + 1 < w'.heap.size := by omega)); (try (have z2 : w.heap.size + 1 + 1 < w'.heap.size := by omega)); (try (have z3 : w.heap.size + 1 + 1 + 1 < w'.heap.size := by omega)); (try (have y7 : w7.heap.size < w'.heap.size := by omega)); (try (have z70 : w7.heap.size < w'.heap.size + 1 := by omega)))
  have hw6 : Below w.heap.size w w' := by (repeat (first | (with_reducible exact Below.refl _ _) | (with_reducible refine Below.setCell ?_ (by (first | (simp; done) | (simp; omega) | omega)) _) | (with_reducible refine bl_alloc ?_ _) | (with_reducible refine bl_drewN ?_) | (with_reducible refine bl_drew ?_) | (with_reducible refine bl_step (by assumption) ?_)))
  have c0 : w'.cell? ⟨w.heap.size, 0, none⟩ = some (.slice A1 n1 c1) := by simp [go_sem, *]
  have c1x : w'.cell? ⟨w.heap.size, 1, none⟩ = some (.bool b1) := by simp [go_sem, *]
  have d0 : w'.cell? ⟨w.heap.size + 1, 0, none⟩ = some (.slice A2 n2 c2) := by simp [go_sem, *]
  have d1 : w'.cell? ⟨w.heap.size + 1, 1, none⟩ = some (.bool b2) := by simp [go_sem, *]
  clear hcell hfroz hz
  obtain ⟨w7, rfl⟩ : ∃ v, v = w' := ⟨_, rfl⟩
  refine wp_region_inv (fun a0 LL aa vv => ∃ (l0 l1 l2 l3 l4 l5 : Bool) (EE : Nat) (EA : Option Addr) (En : Nat) (Ec : Nat), LL = #[l0, l1, l2, l3, l4, l5] ∧ aa = { a0 with tmps := (((((a0.tmps.setIfInBounds 6 (cond l0 (.agg #[.slice A1 n1 c1, .bool b1]) (undef))).setIfInBounds 7 (cond l1 (.agg #[.slice A2 n2 c2, .bool b2]) (undef))).setIfInBounds 8 (cond l2 (.agg #[.slice A2 n2 c2, .bool b3]) (undef))).setIfInBounds 9 (cond l3 (.agg #[.slice EA En Ec, .bool b4]) (undef))).setIfInBounds 5 (cond l4 (.pointer (some ⟨EE, 0, none⟩)) (undef))) } ∧ Below w7.heap.size w7 vv ∧ (l5 = true → l4 = true) ∧ (l5 = true → l3 = true) ∧ (l3 = true → DP w7 vv EA En Ec Z l4 EE) ∧ (l4 = true → RoomV2 w7 vv EE l5 (.slice EA En Ec) (.bool b4))) (by kernel_rfl) (by kernel_rfl) ?h0 ?hsize ?hdone ?hstep
  case h0 =>
    refine ⟨false, false, false, false, false, false, 0, none, 0, 0, rfl, ?_, by (repeat (first | exact Below.refl _ _ | refine bl_drewN ?_ | refine bl_drew ?_ | refine bl_alloc ?_ _ | refine Below.setCell ?_ (by (first | (simp; done) | (simp; omega) | omega)) _ | refine bl_step (by assumption) ?_)), (fun h => by cases h), (fun h => by cases h), (fun h => by cases h), (fun h => by cases h)⟩
    simp only [cond_false, List.setIfInBounds_toArray, List.set_cons_zero, List.set_cons_succ]
  case hsize =>
    intro LL aa vv h
    obtain ⟨l0, l1, l2, l3, l4, l5, EE, EA, En, Ec, hL, _⟩ := h
    rw [hL]
    rfl
  case hstep =>
    intro LL aa vv h
    obtain ⟨l0, l1, l2, l3, l4, l5, EE, EA, En, Ec, hL, ha, hb0, hq, ho3_5, hx3, hr⟩ := h
    simp only [List.setIfInBounds_toArray, List.set_cons_zero, List.set_cons_succ] at ha
    subst hL
    subst ha
    refine ⟨?s0, ?s1, ?s2, ?s3, ?s4, ?s5, trivial⟩
    case s0 =>
      intro ff gg KK hK
      have f0 : l0 = false := ff
      clear ff gg
      subst f0
      simp only [cond_false]
      have k0 := cell_later hb0 c0
      have k1 := cell_later hb0 c1x
      go_simp
      exact hK _ _ ⟨true, l1, l2, l3, l4, l5, EE, EA, En, Ec, rfl, (by simp only [cond_true, List.setIfInBounds_toArray, List.set_cons_zero, List.set_cons_succ]), hb0, hq, ho3_5, hx3, hr⟩
    case s1 =>
      intro ff gg KK hK
      have f0 : l1 = false := ff
      clear ff gg
      subst f0
      simp only [cond_false]
      have k0 := cell_later hb0 d0
      have k1 := cell_later hb0 d1
      go_simp
      exact hK _ _ ⟨l0, true, l2, l3, l4, l5, EE, EA, En, Ec, rfl, (by simp only [cond_true, List.setIfInBounds_toArray, List.set_cons_zero, List.set_cons_succ]), hb0, hq, ho3_5, hx3, hr⟩
    case s2 =>
      intro ff gg KK hK
      have t1 : l1 = true := gg ⟨1, .data⟩ (by simp) (by rfl)
      have f0 : l2 = false := ff
      clear ff gg
      subst t1
      subst f0
      simp only [cond_true, cond_false]
      go_simp
      go_at_call 54
      with_reducible refine (MI.out _ (bl_step hb0 hw6)).mono ?_
      rintro e w' ⟨rfl, hb⟩
      exact hK _ _ ⟨l0, true, true, l3, l4, l5, EE, EA, En, Ec, rfl, (by simp only [cond_true, List.setIfInBounds_toArray, List.set_cons_zero, List.set_cons_succ]), bl_step hb hb0, hq, ho3_5, (fun t => (hx3 t).later hb), (fun t => (hr t).later hb)⟩
    case s3 =>
      intro ff gg KK hK
      have t0 : l0 = true := gg ⟨0, .data⟩ (by simp) (by rfl)
      have t2 : l2 = true := gg ⟨2, .data⟩ (by simp) (by rfl)
      have f0 : l3 = false := ff
      clear ff gg
      subst t0 t2
      subst f0
      have fq5 : l5 = false := by cases hq2 : l5; rfl; exact absurd (ho3_5 hq2) (by simp)
      subst fq5
      simp only [cond_true, cond_false]
      go_simp
      go_at_call 51
      with_reducible refine (PL.out _ (bl_step hb0 hw6)).mono ?_
      rintro e w' ⟨A', n', c', b', rfl, hd, rfl, hfr, hb⟩
      exact hK _ _ ⟨true, l1, true, true, l4, false, EE, A', n', c', rfl, (by simp only [cond_true, List.setIfInBounds_toArray, List.set_cons_zero, List.set_cons_succ]), bl_step hb hb0, (fun h => by cases h), (fun _ => rfl), (fun _ => DP.intro hd hfr hb0.size (fun t => (hr t).2.1)), (fun t => ((hr t).later hb).chg)⟩
    case s4 =>
      intro ff gg KK hK
      have f0 : l4 = false := ff
      clear ff gg
      subst f0
      have fs : l5 = false := by cases hq2 : l5; rfl; exact absurd (hq hq2) (by simp)
      subst fs
      simp only [cond_false]
      go_simp
      exact hK _ _ ⟨l0, l1, l2, l3, true, false, vv.heap.size, EA, En, Ec, rfl, (by simp only [cond_true, List.setIfInBounds_toArray, List.set_cons_zero, List.set_cons_succ]), by (repeat (first | exact Below.refl _ _ | refine bl_drewN ?_ | refine bl_drew ?_ | refine bl_alloc ?_ _ | refine Below.setCell ?_ (by (first | (simp; done) | (simp; omega) | omega)) _ | refine bl_step (by assumption) ?_)), (fun _ => rfl), ho3_5, (fun t => (hx3 t).alloc _), (fun _ => RoomV2.alloc hb0 _ _ _ _ _ _ (fun h => by cases h))⟩
    case s5 =>
      intro ff gg KK hK
      have t4 : l4 = true := gg ⟨4, .data⟩ (by simp) (by rfl)
      have t3 : l3 = true := gg ⟨3, .data⟩ (by simp) (by rfl)
      have f0 : l5 = false := ff
      clear ff gg
      subst t4 t3
      subst f0
      simp only [cond_true]
      have rr := hr rfl
      obtain ⟨m1, m2, fz0, fz1, y0, y1, cz0, cz1, m7⟩ := rr
      go_simp
      exact hK _ _ ⟨l0, l1, l2, true, true, true, EE, EA, En, Ec, rfl, (by simp only [cond_true, List.setIfInBounds_toArray, List.set_cons_zero, List.set_cons_succ]), ((hb0.setCell m1 _).setCell m1 _), (fun _ => rfl), (fun _ => rfl), (fun t => ((hx3 t).store _ _ rfl).store _ _ rfl), (fun _ => (hr rfl).store _ _ _)⟩
  case hdone =>
    intro LL aa vv h hd
    obtain ⟨l0, l1, l2, l3, l4, l5, EE, EA, En, Ec, hL, ha, hb0, hq, ho3_5, hx3, hr⟩ := h
    rw [hL] at hd
    have t0 : l0 = true := hd 0 (by decide)
    have t1 : l1 = true := hd 1 (by decide)
    have t2 : l2 = true := hd 2 (by decide)
    have t3 : l3 = true := hd 3 (by decide)
    have t4 : l4 = true := hd 4 (by decide)
    have t5 : l5 = true := hd 5 (by decide)
    clear hd hL hq ho3_5
    subst t0 t1 t2 t3 t4 t5
    simp only [cond_true, List.setIfInBounds_toArray, List.set_cons_zero, List.set_cons_succ] at ha
    subst ha
    obtain ⟨EEg, EEl, _, _, y0, y1, EEc0, EEc1, hy⟩ := hr rfl
    obtain ⟨rfl, rfl⟩ := hy rfl
    clear hr
    replace hx3 := hx3 rfl
    have DZ := hx3.1.pos
    replace hw6 : Below w.heap.size w vv := bl_step hb0 hw6
    clear hb0 hx3 MI PL
    by_cases z0 : Z = 0
    · obtain rfl : En = 0 := DZ.2 z0
      have R := hidden (C.out z0)
      clear C C2 C3 DZ z0
      go_wp2
      go_ret
      exact ⟨by rw [R.out]; rfl, hw6⟩
    · have ne : ((En : Int) == 0) = false := by simp; exact fun k => z0 (DZ.1 k)
      cases b4
      · have R := hidden (C3.out z0 rfl)
        clear C C2 C3 DZ z0
        go_wp2
        go_ret
        exact ⟨by rw [R.out]; rfl, hw6⟩
      · have R := hidden (C2.out z0 rfl)
        clear C C2 C3 DZ z0
        go_wp2
        go_ret
        exact ⟨by rw [R.out]; rfl, hw6⟩

end Go.Proofs.YtjceofmhodcefaaGreat
