/- Boxes of numbers in the statements of chapter 6: wide, of, one, plus, minus and meet. -/
import Derived.Test.YtoagcbamlnhkhaaNi
import Derived.BigQuiet
import Derived.OwnWalk
namespace Go.Proofs.Ytoagcbamlnhkhaa
open Go.RowKit

theorem ofint02_any (n : Int) (w : World) (n0 : -9223372036854775808 ≤ n) (n1 : n ≤ 9223372036854775807) : Calls Try.prog 52 #[.int .i64 n] w (NumRes w n) := by
  by_cases h : n < 0
  · exact ofint02_neg n w h n0 n1
  · exact ofint02_pos n w (by omega) n0 n1
theorem wide06_any (n : Int) (w : World) (n0 : -9223372036854775808 ≤ n) (n1 : n ≤ 9223372036854775807) : Calls Try.prog 38 #[.int .i64 n] w (NumRes w n) := by
  have O := fun v => ofint02_any n v n0 n1
  unfold NumRes at O
  obtain ⟨bb, eb⟩ : ∃ bb, decide (n < 0) = bb := ⟨_, rfl⟩
  rw [eb] at O
  replace O := hidden O
  have EB := hidden eb
  clear eb
  go_enter Try.func38, Try.ntmps38
  go_wp2_with (go_at_call 52; ((with_reducible refine (O.out _).mono ?_); rintro e w' ⟨A', n', c', b', rfl, hd, rfl, hfr, hb⟩); have HD := hidden hd; have HF := hidden hfr; clear hd hfr; (try replace hb := below_undrew hb); (try replace hb := below_undrewN hb); obtain ⟨hcell, hfroz⟩ := bcell hb; have hz := hb.size; (try simp at hz); (try (have z6 := Nat.lt_of_lt_of_le z7 hz)); (try (have z7 := Nat.lt_of_lt_of_le z8 hz)); (try (have z8 := Nat.lt_of_lt_of_le z9 hz)); (try (have z9 := Nat.lt_of_lt_of_le (Nat.lt_succ_self _) hz)); (try (have z0 : w.heap.size < w'.heap.size := by omega)); (try (have z1 : w.heap.size + 1 < w'.heap.size := by omega)); (try (have z2 : w.heap.size + 1 + 1 < w'.heap.size := by omega)); (try (have z3 : w.heap.size + 1 + 1 + 1 < w'.heap.size := by omega)); (try (have y1 : w1.heap.size < w'.heap.size := by omega)); (try (have y2 : w2.heap.size < w'.heap.size := by omega)); (try (have y3 : w3.heap.size < w'.heap.size := by omega)); (try (have y4 : w4.heap.size < w'.heap.size := by omega)); (try (have y5 : w5.heap.size < w'.heap.size := by omega)); (try (have y6 : w6.heap.size < w'.heap.size := by omega)); (try (have x1 : w1.heap.size + 1 < w'.heap.size := by omega)); (try (have x2 : w2.heap.size + 1 < w'.heap.size := by omega)); (try (have x3 : w3.heap.size + 1 < w'.heap.size := by omega)); (try (have x4 : w4.heap.size + 1 < w'.heap.size := by omega)); (try (have x5 : w5.heap.size + 1 < w'.heap.size := by omega)); (try (have x6 : w6.heap.size + 1 < w'.heap.size := by omega)); (try (have y7 : w7.heap.size < w'.heap.size := by omega)); (try (have y8 : w8.heap.size < w'.heap.size := by omega)); (try (have y9 : w9.heap.size < w'.heap.size := by omega)); (try (have z10 : w1.heap.size < w'.heap.size + 1 := by omega)); (try (have z20 : w2.heap.size < w'.heap.size + 1 := by omega)); (try (have z30 : w3.heap.size < w'.heap.size + 1 := by omega)); (try (have z40 : w4.heap.size < w'.heap.size + 1 := by omega)); (try (have z50 : w5.heap.size < w'.heap.size + 1 := by omega)); (try (have z60 : w6.heap.size < w'.heap.size + 1 := by omega)); (try (have z70 : w7.heap.size < w'.heap.size + 1 := by omega)); (try (have z80 : w8.heap.size < w'.heap.size + 1 := by omega)))
  have hne : ∀ a, A' = some a → a.block ≠ w.heap.size := fun a e => by have := HF.out a e; simp at this; omega
  exact bodyPost_ret (v := .agg #[.slice A' n' c', .bool b']) (by first | (simp only [results, Try.results38]; go_simp; done) | simp [results, Try.results38, go_sem, *]) rfl ⟨A', n', c', _, rfl, (HD.out.store ⟨w.heap.size, 0, none⟩ _ hne).store ⟨w.heap.size, 1, none⟩ _ hne, EB.out.symm, (HF.out.le (by simp)), by (repeat (first | (with_reducible exact Below.refl _ _) | (with_reducible refine Below.setCell ?_ (by (first | (simp; done) | (simp; omega) | omega)) _) | (with_reducible refine bl_alloc ?_ _) | (with_reducible refine bl_drewN ?_) | (with_reducible refine bl_drew ?_) | (with_reducible refine bl_step (by assumption) ?_)))⟩
/-- a box: two numbers -/
def BoxRes (w : World) (lo hi : Int) (e : Ending) (w' : World) : Prop := ∃ A n c b A2 n2 c2 b2, e = .returned (.agg #[.slice A n c, .bool b, .slice A2 n2 c2, .bool b2]) ∧ (Dig w' A n c lo.natAbs ∧ b = decide (lo < 0) ∧ Fr w.heap.size A) ∧ (Dig w' A2 n2 c2 hi.natAbs ∧ b2 = decide (hi < 0) ∧ Fr w.heap.size A2) ∧ Below w.heap.size w w'
set_option maxRecDepth 100000 in
set_option maxHeartbeats 4000000 in
theorem of06_any (lo hi : Int) (w : World) (l0 : -9223372036854775808 ≤ lo) (l1 : lo ≤ 9223372036854775807) (h0 : -9223372036854775808 ≤ hi) (h1 : hi ≤ 9223372036854775807) : Calls Try.prog 24 #[.agg #[.int .i64 (lo), .int .i64 (hi)]] w (BoxRes w lo hi) := by
  have WL := fun v => wide06_any lo v l0 l1
  have WH := fun v => wide06_any hi v h0 h1
  unfold NumRes at WL WH
  obtain ⟨b1, e1⟩ : ∃ b1, decide (lo < 0) = b1 := ⟨_, rfl⟩
  have E1 := hidden e1
  obtain ⟨b2, e2⟩ : ∃ b2, decide (hi < 0) = b2 := ⟨_, rfl⟩
  have E2 := hidden e2
  rw [e1] at WL
  rw [e2] at WH
  replace WL := hidden WL
  replace WH := hidden WH
  clear e1 e2 l0 l1 h0 h1
  go_enter Try.func24, Try.ntmps24
  go_wp2
  (refine name_below ?_; intro w' hb; (try replace hb := below_undrew hb); (try replace hb := below_undrewN hb); obtain ⟨hcell, hfroz⟩ := bcell hb; have hz := hb.size; (try simp at hz); (try (have z6 := Nat.lt_of_lt_of_le z7 hz)); (try (have z7 := Nat.lt_of_lt_of_le z8 hz)); (try (have z8 := Nat.lt_of_lt_of_le z9 hz)); (try (have z9 := Nat.lt_of_lt_of_le (Nat.lt_succ_self _) hz)); (try (have z0 : w.heap.size < w'.heap.size := by omega)); (try (have z1 : w.heap.size + 1 < w'.heap.size := by omega)); (try (have z2 : w.heap.size + 1 + 1 < w'.heap.size := by omega)); (try (have z3 : w.heap.size + 1 + 1 + 1 < w'.heap.size := by omega)); (try (have y1 : w1.heap.size < w'.heap.size := by omega)); (try (have y2 : w2.heap.size < w'.heap.size := by omega)); (try (have y3 : w3.heap.size < w'.heap.size := by omega)); (try (have y4 : w4.heap.size < w'.heap.size := by omega)); (try (have y5 : w5.heap.size < w'.heap.size := by omega)); (try (have y6 : w6.heap.size < w'.heap.size := by omega)); (try (have x1 : w1.heap.size + 1 < w'.heap.size := by omega)); (try (have x2 : w2.heap.size + 1 < w'.heap.size := by omega)); (try (have x3 : w3.heap.size + 1 < w'.heap.size := by omega)); (try (have x4 : w4.heap.size + 1 < w'.heap.size := by omega)); (try (have x5 : w5.heap.size + 1 < w'.heap.size := by omega)); (try (have x6 : w6.heap.size + 1 < w'.heap.size := by omega)); (try (have y7 : w7.heap.size < w'.heap.size := by omega)); (try (have y8 : w8.heap.size < w'.heap.size := by omega)); (try (have y9 : w9.heap.size < w'.heap.size := by omega)); (try (have z10 : w1.heap.size < w'.heap.size + 1 := by omega)); (try (have z20 : w2.heap.size < w'.heap.size + 1 := by omega)); (try (have z30 : w3.heap.size < w'.heap.size + 1 := by omega)); (try (have z40 : w4.heap.size < w'.heap.size + 1 := by omega)); (try (have z50 : w5.heap.size < w'.heap.size + 1 := by omega)); (try (have z60 : w6.heap.size < w'.heap.size + 1 := by omega)); (try (have z70 : w7.heap.size < w'.heap.size + 1 := by omega)); (try (have z80 : w8.heap.size < w'.heap.size + 1 := by omega)))
  have hw6 : Below w.heap.size w w' := by (repeat (first | (with_reducible exact Below.refl _ _) | (with_reducible refine Below.setCell ?_ (by (first | (simp; done) | (simp; omega) | omega)) _) | (with_reducible refine bl_alloc ?_ _) | (with_reducible refine bl_drewN ?_) | (with_reducible refine bl_drew ?_) | (with_reducible refine bl_step (by assumption) ?_)))
  have c0 : w'.cell? ⟨w.heap.size, 0, none⟩ = some (.int .i64 lo) := by simp [go_sem, *]
  have c1 : w'.cell? ⟨w.heap.size, 1, none⟩ = some (.int .i64 hi) := by simp [go_sem, *]
  have r0 : w'.cell? ⟨w.heap.size + 1, 0, none⟩ = some (.slice none 0 0) := by simp [go_sem, *]
  have r1 : w'.cell? ⟨w.heap.size + 1, 1, none⟩ = some (.bool false) := by simp [go_sem, *]
  have r2 : w'.cell? ⟨w.heap.size + 1, 2, none⟩ = some (.slice none 0 0) := by simp [go_sem, *]
  have r3 : w'.cell? ⟨w.heap.size + 1, 3, none⟩ = some (.bool false) := by simp [go_sem, *]
  have cf : ∀ o, w'.frozen? ⟨w.heap.size + 1, o, none⟩ = false := by intro o; simp [go_sem, *]
  clear hcell hfroz hz
  obtain ⟨w7, rfl⟩ : ∃ v, v = w' := ⟨_, rfl⟩
  have hw0 := hw6
  have hb3 : w.heap.size + 1 < w7.heap.size := World.block_lt_of_cell? _ _ r0
  refine wp_region_inv (fun a0 LL aa vv => ∃ (l0 l1 l2 l3 l4 l5 l6 l7 : Bool) (uu : World) (EA : Option Addr) (En : Nat) (Ec : Nat) (FA : Option Addr) (Fn : Nat) (Fc : Nat), LL = #[l0, l1, l2, l3, l4, l5, l6, l7] ∧ aa = { a0 with tmps := (((((((a0.tmps.setIfInBounds 3 (cond l0 (.pointer (some ⟨w.heap.size, 0, none⟩)) (undef))).setIfInBounds 4 (cond l1 (.int .i64 lo) (undef))).setIfInBounds 5 (cond l2 (.agg #[.slice EA En Ec, .bool b1]) (undef))).setIfInBounds 6 (cond l3 (.pointer (some ⟨w.heap.size, 1, none⟩)) (undef))).setIfInBounds 7 (cond l4 (.int .i64 hi) (undef))).setIfInBounds 8 (cond l5 (.agg #[.slice FA Fn Fc, .bool b2]) (undef))).setIfInBounds 9 (cond l6 (.agg #[.slice EA En Ec, .bool b1, .slice FA Fn Fc, .bool b2]) (undef))) } ∧ (l7 = true → l0 = true ∧ l1 = true ∧ l2 = true ∧ l3 = true ∧ l4 = true ∧ l5 = true ∧ l6 = true) ∧ Below w7.heap.size w7 uu ∧ (l6 = true → l2 = true) ∧ (l6 = true → l5 = true) ∧ (l2 = true → Dig uu EA En Ec (lo.natAbs) ∧ Fr w7.heap.size EA) ∧ (l5 = true → Dig uu FA Fn Fc (hi.natAbs) ∧ Fr w7.heap.size FA) ∧ vv = cond l7 ((((uu.setCell ⟨w.heap.size + 1, 0, none⟩ (.slice EA En Ec)).setCell ⟨w.heap.size + 1, 1, none⟩ (.bool b1)).setCell ⟨w.heap.size + 1, 2, none⟩ (.slice FA Fn Fc)).setCell ⟨w.heap.size + 1, 3, none⟩ (.bool b2)) uu) (by kernel_rfl) (by kernel_rfl) ?h0 ?hsize ?hdone ?hstep
  case h0 =>
    refine ⟨false, false, false, false, false, false, false, false, _, none, 0, 0, none, 0, 0, rfl, ?_, (fun h => by cases h), by (repeat (first | exact Below.refl _ _ | refine bl_drewN ?_ | refine bl_drew ?_ | refine bl_alloc ?_ _ | refine Below.setCell ?_ (by (first | (simp; done) | (simp; omega) | omega)) _ | refine bl_step (by assumption) ?_)), (fun h => by cases h), (fun h => by cases h), (fun h => by cases h), (fun h => by cases h), rfl⟩
    simp only [cond_false, List.setIfInBounds_toArray, List.set_cons_zero, List.set_cons_succ]
  case hsize =>
    intro LL aa vv h
    obtain ⟨l0, l1, l2, l3, l4, l5, l6, l7, uu, EA, En, Ec, FA, Fn, Fc, hL, _⟩ := h
    rw [hL]
    rfl
  case hstep =>
    intro LL aa vv h
    obtain ⟨l0, l1, l2, l3, l4, l5, l6, l7, uu, EA, En, Ec, FA, Fn, Fc, hL, ha, hall, hu, ho2_6, ho5_6, hx2, hx5, hv⟩ := h
    simp only [List.setIfInBounds_toArray, List.set_cons_zero, List.set_cons_succ] at ha
    subst hL
    subst ha
    refine ⟨?s0, ?s1, ?s2, ?s3, ?s4, ?s5, ?s6, ?s7, trivial⟩
    case s0 =>
      intro ff gg KK hK
      have f0 : l0 = false := ff
      cases hl : l7
      case true =>
        have := (hall hl).1
        rw [f0] at this
        cases this
      rw [hl] at hv
      simp only [cond_false] at hv
      subst hv
      clear ff gg
      subst hl
      subst f0
      simp only [cond_false]
      go_simp
      exact hK _ _ ⟨true, l1, l2, l3, l4, l5, l6, false, _, EA, En, Ec, FA, Fn, Fc, rfl, (by simp only [cond_true, List.setIfInBounds_toArray, List.set_cons_zero, List.set_cons_succ]), (fun h => by cases h), hu, ho2_6, ho5_6, hx2, hx5, rfl⟩
    case s1 =>
      intro ff gg KK hK
      have f0 : l1 = false := ff
      cases hl : l7
      case true =>
        have := (hall hl).2.1
        rw [f0] at this
        cases this
      rw [hl] at hv
      simp only [cond_false] at hv
      subst hv
      have t0 : l0 = true := gg ⟨0, .data⟩ (by simp) (by rfl)
      clear ff gg
      subst t0
      subst hl
      subst f0
      simp only [cond_true, cond_false]
      have k0 := cell_later hu c0
      go_simp
      exact hK _ _ ⟨true, true, l2, l3, l4, l5, l6, false, _, EA, En, Ec, FA, Fn, Fc, rfl, (by simp only [cond_true, List.setIfInBounds_toArray, List.set_cons_zero, List.set_cons_succ]), (fun h => by cases h), hu, ho2_6, ho5_6, hx2, hx5, rfl⟩
    case s2 =>
      intro ff gg KK hK
      have f0 : l2 = false := ff
      cases hl : l7
      case true =>
        have := (hall hl).2.2.1
        rw [f0] at this
        cases this
      rw [hl] at hv
      simp only [cond_false] at hv
      subst hv
      have t1 : l1 = true := gg ⟨1, .data⟩ (by simp) (by rfl)
      clear ff gg
      subst t1
      subst hl
      subst f0
      have fq6 : l6 = false := by cases hq : l6; rfl; exact absurd (ho2_6 hq) (by simp)
      subst fq6
      simp only [cond_true, cond_false]
      go_simp
      go_at_call 38
      with_reducible refine (WL.out _).mono ?_
      rintro e w' ⟨A', n', c', b', rfl, hd, rfl, hfr, hb⟩
      exact hK _ _ ⟨l0, true, true, l3, l4, l5, false, false, _, A', n', c', FA, Fn, Fc, rfl, (by simp only [cond_true, cond_false, List.setIfInBounds_toArray, List.set_cons_zero, List.set_cons_succ]), (fun h => by cases h), bl_step hb hu, (fun _ => rfl), ho5_6, (fun _ => ⟨hd, hfr.le hu.size⟩), (fun t => ⟨(hx5 t).1.below hb, (hx5 t).2⟩), rfl⟩
    case s3 =>
      intro ff gg KK hK
      have f0 : l3 = false := ff
      cases hl : l7
      case true =>
        have := (hall hl).2.2.2.1
        rw [f0] at this
        cases this
      rw [hl] at hv
      simp only [cond_false] at hv
      subst hv
      clear ff gg
      subst hl
      subst f0
      simp only [cond_false]
      go_simp
      exact hK _ _ ⟨l0, l1, l2, true, l4, l5, l6, false, _, EA, En, Ec, FA, Fn, Fc, rfl, (by simp only [cond_true, List.setIfInBounds_toArray, List.set_cons_zero, List.set_cons_succ]), (fun h => by cases h), hu, ho2_6, ho5_6, hx2, hx5, rfl⟩
    case s4 =>
      intro ff gg KK hK
      have f0 : l4 = false := ff
      cases hl : l7
      case true =>
        have := (hall hl).2.2.2.2.1
        rw [f0] at this
        cases this
      rw [hl] at hv
      simp only [cond_false] at hv
      subst hv
      have t3 : l3 = true := gg ⟨3, .data⟩ (by simp) (by rfl)
      clear ff gg
      subst t3
      subst hl
      subst f0
      simp only [cond_true, cond_false]
      have k0 := cell_later hu c1
      go_simp
      exact hK _ _ ⟨l0, l1, l2, true, true, l5, l6, false, _, EA, En, Ec, FA, Fn, Fc, rfl, (by simp only [cond_true, List.setIfInBounds_toArray, List.set_cons_zero, List.set_cons_succ]), (fun h => by cases h), hu, ho2_6, ho5_6, hx2, hx5, rfl⟩
    case s5 =>
      intro ff gg KK hK
      have f0 : l5 = false := ff
      cases hl : l7
      case true =>
        have := (hall hl).2.2.2.2.2.1
        rw [f0] at this
        cases this
      rw [hl] at hv
      simp only [cond_false] at hv
      subst hv
      have t4 : l4 = true := gg ⟨4, .data⟩ (by simp) (by rfl)
      clear ff gg
      subst t4
      subst hl
      subst f0
      have fq6 : l6 = false := by cases hq : l6; rfl; exact absurd (ho5_6 hq) (by simp)
      subst fq6
      simp only [cond_true, cond_false]
      go_simp
      go_at_call 38
      with_reducible refine (WH.out _).mono ?_
      rintro e w' ⟨A', n', c', b', rfl, hd, rfl, hfr, hb⟩
      exact hK _ _ ⟨l0, l1, l2, l3, true, true, false, false, _, EA, En, Ec, A', n', c', rfl, (by simp only [cond_true, cond_false, List.setIfInBounds_toArray, List.set_cons_zero, List.set_cons_succ]), (fun h => by cases h), bl_step hb hu, ho2_6, (fun _ => rfl), (fun t => ⟨(hx2 t).1.below hb, (hx2 t).2⟩), (fun _ => ⟨hd, hfr.le hu.size⟩), rfl⟩
    case s6 =>
      intro ff gg KK hK
      have f0 : l6 = false := ff
      cases hl : l7
      case true =>
        have := (hall hl).2.2.2.2.2.2
        rw [f0] at this
        cases this
      rw [hl] at hv
      simp only [cond_false] at hv
      subst hv
      have t2 : l2 = true := gg ⟨2, .data⟩ (by simp) (by rfl)
      have t5 : l5 = true := gg ⟨5, .data⟩ (by simp) (by rfl)
      clear ff gg
      subst t2 t5
      subst hl
      subst f0
      simp only [cond_true, cond_false]
      go_simp
      exact hK _ _ ⟨l0, l1, true, l3, l4, true, true, false, _, EA, En, Ec, FA, Fn, Fc, rfl, (by simp only [cond_true, List.setIfInBounds_toArray, List.set_cons_zero, List.set_cons_succ]), (fun h => by cases h), hu, (fun _ => rfl), (fun _ => rfl), hx2, hx5, rfl⟩
    case s7 =>
      intro ff gg KK hK
      have t6 : l6 = true := gg ⟨6, .data⟩ (by simp) (by rfl)
      have t0 : l0 = true := gg ⟨0, .phase⟩ (by simp) (by rfl)
      have t1 : l1 = true := gg ⟨1, .phase⟩ (by simp) (by rfl)
      have t2 : l2 = true := gg ⟨2, .phase⟩ (by simp) (by rfl)
      have t3 : l3 = true := gg ⟨3, .phase⟩ (by simp) (by rfl)
      have t4 : l4 = true := gg ⟨4, .phase⟩ (by simp) (by rfl)
      have t5 : l5 = true := gg ⟨5, .phase⟩ (by simp) (by rfl)
      have f0 : l7 = false := ff
      clear ff gg
      subst t6 t0 t1 t2 t3 t4 t5
      subst f0
      simp only [cond_false] at hv
      subst hv
      simp only [cond_true]
      have k0 := cell_later hu r0
      have k1 := cell_later hu r1
      have k2 := cell_later hu r2
      have k3 := cell_later hu r3
      have z0 : vv.frozen? ⟨w.heap.size + 1, 0, none⟩ = false := (hu.frozen (p := ⟨w.heap.size + 1, 0, none⟩) hb3).trans (cf 0)
      have z1 : vv.frozen? ⟨w.heap.size + 1, 1, none⟩ = false := (hu.frozen (p := ⟨w.heap.size + 1, 1, none⟩) hb3).trans (cf 1)
      have z2 : vv.frozen? ⟨w.heap.size + 1, 2, none⟩ = false := (hu.frozen (p := ⟨w.heap.size + 1, 2, none⟩) hb3).trans (cf 2)
      have z3 : vv.frozen? ⟨w.heap.size + 1, 3, none⟩ = false := (hu.frozen (p := ⟨w.heap.size + 1, 3, none⟩) hb3).trans (cf 3)
      go_simp
      exact hK _ _ ⟨true, true, true, true, true, true, true, true, _, EA, En, Ec, FA, Fn, Fc, rfl, (by simp only [cond_true, List.setIfInBounds_toArray, List.set_cons_zero, List.set_cons_succ]), (fun _ => ⟨rfl, rfl, rfl, rfl, rfl, rfl, rfl⟩), hu, (fun _ => rfl), (fun _ => rfl), hx2, hx5, rfl⟩
  case hdone =>
    intro LL aa vv h hd
    obtain ⟨l0, l1, l2, l3, l4, l5, l6, l7, uu, EA, En, Ec, FA, Fn, Fc, hL, ha, hall, hu, ho2_6, ho5_6, hx2, hx5, hv⟩ := h
    rw [hL] at hd
    have t0 : l0 = true := hd 0 (by decide)
    have t1 : l1 = true := hd 1 (by decide)
    have t2 : l2 = true := hd 2 (by decide)
    have t3 : l3 = true := hd 3 (by decide)
    have t4 : l4 = true := hd 4 (by decide)
    have t5 : l5 = true := hd 5 (by decide)
    have t6 : l6 = true := hd 6 (by decide)
    have t7 : l7 = true := hd 7 (by decide)
    clear hd hL hall
    subst t0 t1 t2 t3 t4 t5 t6 t7
    simp only [cond_true, List.setIfInBounds_toArray, List.set_cons_zero, List.set_cons_succ] at ha hv
    subst ha
    subst hv
    replace hx2 := hx2 rfl
    replace hx5 := hx5 rfl
    replace r0 := cell_later hu r0
    replace r1 := cell_later hu r1
    replace r2 := cell_later hu r2
    replace r3 := cell_later hu r3
    replace hw6 : Below w.heap.size w uu := bl_step hu hw6
    obtain ⟨ed, ef⟩ := hx2
    obtain ⟨gd, gf⟩ := hx5
    have en : ∀ a, EA = some a → a.block ≠ w.heap.size + 1 := fun a e => by have := ef a e; omega
    have gn : ∀ a, FA = some a → a.block ≠ w.heap.size + 1 := fun a e => by have := gf a e; omega
    go_wp2
    exact bodyPost_ret (v := .agg #[.slice EA En Ec, .bool b1, .slice FA Fn Fc, .bool b2]) (by first | (simp only [results, Try.results24]; go_simp; done) | simp [results, Try.results24, go_sem, *]) rfl ⟨EA, En, Ec, _, FA, Fn, Fc, _, rfl, ⟨(((ed.store ⟨w.heap.size + 1, 0, none⟩ _ en).store ⟨w.heap.size + 1, 1, none⟩ _ en).store ⟨w.heap.size + 1, 2, none⟩ _ en).store ⟨w.heap.size + 1, 3, none⟩ _ en, E1.out.symm, ef.le hw0.size⟩, ⟨(((gd.store ⟨w.heap.size + 1, 0, none⟩ _ gn).store ⟨w.heap.size + 1, 1, none⟩ _ gn).store ⟨w.heap.size + 1, 2, none⟩ _ gn).store ⟨w.heap.size + 1, 3, none⟩ _ gn, E2.out.symm, gf.le hw0.size⟩, by (repeat (first | (with_reducible exact Below.refl _ _) | (with_reducible refine Below.setCell ?_ (by (first | (simp; done) | (simp; omega) | omega)) _) | (with_reducible refine bl_alloc ?_ _) | (with_reducible refine bl_drewN ?_) | (with_reducible refine bl_drew ?_) | (with_reducible refine bl_step (by assumption) ?_)))⟩
theorem abs_add_pw {x y : Int} (hx : x.natAbs < pw 20) (hy : y.natAbs < pw 20) : (x + y).natAbs < pw 21 := by
  have e : pw 21 = pw 20 * 268435456 := pw_succ 20
  have := Int.natAbs_add_le x y
  omega
theorem lt_pw30 {x : Nat} (hx : x < pw 20) : x < pw 30 := Nat.lt_of_lt_of_le hx (pw_le (by decide))
set_option maxRecDepth 100000 in
set_option maxHeartbeats 4000000 in
theorem plus06_any (A1 A2 A3 A4 : Option Addr) (n1 n2 n3 n4 c1 c2 c3 c4 : Nat) (x1 x2 y1 y2 : Int) (w : World) (g1 : Dig w A1 n1 c1 x1.natAbs) (g2 : Dig w A2 n2 c2 x2.natAbs) (g3 : Dig w A3 n3 c3 y1.natAbs) (g4 : Dig w A4 n4 c4 y2.natAbs)
    (p1 : x1.natAbs < pw 20) (p2 : x2.natAbs < pw 20) (p3 : y1.natAbs < pw 20) (p4 : y2.natAbs < pw 20) :
    Calls Try.prog 25 #[.agg #[.slice A1 n1 c1, .bool (decide (x1 < 0)), .slice A2 n2 c2, .bool (decide (x2 < 0))], .agg #[.slice A3 n3 c3, .bool (decide (y1 < 0)), .slice A4 n4 c4, .bool (decide (y2 < 0))]] w (BoxRes w (x1 + y1) (x2 + y2)) := by
  have PL := fun v (h : Below w.heap.size w v) => plus02_num A1 A3 n1 n3 c1 c3 x1 y1 v (g1.below h) (g3.below h) (lt_pw30 p1) (lt_pw30 p3)
  have PH := fun v (h : Below w.heap.size w v) => plus02_num A2 A4 n2 n4 c2 c4 x2 y2 v (g2.below h) (g4.below h) (lt_pw30 p2) (lt_pw30 p4)
  unfold NumRes at PL PH
  obtain ⟨s1, e1⟩ : ∃ s1, decide (x1 + y1 < 0) = s1 := ⟨_, rfl⟩
  have E1 := hidden e1
  obtain ⟨s2, e2⟩ : ∃ s2, decide (x2 + y2 < 0) = s2 := ⟨_, rfl⟩
  have E2 := hidden e2
  obtain ⟨b1, e3⟩ : ∃ b1, decide (x1 < 0) = b1 := ⟨_, rfl⟩
  have E3 := hidden e3
  obtain ⟨b2, e4⟩ : ∃ b2, decide (x2 < 0) = b2 := ⟨_, rfl⟩
  have E4 := hidden e4
  obtain ⟨b3, e5⟩ : ∃ b3, decide (y1 < 0) = b3 := ⟨_, rfl⟩
  have E5 := hidden e5
  obtain ⟨b4, e6⟩ : ∃ b4, decide (y2 < 0) = b4 := ⟨_, rfl⟩
  have E6 := hidden e6
  rw [e1, e3, e5] at PL
  rw [e2, e4, e6] at PH
  rw [e3, e4, e5, e6]
  replace PL := hidden PL
  replace PH := hidden PH
  clear e1 e2 e3 e4 e5 e6 E3 E4 E5 E6 g1 g2 g3 g4 p1 p2 p3 p4
  go_enter Try.func25, Try.ntmps25
  go_wp2
  (refine name_below ?_; intro w' hb; (try replace hb := below_undrew hb); (try replace hb := below_undrewN hb); obtain ⟨hcell, hfroz⟩ := bcell hb; have hz := hb.size; (try simp at hz); (try (have z6 := Nat.lt_of_lt_of_le z7 hz)); (try (have z7 := Nat.lt_of_lt_of_le z8 hz)); (try (have z8 := Nat.lt_of_lt_of_le z9 hz)); (try (have z9 := Nat.lt_of_lt_of_le (Nat.lt_succ_self _) hz)); (try (have z0 : w.heap.size < w'.heap.size := by omega)); (try (have z1 : w.heap.size + 1 < w'.heap.size := by omega)); (try (have z2 : w.heap.size + 1 + 1 < w'.heap.size := by omega)); (try (have z3 : w.heap.size + 1 + 1 + 1 < w'.heap.size := by omega)); (try (have y1 : w1.heap.size < w'.heap.size := by omega)); (try (have y2 : w2.heap.size < w'.heap.size := by omega)); (try (have y3 : w3.heap.size < w'.heap.size := by omega)); (try (have y4 : w4.heap.size < w'.heap.size := by omega)); (try (have y5 : w5.heap.size < w'.heap.size := by omega)); (try (have y6 : w6.heap.size < w'.heap.size := by omega)); (try (have x1 : w1.heap.size + 1 < w'.heap.size := by omega)); (try (have x2 : w2.heap.size + 1 < w'.heap.size := by omega)); (try (have x3 : w3.heap.size + 1 < w'.heap.size := by omega)); (try (have x4 : w4.heap.size + 1 < w'.heap.size := by omega)); (try (have x5 : w5.heap.size + 1 < w'.heap.size := by omega)); (try (have x6 : w6.heap.size + 1 < w'.heap.size := by omega)); (try (have y7 : w7.heap.size < w'.heap.size := by omega)); (try (have y8 : w8.heap.size < w'.heap.size := by omega)); (try (have y9 : w9.heap.size < w'.heap.size := by omega)); (try (have z10 : w1.heap.size < w'.heap.size + 1 := by omega)); (try (have z20 : w2.heap.size < w'.heap.size + 1 := by omega)); (try (have z30 : w3.heap.size < w'.heap.size + 1 := by omega)); (try (have z40 : w4.heap.size < w'.heap.size + 1 := by omega)); (try (have z50 : w5.heap.size < w'.heap.size + 1 := by omega)); (try (have z60 : w6.heap.size < w'.heap.size + 1 := by omega)); (try (have z70 : w7.heap.size < w'.heap.size + 1 := by omega)); (try (have z80 : w8.heap.size < w'.heap.size + 1 := by omega)))
  have hw6 : Below w.heap.size w w' := by (repeat (first | (with_reducible exact Below.refl _ _) | (with_reducible refine Below.setCell ?_ (by (first | (simp; done) | (simp; omega) | omega)) _) | (with_reducible refine bl_alloc ?_ _) | (with_reducible refine bl_drewN ?_) | (with_reducible refine bl_drew ?_) | (with_reducible refine bl_step (by assumption) ?_)))
  have c1_0 : w'.cell? ⟨w.heap.size, 0, none⟩ = some (.slice A1 n1 c1) := by simp [go_sem, *]
  have c1_1 : w'.cell? ⟨w.heap.size, 1, none⟩ = some (.bool b1) := by simp [go_sem, *]
  have c2_0 : w'.cell? ⟨w.heap.size, 2, none⟩ = some (.slice A2 n2 c2) := by simp [go_sem, *]
  have c2_1 : w'.cell? ⟨w.heap.size, 3, none⟩ = some (.bool b2) := by simp [go_sem, *]
  have c3_0 : w'.cell? ⟨w.heap.size + 1, 0, none⟩ = some (.slice A3 n3 c3) := by simp [go_sem, *]
  have c3_1 : w'.cell? ⟨w.heap.size + 1, 1, none⟩ = some (.bool b3) := by simp [go_sem, *]
  have c4_0 : w'.cell? ⟨w.heap.size + 1, 2, none⟩ = some (.slice A4 n4 c4) := by simp [go_sem, *]
  have c4_1 : w'.cell? ⟨w.heap.size + 1, 3, none⟩ = some (.bool b4) := by simp [go_sem, *]
  have r0 : w'.cell? ⟨w.heap.size + 1 + 1, 0, none⟩ = some (.slice none 0 0) := by simp [go_sem, *]
  have r1 : w'.cell? ⟨w.heap.size + 1 + 1, 1, none⟩ = some (.bool false) := by simp [go_sem, *]
  have r2 : w'.cell? ⟨w.heap.size + 1 + 1, 2, none⟩ = some (.slice none 0 0) := by simp [go_sem, *]
  have r3 : w'.cell? ⟨w.heap.size + 1 + 1, 3, none⟩ = some (.bool false) := by simp [go_sem, *]
  have cf : ∀ o, w'.frozen? ⟨w.heap.size + 1 + 1, o, none⟩ = false := by intro o; simp [go_sem, *]
  clear hcell hfroz hz
  obtain ⟨w7, rfl⟩ : ∃ v, v = w' := ⟨_, rfl⟩
  have hw0 := hw6
  have hb3 : w.heap.size + 1 + 1 < w7.heap.size := World.block_lt_of_cell? _ _ r0
  refine wp_region_inv (fun a0 LL aa vv => ∃ (l0 l1 l2 l3 l4 l5 l6 l7 l8 l9 l10 l11 : Bool) (uu : World) (EA : Option Addr) (En : Nat) (Ec : Nat) (FA : Option Addr) (Fn : Nat) (Fc : Nat), LL = #[l0, l1, l2, l3, l4, l5, l6, l7, l8, l9, l10, l11] ∧ aa = { a0 with tmps := (((((((((((a0.tmps.setIfInBounds 5 (cond l0 (.pointer (some ⟨w.heap.size, 0, none⟩)) (undef))).setIfInBounds 6 (cond l1 (.agg #[.slice A1 n1 c1, .bool b1]) (undef))).setIfInBounds 7 (cond l2 (.pointer (some ⟨w.heap.size + 1, 0, none⟩)) (undef))).setIfInBounds 8 (cond l3 (.agg #[.slice A3 n3 c3, .bool b3]) (undef))).setIfInBounds 9 (cond l4 (.agg #[.slice EA En Ec, .bool s1]) (undef))).setIfInBounds 10 (cond l5 (.pointer (some ⟨w.heap.size, 2, none⟩)) (undef))).setIfInBounds 11 (cond l6 (.agg #[.slice A2 n2 c2, .bool b2]) (undef))).setIfInBounds 12 (cond l7 (.pointer (some ⟨w.heap.size + 1, 2, none⟩)) (undef))).setIfInBounds 13 (cond l8 (.agg #[.slice A4 n4 c4, .bool b4]) (undef))).setIfInBounds 14 (cond l9 (.agg #[.slice FA Fn Fc, .bool s2]) (undef))).setIfInBounds 15 (cond l10 (.agg #[.slice EA En Ec, .bool s1, .slice FA Fn Fc, .bool s2]) (undef))) } ∧ (l11 = true → l0 = true ∧ l1 = true ∧ l2 = true ∧ l3 = true ∧ l4 = true ∧ l5 = true ∧ l6 = true ∧ l7 = true ∧ l8 = true ∧ l9 = true ∧ l10 = true) ∧ Below w7.heap.size w7 uu ∧ (l10 = true → l4 = true) ∧ (l10 = true → l9 = true) ∧ (l4 = true → Dig uu EA En Ec ((x1 + y1).natAbs) ∧ Fr w7.heap.size EA) ∧ (l9 = true → Dig uu FA Fn Fc ((x2 + y2).natAbs) ∧ Fr w7.heap.size FA) ∧ vv = cond l11 ((((uu.setCell ⟨w.heap.size + 1 + 1, 0, none⟩ (.slice EA En Ec)).setCell ⟨w.heap.size + 1 + 1, 1, none⟩ (.bool s1)).setCell ⟨w.heap.size + 1 + 1, 2, none⟩ (.slice FA Fn Fc)).setCell ⟨w.heap.size + 1 + 1, 3, none⟩ (.bool s2)) uu) (by kernel_rfl) (by kernel_rfl) ?h0 ?hsize ?hdone ?hstep
  case h0 =>
    refine ⟨false, false, false, false, false, false, false, false, false, false, false, false, _, none, 0, 0, none, 0, 0, rfl, ?_, (fun h => by cases h), by (repeat (first | exact Below.refl _ _ | refine bl_drewN ?_ | refine bl_drew ?_ | refine bl_alloc ?_ _ | refine Below.setCell ?_ (by (first | (simp; done) | (simp; omega) | omega)) _ | refine bl_step (by assumption) ?_)), (fun h => by cases h), (fun h => by cases h), (fun h => by cases h), (fun h => by cases h), rfl⟩
    simp only [cond_false, List.setIfInBounds_toArray, List.set_cons_zero, List.set_cons_succ]
  case hsize =>
    intro LL aa vv h
    obtain ⟨l0, l1, l2, l3, l4, l5, l6, l7, l8, l9, l10, l11, uu, EA, En, Ec, FA, Fn, Fc, hL, _⟩ := h
    rw [hL]
    rfl
  case hstep =>
    intro LL aa vv h
    obtain ⟨l0, l1, l2, l3, l4, l5, l6, l7, l8, l9, l10, l11, uu, EA, En, Ec, FA, Fn, Fc, hL, ha, hall, hu, ho4_10, ho9_10, hx4, hx9, hv⟩ := h
    simp only [List.setIfInBounds_toArray, List.set_cons_zero, List.set_cons_succ] at ha
    subst hL
    subst ha
    refine ⟨?s0, ?s1, ?s2, ?s3, ?s4, ?s5, ?s6, ?s7, ?s8, ?s9, ?s10, ?s11, trivial⟩
    case s0 =>
      intro ff gg KK hK
      have f0 : l0 = false := ff
      cases hl : l11
      case true =>
        have := (hall hl).1
        rw [f0] at this
        cases this
      rw [hl] at hv
      simp only [cond_false] at hv
      subst hv
      clear ff gg
      subst hl
      subst f0
      simp only [cond_false]
      go_simp
      exact hK _ _ ⟨true, l1, l2, l3, l4, l5, l6, l7, l8, l9, l10, false, _, EA, En, Ec, FA, Fn, Fc, rfl, (by simp only [cond_true, List.setIfInBounds_toArray, List.set_cons_zero, List.set_cons_succ]), (fun h => by cases h), hu, ho4_10, ho9_10, hx4, hx9, rfl⟩
    case s1 =>
      intro ff gg KK hK
      have f0 : l1 = false := ff
      cases hl : l11
      case true =>
        have := (hall hl).2.1
        rw [f0] at this
        cases this
      rw [hl] at hv
      simp only [cond_false] at hv
      subst hv
      have t0 : l0 = true := gg ⟨0, .data⟩ (by simp) (by rfl)
      clear ff gg
      subst t0
      subst hl
      subst f0
      simp only [cond_true, cond_false]
      have k0 := cell_later hu c1_0
      have k1 := cell_later hu c1_1
      go_simp
      exact hK _ _ ⟨true, true, l2, l3, l4, l5, l6, l7, l8, l9, l10, false, _, EA, En, Ec, FA, Fn, Fc, rfl, (by simp only [cond_true, List.setIfInBounds_toArray, List.set_cons_zero, List.set_cons_succ]), (fun h => by cases h), hu, ho4_10, ho9_10, hx4, hx9, rfl⟩
    case s2 =>
      intro ff gg KK hK
      have f0 : l2 = false := ff
      cases hl : l11
      case true =>
        have := (hall hl).2.2.1
        rw [f0] at this
        cases this
      rw [hl] at hv
      simp only [cond_false] at hv
      subst hv
      clear ff gg
      subst hl
      subst f0
      simp only [cond_false]
      go_simp
      exact hK _ _ ⟨l0, l1, true, l3, l4, l5, l6, l7, l8, l9, l10, false, _, EA, En, Ec, FA, Fn, Fc, rfl, (by simp only [cond_true, List.setIfInBounds_toArray, List.set_cons_zero, List.set_cons_succ]), (fun h => by cases h), hu, ho4_10, ho9_10, hx4, hx9, rfl⟩
    case s3 =>
      intro ff gg KK hK
      have f0 : l3 = false := ff
      cases hl : l11
      case true =>
        have := (hall hl).2.2.2.1
        rw [f0] at this
        cases this
      rw [hl] at hv
      simp only [cond_false] at hv
      subst hv
      have t2 : l2 = true := gg ⟨2, .data⟩ (by simp) (by rfl)
      clear ff gg
      subst t2
      subst hl
      subst f0
      simp only [cond_true, cond_false]
      have k0 := cell_later hu c3_0
      have k1 := cell_later hu c3_1
      go_simp
      exact hK _ _ ⟨l0, l1, true, true, l4, l5, l6, l7, l8, l9, l10, false, _, EA, En, Ec, FA, Fn, Fc, rfl, (by simp only [cond_true, List.setIfInBounds_toArray, List.set_cons_zero, List.set_cons_succ]), (fun h => by cases h), hu, ho4_10, ho9_10, hx4, hx9, rfl⟩
    case s4 =>
      intro ff gg KK hK
      have f0 : l4 = false := ff
      cases hl : l11
      case true =>
        have := (hall hl).2.2.2.2.1
        rw [f0] at this
        cases this
      rw [hl] at hv
      simp only [cond_false] at hv
      subst hv
      have t1 : l1 = true := gg ⟨1, .data⟩ (by simp) (by rfl)
      have t3 : l3 = true := gg ⟨3, .data⟩ (by simp) (by rfl)
      clear ff gg
      subst t1 t3
      subst hl
      subst f0
      have fq10 : l10 = false := by cases hq : l10; rfl; exact absurd (ho4_10 hq) (by simp)
      subst fq10
      simp only [cond_true, cond_false]
      go_simp
      go_at_call 41
      with_reducible refine (PL.out _ (bl_step hu hw6)).mono ?_
      rintro e w' ⟨A', n', c', b', rfl, hd, rfl, hfr, hb⟩
      exact hK _ _ ⟨l0, true, l2, true, true, l5, l6, l7, l8, l9, false, false, _, A', n', c', FA, Fn, Fc, rfl, (by simp only [cond_true, cond_false, List.setIfInBounds_toArray, List.set_cons_zero, List.set_cons_succ]), (fun h => by cases h), bl_step hb hu, (fun _ => rfl), ho9_10, (fun _ => ⟨hd, hfr.le hu.size⟩), (fun t => ⟨(hx9 t).1.below hb, (hx9 t).2⟩), rfl⟩
    case s5 =>
      intro ff gg KK hK
      have f0 : l5 = false := ff
      cases hl : l11
      case true =>
        have := (hall hl).2.2.2.2.2.1
        rw [f0] at this
        cases this
      rw [hl] at hv
      simp only [cond_false] at hv
      subst hv
      clear ff gg
      subst hl
      subst f0
      simp only [cond_false]
      go_simp
      exact hK _ _ ⟨l0, l1, l2, l3, l4, true, l6, l7, l8, l9, l10, false, _, EA, En, Ec, FA, Fn, Fc, rfl, (by simp only [cond_true, List.setIfInBounds_toArray, List.set_cons_zero, List.set_cons_succ]), (fun h => by cases h), hu, ho4_10, ho9_10, hx4, hx9, rfl⟩
    case s6 =>
      intro ff gg KK hK
      have f0 : l6 = false := ff
      cases hl : l11
      case true =>
        have := (hall hl).2.2.2.2.2.2.1
        rw [f0] at this
        cases this
      rw [hl] at hv
      simp only [cond_false] at hv
      subst hv
      have t5 : l5 = true := gg ⟨5, .data⟩ (by simp) (by rfl)
      clear ff gg
      subst t5
      subst hl
      subst f0
      simp only [cond_true, cond_false]
      have k0 := cell_later hu c2_0
      have k1 := cell_later hu c2_1
      go_simp
      exact hK _ _ ⟨l0, l1, l2, l3, l4, true, true, l7, l8, l9, l10, false, _, EA, En, Ec, FA, Fn, Fc, rfl, (by simp only [cond_true, List.setIfInBounds_toArray, List.set_cons_zero, List.set_cons_succ]), (fun h => by cases h), hu, ho4_10, ho9_10, hx4, hx9, rfl⟩
    case s7 =>
      intro ff gg KK hK
      have f0 : l7 = false := ff
      cases hl : l11
      case true =>
        have := (hall hl).2.2.2.2.2.2.2.1
        rw [f0] at this
        cases this
      rw [hl] at hv
      simp only [cond_false] at hv
      subst hv
      clear ff gg
      subst hl
      subst f0
      simp only [cond_false]
      go_simp
      exact hK _ _ ⟨l0, l1, l2, l3, l4, l5, l6, true, l8, l9, l10, false, _, EA, En, Ec, FA, Fn, Fc, rfl, (by simp only [cond_true, List.setIfInBounds_toArray, List.set_cons_zero, List.set_cons_succ]), (fun h => by cases h), hu, ho4_10, ho9_10, hx4, hx9, rfl⟩
    case s8 =>
      intro ff gg KK hK
      have f0 : l8 = false := ff
      cases hl : l11
      case true =>
        have := (hall hl).2.2.2.2.2.2.2.2.1
        rw [f0] at this
        cases this
      rw [hl] at hv
      simp only [cond_false] at hv
      subst hv
      have t7 : l7 = true := gg ⟨7, .data⟩ (by simp) (by rfl)
      clear ff gg
      subst t7
      subst hl
      subst f0
      simp only [cond_true, cond_false]
      have k0 := cell_later hu c4_0
      have k1 := cell_later hu c4_1
      go_simp
      exact hK _ _ ⟨l0, l1, l2, l3, l4, l5, l6, true, true, l9, l10, false, _, EA, En, Ec, FA, Fn, Fc, rfl, (by simp only [cond_true, List.setIfInBounds_toArray, List.set_cons_zero, List.set_cons_succ]), (fun h => by cases h), hu, ho4_10, ho9_10, hx4, hx9, rfl⟩
    case s9 =>
      intro ff gg KK hK
      have f0 : l9 = false := ff
      cases hl : l11
      case true =>
        have := (hall hl).2.2.2.2.2.2.2.2.2.1
        rw [f0] at this
        cases this
      rw [hl] at hv
      simp only [cond_false] at hv
      subst hv
      have t6 : l6 = true := gg ⟨6, .data⟩ (by simp) (by rfl)
      have t8 : l8 = true := gg ⟨8, .data⟩ (by simp) (by rfl)
      clear ff gg
      subst t6 t8
      subst hl
      subst f0
      have fq10 : l10 = false := by cases hq : l10; rfl; exact absurd (ho9_10 hq) (by simp)
      subst fq10
      simp only [cond_true, cond_false]
      go_simp
      go_at_call 41
      with_reducible refine (PH.out _ (bl_step hu hw6)).mono ?_
      rintro e w' ⟨A', n', c', b', rfl, hd, rfl, hfr, hb⟩
      exact hK _ _ ⟨l0, l1, l2, l3, l4, l5, true, l7, true, true, false, false, _, EA, En, Ec, A', n', c', rfl, (by simp only [cond_true, cond_false, List.setIfInBounds_toArray, List.set_cons_zero, List.set_cons_succ]), (fun h => by cases h), bl_step hb hu, ho4_10, (fun _ => rfl), (fun t => ⟨(hx4 t).1.below hb, (hx4 t).2⟩), (fun _ => ⟨hd, hfr.le hu.size⟩), rfl⟩
    case s10 =>
      intro ff gg KK hK
      have f0 : l10 = false := ff
      cases hl : l11
      case true =>
        have := (hall hl).2.2.2.2.2.2.2.2.2.2
        rw [f0] at this
        cases this
      rw [hl] at hv
      simp only [cond_false] at hv
      subst hv
      have t4 : l4 = true := gg ⟨4, .data⟩ (by simp) (by rfl)
      have t9 : l9 = true := gg ⟨9, .data⟩ (by simp) (by rfl)
      clear ff gg
      subst t4 t9
      subst hl
      subst f0
      simp only [cond_true, cond_false]
      go_simp
      exact hK _ _ ⟨l0, l1, l2, l3, true, l5, l6, l7, l8, true, true, false, _, EA, En, Ec, FA, Fn, Fc, rfl, (by simp only [cond_true, List.setIfInBounds_toArray, List.set_cons_zero, List.set_cons_succ]), (fun h => by cases h), hu, (fun _ => rfl), (fun _ => rfl), hx4, hx9, rfl⟩
    case s11 =>
      intro ff gg KK hK
      have t10 : l10 = true := gg ⟨10, .data⟩ (by simp) (by rfl)
      have t0 : l0 = true := gg ⟨0, .phase⟩ (by simp) (by rfl)
      have t1 : l1 = true := gg ⟨1, .phase⟩ (by simp) (by rfl)
      have t2 : l2 = true := gg ⟨2, .phase⟩ (by simp) (by rfl)
      have t3 : l3 = true := gg ⟨3, .phase⟩ (by simp) (by rfl)
      have t4 : l4 = true := gg ⟨4, .phase⟩ (by simp) (by rfl)
      have t5 : l5 = true := gg ⟨5, .phase⟩ (by simp) (by rfl)
      have t6 : l6 = true := gg ⟨6, .phase⟩ (by simp) (by rfl)
      have t7 : l7 = true := gg ⟨7, .phase⟩ (by simp) (by rfl)
      have t8 : l8 = true := gg ⟨8, .phase⟩ (by simp) (by rfl)
      have t9 : l9 = true := gg ⟨9, .phase⟩ (by simp) (by rfl)
      have f0 : l11 = false := ff
      clear ff gg
      subst t10 t0 t1 t2 t3 t4 t5 t6 t7 t8 t9
      subst f0
      simp only [cond_false] at hv
      subst hv
      simp only [cond_true]
      have k0 := cell_later hu r0
      have k1 := cell_later hu r1
      have k2 := cell_later hu r2
      have k3 := cell_later hu r3
      have z0 : vv.frozen? ⟨w.heap.size + 1 + 1, 0, none⟩ = false := (hu.frozen (p := ⟨w.heap.size + 1 + 1, 0, none⟩) hb3).trans (cf 0)
      have z1 : vv.frozen? ⟨w.heap.size + 1 + 1, 1, none⟩ = false := (hu.frozen (p := ⟨w.heap.size + 1 + 1, 1, none⟩) hb3).trans (cf 1)
      have z2 : vv.frozen? ⟨w.heap.size + 1 + 1, 2, none⟩ = false := (hu.frozen (p := ⟨w.heap.size + 1 + 1, 2, none⟩) hb3).trans (cf 2)
      have z3 : vv.frozen? ⟨w.heap.size + 1 + 1, 3, none⟩ = false := (hu.frozen (p := ⟨w.heap.size + 1 + 1, 3, none⟩) hb3).trans (cf 3)
      go_simp
      exact hK _ _ ⟨true, true, true, true, true, true, true, true, true, true, true, true, _, EA, En, Ec, FA, Fn, Fc, rfl, (by simp only [cond_true, List.setIfInBounds_toArray, List.set_cons_zero, List.set_cons_succ]), (fun _ => ⟨rfl, rfl, rfl, rfl, rfl, rfl, rfl, rfl, rfl, rfl, rfl⟩), hu, (fun _ => rfl), (fun _ => rfl), hx4, hx9, rfl⟩
  case hdone =>
    intro LL aa vv h hd
    obtain ⟨l0, l1, l2, l3, l4, l5, l6, l7, l8, l9, l10, l11, uu, EA, En, Ec, FA, Fn, Fc, hL, ha, hall, hu, ho4_10, ho9_10, hx4, hx9, hv⟩ := h
    rw [hL] at hd
    have t0 : l0 = true := hd 0 (by decide)
    have t1 : l1 = true := hd 1 (by decide)
    have t2 : l2 = true := hd 2 (by decide)
    have t3 : l3 = true := hd 3 (by decide)
    have t4 : l4 = true := hd 4 (by decide)
    have t5 : l5 = true := hd 5 (by decide)
    have t6 : l6 = true := hd 6 (by decide)
    have t7 : l7 = true := hd 7 (by decide)
    have t8 : l8 = true := hd 8 (by decide)
    have t9 : l9 = true := hd 9 (by decide)
    have t10 : l10 = true := hd 10 (by decide)
    have t11 : l11 = true := hd 11 (by decide)
    clear hd hL hall
    subst t0 t1 t2 t3 t4 t5 t6 t7 t8 t9 t10 t11
    simp only [cond_true, List.setIfInBounds_toArray, List.set_cons_zero, List.set_cons_succ] at ha hv
    subst ha
    subst hv
    replace hx4 := hx4 rfl
    replace hx9 := hx9 rfl
    replace r0 := cell_later hu r0
    replace r1 := cell_later hu r1
    replace r2 := cell_later hu r2
    replace r3 := cell_later hu r3
    replace hw6 : Below w.heap.size w uu := bl_step hu hw6
    obtain ⟨ed, ef⟩ := hx4
    obtain ⟨gd, gf⟩ := hx9
    have en : ∀ a, EA = some a → a.block ≠ w.heap.size + 1 + 1 := fun a e => by have := ef a e; omega
    have gn : ∀ a, FA = some a → a.block ≠ w.heap.size + 1 + 1 := fun a e => by have := gf a e; omega
    go_wp2
    exact bodyPost_ret (v := .agg #[.slice EA En Ec, .bool s1, .slice FA Fn Fc, .bool s2]) (by first | (simp only [results, Try.results25]; go_simp; done) | simp [results, Try.results25, go_sem, *]) rfl ⟨EA, En, Ec, _, FA, Fn, Fc, _, rfl, ⟨(((ed.store ⟨w.heap.size + 1 + 1, 0, none⟩ _ en).store ⟨w.heap.size + 1 + 1, 1, none⟩ _ en).store ⟨w.heap.size + 1 + 1, 2, none⟩ _ en).store ⟨w.heap.size + 1 + 1, 3, none⟩ _ en, E1.out.symm, ef.le hw0.size⟩, ⟨(((gd.store ⟨w.heap.size + 1 + 1, 0, none⟩ _ gn).store ⟨w.heap.size + 1 + 1, 1, none⟩ _ gn).store ⟨w.heap.size + 1 + 1, 2, none⟩ _ gn).store ⟨w.heap.size + 1 + 1, 3, none⟩ _ gn, E2.out.symm, gf.le hw0.size⟩, by (repeat (first | (with_reducible exact Below.refl _ _) | (with_reducible refine Below.setCell ?_ (by (first | (simp; done) | (simp; omega) | omega)) _) | (with_reducible refine bl_alloc ?_ _) | (with_reducible refine bl_drewN ?_) | (with_reducible refine bl_drew ?_) | (with_reducible refine bl_step (by assumption) ?_)))⟩
set_option maxRecDepth 100000 in
set_option maxHeartbeats 4000000 in
theorem minus06_any (A1 A2 A3 A4 : Option Addr) (n1 n2 n3 n4 c1 c2 c3 c4 : Nat) (x1 x2 y1 y2 : Int) (w : World) (g1 : Dig w A1 n1 c1 x1.natAbs) (g2 : Dig w A2 n2 c2 x2.natAbs) (g3 : Dig w A3 n3 c3 y1.natAbs) (g4 : Dig w A4 n4 c4 y2.natAbs)
    (p1 : x1.natAbs < pw 20) (p2 : x2.natAbs < pw 20) (p3 : y1.natAbs < pw 20) (p4 : y2.natAbs < pw 20) :
    Calls Try.prog 26 #[.agg #[.slice A1 n1 c1, .bool (decide (x1 < 0)), .slice A2 n2 c2, .bool (decide (x2 < 0))], .agg #[.slice A3 n3 c3, .bool (decide (y1 < 0)), .slice A4 n4 c4, .bool (decide (y2 < 0))]] w (BoxRes w (x1 + -y2) (x2 + -y1)) := by
  have ML := fun v (h : Below w.heap.size w v) => minus02_num A4 n4 c4 y2 v (g4.below h)
  have MH := fun v (h : Below w.heap.size w v) => minus02_num A3 n3 c3 y1 v (g3.below h)
  have PL := fun v (h : Below w.heap.size w v) => plus06_any A1 A2 A4 A3 n1 n2 n4 n3 c1 c2 c4 c3 x1 x2 (-y2) (-y1) v (g1.below h) (g2.below h) (by rw [Int.natAbs_neg]; exact g4.below h) (by rw [Int.natAbs_neg]; exact g3.below h) p1 p2 (by rw [Int.natAbs_neg]; exact p4) (by rw [Int.natAbs_neg]; exact p3)
  unfold BoxRes at PL
  obtain ⟨s1, e1⟩ : ∃ s1, decide (x1 + -y2 < 0) = s1 := ⟨_, rfl⟩
  have E1 := hidden e1
  obtain ⟨s2, e2⟩ : ∃ s2, decide (x2 + -y1 < 0) = s2 := ⟨_, rfl⟩
  have E2 := hidden e2
  obtain ⟨b1, e3⟩ : ∃ b1, decide (x1 < 0) = b1 := ⟨_, rfl⟩
  have E3 := hidden e3
  obtain ⟨b2, e4⟩ : ∃ b2, decide (x2 < 0) = b2 := ⟨_, rfl⟩
  have E4 := hidden e4
  obtain ⟨b3, e5⟩ : ∃ b3, decide (y1 < 0) = b3 := ⟨_, rfl⟩
  have E5 := hidden e5
  obtain ⟨b4, e6⟩ : ∃ b4, decide (y2 < 0) = b4 := ⟨_, rfl⟩
  have E6 := hidden e6
  obtain ⟨m1, e7⟩ : ∃ m1, decide (-y1 < 0) = m1 := ⟨_, rfl⟩
  have E7 := hidden e7
  obtain ⟨m2, e8⟩ : ∃ m2, decide (-y2 < 0) = m2 := ⟨_, rfl⟩
  have E8 := hidden e8
  rw [e1, e2, e3, e4, e7, e8] at PL
  rw [e6, e8] at ML
  rw [e5, e7] at MH
  rw [e3, e4, e5, e6]
  replace PL := hidden PL
  replace ML := hidden ML
  replace MH := hidden MH
  clear e1 e2 e3 e4 e5 e6 e7 e8 E3 E4 E5 E6 E7 E8 g1 g2 g3 g4 p1 p2 p3 p4
  go_enter Try.func26, Try.ntmps26
  go_wp2
  (refine name_below ?_; intro w' hb; (try replace hb := below_undrew hb); (try replace hb := below_undrewN hb); obtain ⟨hcell, hfroz⟩ := bcell hb; have hz := hb.size; (try simp at hz); (try (have z6 := Nat.lt_of_lt_of_le z7 hz)); (try (have z7 := Nat.lt_of_lt_of_le z8 hz)); (try (have z8 := Nat.lt_of_lt_of_le z9 hz)); (try (have z9 := Nat.lt_of_lt_of_le (Nat.lt_succ_self _) hz)); (try (have z0 : w.heap.size < w'.heap.size := by omega)); (try (have z1 : w.heap.size + 1 < w'.heap.size := by omega)); (try (have z2 : w.heap.size + 1 + 1 < w'.heap.size := by omega)); (try (have z3 : w.heap.size + 1 + 1 + 1 < w'.heap.size := by omega)); (try (have y1 : w1.heap.size < w'.heap.size := by omega)); (try (have y2 : w2.heap.size < w'.heap.size := by omega)); (try (have y3 : w3.heap.size < w'.heap.size := by omega)); (try (have y4 : w4.heap.size < w'.heap.size := by omega)); (try (have y5 : w5.heap.size < w'.heap.size := by omega)); (try (have y6 : w6.heap.size < w'.heap.size := by omega)); (try (have x1 : w1.heap.size + 1 < w'.heap.size := by omega)); (try (have x2 : w2.heap.size + 1 < w'.heap.size := by omega)); (try (have x3 : w3.heap.size + 1 < w'.heap.size := by omega)); (try (have x4 : w4.heap.size + 1 < w'.heap.size := by omega)); (try (have x5 : w5.heap.size + 1 < w'.heap.size := by omega)); (try (have x6 : w6.heap.size + 1 < w'.heap.size := by omega)); (try (have y7 : w7.heap.size < w'.heap.size := by omega)); (try (have y8 : w8.heap.size < w'.heap.size := by omega)); (try (have y9 : w9.heap.size < w'.heap.size := by omega)); (try (have z10 : w1.heap.size < w'.heap.size + 1 := by omega)); (try (have z20 : w2.heap.size < w'.heap.size + 1 := by omega)); (try (have z30 : w3.heap.size < w'.heap.size + 1 := by omega)); (try (have z40 : w4.heap.size < w'.heap.size + 1 := by omega)); (try (have z50 : w5.heap.size < w'.heap.size + 1 := by omega)); (try (have z60 : w6.heap.size < w'.heap.size + 1 := by omega)); (try (have z70 : w7.heap.size < w'.heap.size + 1 := by omega)); (try (have z80 : w8.heap.size < w'.heap.size + 1 := by omega)))
  have hw6 : Below w.heap.size w w' := by (repeat (first | (with_reducible exact Below.refl _ _) | (with_reducible refine Below.setCell ?_ (by (first | (simp; done) | (simp; omega) | omega)) _) | (with_reducible refine bl_alloc ?_ _) | (with_reducible refine bl_drewN ?_) | (with_reducible refine bl_drew ?_) | (with_reducible refine bl_step (by assumption) ?_)))
  have c1_0 : w'.cell? ⟨w.heap.size, 0, none⟩ = some (.slice A1 n1 c1) := by simp [go_sem, *]
  have c1_1 : w'.cell? ⟨w.heap.size, 1, none⟩ = some (.bool b1) := by simp [go_sem, *]
  have c2_0 : w'.cell? ⟨w.heap.size, 2, none⟩ = some (.slice A2 n2 c2) := by simp [go_sem, *]
  have c2_1 : w'.cell? ⟨w.heap.size, 3, none⟩ = some (.bool b2) := by simp [go_sem, *]
  have c3_0 : w'.cell? ⟨w.heap.size + 1, 0, none⟩ = some (.slice A3 n3 c3) := by simp [go_sem, *]
  have c3_1 : w'.cell? ⟨w.heap.size + 1, 1, none⟩ = some (.bool b3) := by simp [go_sem, *]
  have c4_0 : w'.cell? ⟨w.heap.size + 1, 2, none⟩ = some (.slice A4 n4 c4) := by simp [go_sem, *]
  have c4_1 : w'.cell? ⟨w.heap.size + 1, 3, none⟩ = some (.bool b4) := by simp [go_sem, *]
  have r0 : w'.cell? ⟨w.heap.size + 1 + 1, 0, none⟩ = some (.slice none 0 0) := by simp [go_sem, *]
  have r1 : w'.cell? ⟨w.heap.size + 1 + 1, 1, none⟩ = some (.bool false) := by simp [go_sem, *]
  have r2 : w'.cell? ⟨w.heap.size + 1 + 1, 2, none⟩ = some (.slice none 0 0) := by simp [go_sem, *]
  have r3 : w'.cell? ⟨w.heap.size + 1 + 1, 3, none⟩ = some (.bool false) := by simp [go_sem, *]
  have cf : ∀ o, w'.frozen? ⟨w.heap.size + 1 + 1, o, none⟩ = false := by intro o; simp [go_sem, *]
  clear hcell hfroz hz
  obtain ⟨w7, rfl⟩ : ∃ v, v = w' := ⟨_, rfl⟩
  have hw0 := hw6
  have hb3 : w.heap.size + 1 + 1 < w7.heap.size := World.block_lt_of_cell? _ _ r0
  refine wp_region_inv (fun a0 LL aa vv => ∃ (l0 l1 l2 l3 l4 l5 l6 l7 l8 l9 : Bool) (uu : World) (EA : Option Addr) (En : Nat) (Ec : Nat) (FA : Option Addr) (Fn : Nat) (Fc : Nat), LL = #[l0, l1, l2, l3, l4, l5, l6, l7, l8, l9] ∧ aa = { a0 with tmps := (((((((((a0.tmps.setIfInBounds 5 (cond l0 (.agg #[.slice A1 n1 c1, .bool b1, .slice A2 n2 c2, .bool b2]) (undef))).setIfInBounds 6 (cond l1 (.pointer (some ⟨w.heap.size + 1, 2, none⟩)) (undef))).setIfInBounds 7 (cond l2 (.agg #[.slice A4 n4 c4, .bool b4]) (undef))).setIfInBounds 8 (cond l3 (.agg #[.slice A4 n4 c4, .bool m2]) (undef))).setIfInBounds 9 (cond l4 (.pointer (some ⟨w.heap.size + 1, 0, none⟩)) (undef))).setIfInBounds 10 (cond l5 (.agg #[.slice A3 n3 c3, .bool b3]) (undef))).setIfInBounds 11 (cond l6 (.agg #[.slice A3 n3 c3, .bool m1]) (undef))).setIfInBounds 12 (cond l7 (.agg #[.slice A4 n4 c4, .bool m2, .slice A3 n3 c3, .bool m1]) (undef))).setIfInBounds 13 (cond l8 (.agg #[.slice EA En Ec, .bool s1, .slice FA Fn Fc, .bool s2]) (undef))) } ∧ (l9 = true → l0 = true ∧ l1 = true ∧ l2 = true ∧ l3 = true ∧ l4 = true ∧ l5 = true ∧ l6 = true ∧ l7 = true ∧ l8 = true) ∧ Below w7.heap.size w7 uu ∧ (l8 = true → (Dig uu EA En Ec (x1 + -y2).natAbs ∧ Fr w7.heap.size EA) ∧ (Dig uu FA Fn Fc (x2 + -y1).natAbs ∧ Fr w7.heap.size FA)) ∧ vv = cond l9 ((((uu.setCell ⟨w.heap.size + 1 + 1, 0, none⟩ (.slice EA En Ec)).setCell ⟨w.heap.size + 1 + 1, 1, none⟩ (.bool s1)).setCell ⟨w.heap.size + 1 + 1, 2, none⟩ (.slice FA Fn Fc)).setCell ⟨w.heap.size + 1 + 1, 3, none⟩ (.bool s2)) uu) (by kernel_rfl) (by kernel_rfl) ?h0 ?hsize ?hdone ?hstep
  case h0 =>
    refine ⟨false, false, false, false, false, false, false, false, false, false, _, none, 0, 0, none, 0, 0, rfl, ?_, (fun h => by cases h), by (repeat (first | exact Below.refl _ _ | refine bl_drewN ?_ | refine bl_drew ?_ | refine bl_alloc ?_ _ | refine Below.setCell ?_ (by (first | (simp; done) | (simp; omega) | omega)) _ | refine bl_step (by assumption) ?_)), (fun h => by cases h), rfl⟩
    simp only [cond_false, List.setIfInBounds_toArray, List.set_cons_zero, List.set_cons_succ]
  case hsize =>
    intro LL aa vv h
    obtain ⟨l0, l1, l2, l3, l4, l5, l6, l7, l8, l9, uu, EA, En, Ec, FA, Fn, Fc, hL, _⟩ := h
    rw [hL]
    rfl
  case hstep =>
    intro LL aa vv h
    obtain ⟨l0, l1, l2, l3, l4, l5, l6, l7, l8, l9, uu, EA, En, Ec, FA, Fn, Fc, hL, ha, hall, hu, hx8, hv⟩ := h
    simp only [List.setIfInBounds_toArray, List.set_cons_zero, List.set_cons_succ] at ha
    subst hL
    subst ha
    refine ⟨?s0, ?s1, ?s2, ?s3, ?s4, ?s5, ?s6, ?s7, ?s8, ?s9, trivial⟩
    case s0 =>
      intro ff gg KK hK
      have f0 : l0 = false := ff
      cases hl : l9
      case true =>
        have := (hall hl).1
        rw [f0] at this
        cases this
      rw [hl] at hv
      simp only [cond_false] at hv
      subst hv
      clear ff gg
      subst hl
      subst f0
      simp only [cond_false]
      have k0 := cell_later hu c1_0
      have k1 := cell_later hu c1_1
      have k2 := cell_later hu c2_0
      have k3 := cell_later hu c2_1
      go_simp
      exact hK _ _ ⟨true, l1, l2, l3, l4, l5, l6, l7, l8, false, _, EA, En, Ec, FA, Fn, Fc, rfl, (by simp only [cond_true, List.setIfInBounds_toArray, List.set_cons_zero, List.set_cons_succ]), (fun h => by cases h), hu, hx8, rfl⟩
    case s1 =>
      intro ff gg KK hK
      have f0 : l1 = false := ff
      cases hl : l9
      case true =>
        have := (hall hl).2.1
        rw [f0] at this
        cases this
      rw [hl] at hv
      simp only [cond_false] at hv
      subst hv
      clear ff gg
      subst hl
      subst f0
      simp only [cond_false]
      go_simp
      exact hK _ _ ⟨l0, true, l2, l3, l4, l5, l6, l7, l8, false, _, EA, En, Ec, FA, Fn, Fc, rfl, (by simp only [cond_true, List.setIfInBounds_toArray, List.set_cons_zero, List.set_cons_succ]), (fun h => by cases h), hu, hx8, rfl⟩
    case s2 =>
      intro ff gg KK hK
      have f0 : l2 = false := ff
      cases hl : l9
      case true =>
        have := (hall hl).2.2.1
        rw [f0] at this
        cases this
      rw [hl] at hv
      simp only [cond_false] at hv
      subst hv
      have t1 : l1 = true := gg ⟨1, .data⟩ (by simp) (by rfl)
      clear ff gg
      subst t1
      subst hl
      subst f0
      simp only [cond_true, cond_false]
      have k0 := cell_later hu c4_0
      have k1 := cell_later hu c4_1
      go_simp
      exact hK _ _ ⟨l0, true, true, l3, l4, l5, l6, l7, l8, false, _, EA, En, Ec, FA, Fn, Fc, rfl, (by simp only [cond_true, List.setIfInBounds_toArray, List.set_cons_zero, List.set_cons_succ]), (fun h => by cases h), hu, hx8, rfl⟩
    case s3 =>
      intro ff gg KK hK
      have f0 : l3 = false := ff
      cases hl : l9
      case true =>
        have := (hall hl).2.2.2.1
        rw [f0] at this
        cases this
      rw [hl] at hv
      simp only [cond_false] at hv
      subst hv
      have t2 : l2 = true := gg ⟨2, .data⟩ (by simp) (by rfl)
      clear ff gg
      subst t2
      subst hl
      subst f0
      simp only [cond_true, cond_false]
      go_simp
      go_at_call 42
      with_reducible refine (ML.out _ (bl_step hu hw6)).mono ?_
      rintro e w' ⟨rfl, hb⟩
      exact hK _ _ ⟨l0, l1, true, true, l4, l5, l6, l7, l8, false, _, EA, En, Ec, FA, Fn, Fc, rfl, (by simp only [cond_true, List.setIfInBounds_toArray, List.set_cons_zero, List.set_cons_succ]), (fun h => by cases h), bl_step hb hu, (fun t => ⟨⟨(hx8 t).1.1.below hb, (hx8 t).1.2⟩, ⟨(hx8 t).2.1.below hb, (hx8 t).2.2⟩⟩), rfl⟩
    case s4 =>
      intro ff gg KK hK
      have f0 : l4 = false := ff
      cases hl : l9
      case true =>
        have := (hall hl).2.2.2.2.1
        rw [f0] at this
        cases this
      rw [hl] at hv
      simp only [cond_false] at hv
      subst hv
      clear ff gg
      subst hl
      subst f0
      simp only [cond_false]
      go_simp
      exact hK _ _ ⟨l0, l1, l2, l3, true, l5, l6, l7, l8, false, _, EA, En, Ec, FA, Fn, Fc, rfl, (by simp only [cond_true, List.setIfInBounds_toArray, List.set_cons_zero, List.set_cons_succ]), (fun h => by cases h), hu, hx8, rfl⟩
    case s5 =>
      intro ff gg KK hK
      have f0 : l5 = false := ff
      cases hl : l9
      case true =>
        have := (hall hl).2.2.2.2.2.1
        rw [f0] at this
        cases this
      rw [hl] at hv
      simp only [cond_false] at hv
      subst hv
      have t4 : l4 = true := gg ⟨4, .data⟩ (by simp) (by rfl)
      clear ff gg
      subst t4
      subst hl
      subst f0
      simp only [cond_true, cond_false]
      have k0 := cell_later hu c3_0
      have k1 := cell_later hu c3_1
      go_simp
      exact hK _ _ ⟨l0, l1, l2, l3, true, true, l6, l7, l8, false, _, EA, En, Ec, FA, Fn, Fc, rfl, (by simp only [cond_true, List.setIfInBounds_toArray, List.set_cons_zero, List.set_cons_succ]), (fun h => by cases h), hu, hx8, rfl⟩
    case s6 =>
      intro ff gg KK hK
      have f0 : l6 = false := ff
      cases hl : l9
      case true =>
        have := (hall hl).2.2.2.2.2.2.1
        rw [f0] at this
        cases this
      rw [hl] at hv
      simp only [cond_false] at hv
      subst hv
      have t5 : l5 = true := gg ⟨5, .data⟩ (by simp) (by rfl)
      clear ff gg
      subst t5
      subst hl
      subst f0
      simp only [cond_true, cond_false]
      go_simp
      go_at_call 42
      with_reducible refine (MH.out _ (bl_step hu hw6)).mono ?_
      rintro e w' ⟨rfl, hb⟩
      exact hK _ _ ⟨l0, l1, l2, l3, l4, true, true, l7, l8, false, _, EA, En, Ec, FA, Fn, Fc, rfl, (by simp only [cond_true, List.setIfInBounds_toArray, List.set_cons_zero, List.set_cons_succ]), (fun h => by cases h), bl_step hb hu, (fun t => ⟨⟨(hx8 t).1.1.below hb, (hx8 t).1.2⟩, ⟨(hx8 t).2.1.below hb, (hx8 t).2.2⟩⟩), rfl⟩
    case s7 =>
      intro ff gg KK hK
      have f0 : l7 = false := ff
      cases hl : l9
      case true =>
        have := (hall hl).2.2.2.2.2.2.2.1
        rw [f0] at this
        cases this
      rw [hl] at hv
      simp only [cond_false] at hv
      subst hv
      have t3 : l3 = true := gg ⟨3, .data⟩ (by simp) (by rfl)
      have t6 : l6 = true := gg ⟨6, .data⟩ (by simp) (by rfl)
      clear ff gg
      subst t3 t6
      subst hl
      subst f0
      simp only [cond_true, cond_false]
      go_simp
      exact hK _ _ ⟨l0, l1, l2, true, l4, l5, true, true, l8, false, _, EA, En, Ec, FA, Fn, Fc, rfl, (by simp only [cond_true, List.setIfInBounds_toArray, List.set_cons_zero, List.set_cons_succ]), (fun h => by cases h), hu, hx8, rfl⟩
    case s8 =>
      intro ff gg KK hK
      have f0 : l8 = false := ff
      cases hl : l9
      case true =>
        have := (hall hl).2.2.2.2.2.2.2.2
        rw [f0] at this
        cases this
      rw [hl] at hv
      simp only [cond_false] at hv
      subst hv
      have t0 : l0 = true := gg ⟨0, .data⟩ (by simp) (by rfl)
      have t7 : l7 = true := gg ⟨7, .data⟩ (by simp) (by rfl)
      clear ff gg
      subst t0 t7
      subst hl
      subst f0
      simp only [cond_true, cond_false]
      go_simp
      go_at_call 25
      with_reducible refine (PL.out _ (bl_step hu hw6)).mono ?_
      rintro e w' ⟨A', n', c', b', A2', n2', c2', b2', rfl, ⟨hd, rfl, hfr⟩, ⟨hd2, rfl, hfr2⟩, hb⟩
      exact hK _ _ ⟨true, l1, l2, l3, l4, l5, l6, true, true, false, _, A', n', c', A2', n2', c2', rfl, (by simp only [cond_true, List.setIfInBounds_toArray, List.set_cons_zero, List.set_cons_succ]), (fun h => by cases h), bl_step hb hu, (fun _ => ⟨⟨hd, hfr.le hu.size⟩, ⟨hd2, hfr2.le hu.size⟩⟩), rfl⟩
    case s9 =>
      intro ff gg KK hK
      have t8 : l8 = true := gg ⟨8, .data⟩ (by simp) (by rfl)
      have t0 : l0 = true := gg ⟨0, .phase⟩ (by simp) (by rfl)
      have t1 : l1 = true := gg ⟨1, .phase⟩ (by simp) (by rfl)
      have t2 : l2 = true := gg ⟨2, .phase⟩ (by simp) (by rfl)
      have t3 : l3 = true := gg ⟨3, .phase⟩ (by simp) (by rfl)
      have t4 : l4 = true := gg ⟨4, .phase⟩ (by simp) (by rfl)
      have t5 : l5 = true := gg ⟨5, .phase⟩ (by simp) (by rfl)
      have t6 : l6 = true := gg ⟨6, .phase⟩ (by simp) (by rfl)
      have t7 : l7 = true := gg ⟨7, .phase⟩ (by simp) (by rfl)
      have f0 : l9 = false := ff
      clear ff gg
      subst t8 t0 t1 t2 t3 t4 t5 t6 t7
      subst f0
      simp only [cond_false] at hv
      subst hv
      simp only [cond_true]
      have k0 := cell_later hu r0
      have k1 := cell_later hu r1
      have k2 := cell_later hu r2
      have k3 := cell_later hu r3
      have z0 : vv.frozen? ⟨w.heap.size + 1 + 1, 0, none⟩ = false := (hu.frozen (p := ⟨w.heap.size + 1 + 1, 0, none⟩) hb3).trans (cf 0)
      have z1 : vv.frozen? ⟨w.heap.size + 1 + 1, 1, none⟩ = false := (hu.frozen (p := ⟨w.heap.size + 1 + 1, 1, none⟩) hb3).trans (cf 1)
      have z2 : vv.frozen? ⟨w.heap.size + 1 + 1, 2, none⟩ = false := (hu.frozen (p := ⟨w.heap.size + 1 + 1, 2, none⟩) hb3).trans (cf 2)
      have z3 : vv.frozen? ⟨w.heap.size + 1 + 1, 3, none⟩ = false := (hu.frozen (p := ⟨w.heap.size + 1 + 1, 3, none⟩) hb3).trans (cf 3)
      go_simp
      exact hK _ _ ⟨true, true, true, true, true, true, true, true, true, true, _, EA, En, Ec, FA, Fn, Fc, rfl, (by simp only [cond_true, List.setIfInBounds_toArray, List.set_cons_zero, List.set_cons_succ]), (fun _ => ⟨rfl, rfl, rfl, rfl, rfl, rfl, rfl, rfl, rfl⟩), hu, hx8, rfl⟩
  case hdone =>
    intro LL aa vv h hd
    obtain ⟨l0, l1, l2, l3, l4, l5, l6, l7, l8, l9, uu, EA, En, Ec, FA, Fn, Fc, hL, ha, hall, hu, hx8, hv⟩ := h
    rw [hL] at hd
    have t0 : l0 = true := hd 0 (by decide)
    have t1 : l1 = true := hd 1 (by decide)
    have t2 : l2 = true := hd 2 (by decide)
    have t3 : l3 = true := hd 3 (by decide)
    have t4 : l4 = true := hd 4 (by decide)
    have t5 : l5 = true := hd 5 (by decide)
    have t6 : l6 = true := hd 6 (by decide)
    have t7 : l7 = true := hd 7 (by decide)
    have t8 : l8 = true := hd 8 (by decide)
    have t9 : l9 = true := hd 9 (by decide)
    clear hd hL hall
    subst t0 t1 t2 t3 t4 t5 t6 t7 t8 t9
    simp only [cond_true, List.setIfInBounds_toArray, List.set_cons_zero, List.set_cons_succ] at ha hv
    subst ha
    subst hv
    replace hx8 := hx8 rfl
    replace r0 := cell_later hu r0
    replace r1 := cell_later hu r1
    replace r2 := cell_later hu r2
    replace r3 := cell_later hu r3
    replace hw6 : Below w.heap.size w uu := bl_step hu hw6
    obtain ⟨⟨ed, ef⟩, ⟨gd, gf⟩⟩ := hx8
    have en : ∀ a, EA = some a → a.block ≠ w.heap.size + 1 + 1 := fun a e => by have := ef a e; omega
    have gn : ∀ a, FA = some a → a.block ≠ w.heap.size + 1 + 1 := fun a e => by have := gf a e; omega
    go_wp2
    exact bodyPost_ret (v := .agg #[.slice EA En Ec, .bool s1, .slice FA Fn Fc, .bool s2]) (by first | (simp only [results, Try.results26]; go_simp; done) | simp [results, Try.results26, go_sem, *]) rfl ⟨EA, En, Ec, _, FA, Fn, Fc, _, rfl, ⟨(((ed.store ⟨w.heap.size + 1 + 1, 0, none⟩ _ en).store ⟨w.heap.size + 1 + 1, 1, none⟩ _ en).store ⟨w.heap.size + 1 + 1, 2, none⟩ _ en).store ⟨w.heap.size + 1 + 1, 3, none⟩ _ en, E1.out.symm, ef.le hw0.size⟩, ⟨(((gd.store ⟨w.heap.size + 1 + 1, 0, none⟩ _ gn).store ⟨w.heap.size + 1 + 1, 1, none⟩ _ gn).store ⟨w.heap.size + 1 + 1, 2, none⟩ _ gn).store ⟨w.heap.size + 1 + 1, 3, none⟩ _ gn, E2.out.symm, gf.le hw0.size⟩, by (repeat (first | (with_reducible exact Below.refl _ _) | (with_reducible refine Below.setCell ?_ (by (first | (simp; done) | (simp; omega) | omega)) _) | (with_reducible refine bl_alloc ?_ _) | (with_reducible refine bl_drewN ?_) | (with_reducible refine bl_drew ?_) | (with_reducible refine bl_step (by assumption) ?_)))⟩
set_option maxHeartbeats 4000000 in
theorem meet06_yes (A1 A2 A3 A4 : Option Addr) (n1 n2 n3 n4 c1 c2 c3 c4 : Nat) (x1 x2 y1 y2 : Int) (w : World) (g1 : Dig w A1 n1 c1 x1.natAbs) (g2 : Dig w A2 n2 c2 x2.natAbs) (g3 : Dig w A3 n3 c3 y1.natAbs) (g4 : Dig w A4 n4 c4 y2.natAbs)
    (p1 : x1.natAbs < pw 30) (p2 : x2.natAbs < pw 30) (p3 : y1.natAbs < pw 30) (p4 : y2.natAbs < pw 30) (h1 : x1 ≤ y2) (h2 : y1 ≤ x2) :
    Calls Try.prog 22 #[.agg #[.slice A1 n1 c1, .bool (decide (x1 < 0)), .slice A2 n2 c2, .bool (decide (x2 < 0))], .agg #[.slice A3 n3 c3, .bool (decide (y1 < 0)), .slice A4 n4 c4, .bool (decide (y2 < 0))]] w fun e w' => e = .returned (.bool true) ∧ Below w.heap.size w w' := by
  have CL := fun v (h : Below w.heap.size w v) => compare02_any A1 A4 n1 n4 c1 c4 x1 y2 v (g1.below h) (g4.below h) p1 p4
  have CH := fun v (h : Below w.heap.size w v) => compare02_any A3 A2 n3 n2 c3 c2 y1 x2 v (g3.below h) (g2.below h) p3 p2
  have k1 : cmpI x1 y2 ≤ 0 := by unfold cmpI; split; omega; split <;> omega
  have k2 : cmpI y1 x2 ≤ 0 := by unfold cmpI; split; omega; split <;> omega
  generalize cmpI x1 y2 = u1 at *
  generalize cmpI y1 x2 = u2 at *
  obtain ⟨b1, e1⟩ : ∃ b1, decide (x1 < 0) = b1 := ⟨_, rfl⟩
  have E1 := hidden e1
  obtain ⟨b2, e2⟩ : ∃ b2, decide (x2 < 0) = b2 := ⟨_, rfl⟩
  have E2 := hidden e2
  obtain ⟨b3, e3⟩ : ∃ b3, decide (y1 < 0) = b3 := ⟨_, rfl⟩
  have E3 := hidden e3
  obtain ⟨b4, e4⟩ : ∃ b4, decide (y2 < 0) = b4 := ⟨_, rfl⟩
  have E4 := hidden e4
  rw [e1, e4] at CL
  rw [e2, e3] at CH
  rw [e1, e2, e3, e4]
  replace CL := hidden CL
  replace CH := hidden CH
  clear e1 e2 e3 e4 E1 E2 E3 E4 g1 g2 g3 g4 p1 p2 p3 p4 h1 h2
  go_enter Try.func22, Try.ntmps22
  go_wp2_with (first | (go_at_call 39; ((with_reducible refine (CL.out _ ?bb).mono ?_); (case bb => (repeat (first | (with_reducible exact Below.refl _ _) | (with_reducible refine Below.setCell ?_ (by (first | (simp; done) | (simp; omega) | omega)) _) | (with_reducible refine bl_alloc ?_ _) | (with_reducible refine bl_drewN ?_) | (with_reducible refine bl_drew ?_) | (with_reducible refine bl_step (by assumption) ?_))); done); rintro e w' ⟨rfl, hb⟩); (try replace hb := below_undrew hb); (try replace hb := below_undrewN hb); obtain ⟨hcell, hfroz⟩ := bcell hb; have hz := hb.size; (try simp at hz); (try (have z6 := Nat.lt_of_lt_of_le z7 hz)); (try (have z7 := Nat.lt_of_lt_of_le z8 hz)); (try (have z8 := Nat.lt_of_lt_of_le z9 hz)); (try (have z9 := Nat.lt_of_lt_of_le (Nat.lt_succ_self _) hz)); (try (have z0 : w.heap.size < w'.heap.size := by omega)); (try (have z1 : w.heap.size + 1 < w'.heap.size := by omega)); (try (have z2 : w.heap.size + 1 + 1 < w'.heap.size := by omega)); (try (have z3 : w.heap.size + 1 + 1 + 1 < w'.heap.size := by omega)); (try (have y1 : w1.heap.size < w'.heap.size := by omega)); (try (have y2 : w2.heap.size < w'.heap.size := by omega)); (try (have y3 : w3.heap.size < w'.heap.size := by omega)); (try (have y4 : w4.heap.size < w'.heap.size := by omega)); (try (have y5 : w5.heap.size < w'.heap.size := by omega)); (try (have y6 : w6.heap.size < w'.heap.size := by omega)); (try (have x1 : w1.heap.size + 1 < w'.heap.size := by omega)); (try (have x2 : w2.heap.size + 1 < w'.heap.size := by omega)); (try (have x3 : w3.heap.size + 1 < w'.heap.size := by omega)); (try (have x4 : w4.heap.size + 1 < w'.heap.size := by omega)); (try (have x5 : w5.heap.size + 1 < w'.heap.size := by omega)); (try (have x6 : w6.heap.size + 1 < w'.heap.size := by omega)); (try (have y7 : w7.heap.size < w'.heap.size := by omega)); (try (have y8 : w8.heap.size < w'.heap.size := by omega)); (try (have y9 : w9.heap.size < w'.heap.size := by omega)); (try (have z10 : w1.heap.size < w'.heap.size + 1 := by omega)); (try (have z20 : w2.heap.size < w'.heap.size + 1 := by omega)); (try (have z30 : w3.heap.size < w'.heap.size + 1 := by omega)); (try (have z40 : w4.heap.size < w'.heap.size + 1 := by omega)); (try (have z50 : w5.heap.size < w'.heap.size + 1 := by omega)); (try (have z60 : w6.heap.size < w'.heap.size + 1 := by omega)); (try (have z70 : w7.heap.size < w'.heap.size + 1 := by omega)); (try (have z80 : w8.heap.size < w'.heap.size + 1 := by omega)); obtain ⟨w1, rfl⟩ : ∃ v, v = w' := ⟨_, rfl⟩) | (go_at_call 39; ((with_reducible refine (CH.out _ ?bb).mono ?_); (case bb => (repeat (first | (with_reducible exact Below.refl _ _) | (with_reducible refine Below.setCell ?_ (by (first | (simp; done) | (simp; omega) | omega)) _) | (with_reducible refine bl_alloc ?_ _) | (with_reducible refine bl_drewN ?_) | (with_reducible refine bl_drew ?_) | (with_reducible refine bl_step (by assumption) ?_))); done); rintro e w' ⟨rfl, hb⟩); (try replace hb := below_undrew hb); (try replace hb := below_undrewN hb); obtain ⟨hcell, hfroz⟩ := bcell hb; have hz := hb.size; (try simp at hz); (try (have z6 := Nat.lt_of_lt_of_le z7 hz)); (try (have z7 := Nat.lt_of_lt_of_le z8 hz)); (try (have z8 := Nat.lt_of_lt_of_le z9 hz)); (try (have z9 := Nat.lt_of_lt_of_le (Nat.lt_succ_self _) hz)); (try (have z0 : w.heap.size < w'.heap.size := by omega)); (try (have z1 : w.heap.size + 1 < w'.heap.size := by omega)); (try (have z2 : w.heap.size + 1 + 1 < w'.heap.size := by omega)); (try (have z3 : w.heap.size + 1 + 1 + 1 < w'.heap.size := by omega)); (try (have y1 : w1.heap.size < w'.heap.size := by omega)); (try (have y2 : w2.heap.size < w'.heap.size := by omega)); (try (have y3 : w3.heap.size < w'.heap.size := by omega)); (try (have y4 : w4.heap.size < w'.heap.size := by omega)); (try (have y5 : w5.heap.size < w'.heap.size := by omega)); (try (have y6 : w6.heap.size < w'.heap.size := by omega)); (try (have x1 : w1.heap.size + 1 < w'.heap.size := by omega)); (try (have x2 : w2.heap.size + 1 < w'.heap.size := by omega)); (try (have x3 : w3.heap.size + 1 < w'.heap.size := by omega)); (try (have x4 : w4.heap.size + 1 < w'.heap.size := by omega)); (try (have x5 : w5.heap.size + 1 < w'.heap.size := by omega)); (try (have x6 : w6.heap.size + 1 < w'.heap.size := by omega)); (try (have y7 : w7.heap.size < w'.heap.size := by omega)); (try (have y8 : w8.heap.size < w'.heap.size := by omega)); (try (have y9 : w9.heap.size < w'.heap.size := by omega)); (try (have z10 : w1.heap.size < w'.heap.size + 1 := by omega)); (try (have z20 : w2.heap.size < w'.heap.size + 1 := by omega)); (try (have z30 : w3.heap.size < w'.heap.size + 1 := by omega)); (try (have z40 : w4.heap.size < w'.heap.size + 1 := by omega)); (try (have z50 : w5.heap.size < w'.heap.size + 1 := by omega)); (try (have z60 : w6.heap.size < w'.heap.size + 1 := by omega)); (try (have z70 : w7.heap.size < w'.heap.size + 1 := by omega)); (try (have z80 : w8.heap.size < w'.heap.size + 1 := by omega)); obtain ⟨w2, rfl⟩ : ∃ v, v = w' := ⟨_, rfl⟩))
  go_ret
  exact ⟨rfl, by (repeat (first | (with_reducible exact Below.refl _ _) | (with_reducible refine Below.setCell ?_ (by (first | (simp; done) | (simp; omega) | omega)) _) | (with_reducible refine bl_alloc ?_ _) | (with_reducible refine bl_drewN ?_) | (with_reducible refine bl_drew ?_) | (with_reducible refine bl_step (by assumption) ?_)))⟩
theorem one06_any (n : Int) (w : World) (n0 : -9223372036854775808 ≤ n) (n1 : n ≤ 9223372036854775807) : Calls Try.prog 21 #[.int .i64 n] w (BoxRes w n n) := by
  have O := fun v => wide06_any n v n0 n1
  unfold NumRes at O
  obtain ⟨b1, e1⟩ : ∃ b1, decide (n < 0) = b1 := ⟨_, rfl⟩
  have E1 := hidden e1
  rw [e1] at O
  replace O := hidden O
  clear e1
  go_enter Try.func21, Try.ntmps21
  go_wp2_with fail
  go_at_call 38
  refine (O.out _).mono ?_
  rintro e w' ⟨A1, n1', c1, b1', rfl, hd1, hb1, hf1, hb⟩
  have G1 := hidden hd1
  have F1 := hidden hf1
  have q1 := hidden hb1
  subst hb1
  clear hd1 hf1
  (try replace hb := below_undrew hb); (try replace hb := below_undrewN hb); obtain ⟨hcell, hfroz⟩ := bcell hb; have hz := hb.size; (try simp at hz); (try (have z6 := Nat.lt_of_lt_of_le z7 hz)); (try (have z7 := Nat.lt_of_lt_of_le z8 hz)); (try (have z8 := Nat.lt_of_lt_of_le z9 hz)); (try (have z9 := Nat.lt_of_lt_of_le (Nat.lt_succ_self _) hz)); (try (have z0 : w.heap.size < w'.heap.size := by omega)); (try (have z1 : w.heap.size + 1 < w'.heap.size := by omega)); (try (have z2 : w.heap.size + 1 + 1 < w'.heap.size := by omega)); (try (have z3 : w.heap.size + 1 + 1 + 1 < w'.heap.size := by omega)); (try (have y1 : w1.heap.size < w'.heap.size := by omega)); (try (have y2 : w2.heap.size < w'.heap.size := by omega)); (try (have y3 : w3.heap.size < w'.heap.size := by omega)); (try (have y4 : w4.heap.size < w'.heap.size := by omega)); (try (have y5 : w5.heap.size < w'.heap.size := by omega)); (try (have y6 : w6.heap.size < w'.heap.size := by omega)); (try (have x1 : w1.heap.size + 1 < w'.heap.size := by omega)); (try (have x2 : w2.heap.size + 1 < w'.heap.size := by omega)); (try (have x3 : w3.heap.size + 1 < w'.heap.size := by omega)); (try (have x4 : w4.heap.size + 1 < w'.heap.size := by omega)); (try (have x5 : w5.heap.size + 1 < w'.heap.size := by omega)); (try (have x6 : w6.heap.size + 1 < w'.heap.size := by omega)); (try (have y7 : w7.heap.size < w'.heap.size := by omega)); (try (have y8 : w8.heap.size < w'.heap.size := by omega)); (try (have y9 : w9.heap.size < w'.heap.size := by omega)); (try (have z10 : w1.heap.size < w'.heap.size + 1 := by omega)); (try (have z20 : w2.heap.size < w'.heap.size + 1 := by omega)); (try (have z30 : w3.heap.size < w'.heap.size + 1 := by omega)); (try (have z40 : w4.heap.size < w'.heap.size + 1 := by omega)); (try (have z50 : w5.heap.size < w'.heap.size + 1 := by omega)); (try (have z60 : w6.heap.size < w'.heap.size + 1 := by omega)); (try (have z70 : w7.heap.size < w'.heap.size + 1 := by omega)); (try (have z80 : w8.heap.size < w'.heap.size + 1 := by omega))
  obtain ⟨w1, rfl⟩ : ∃ v, v = w' := ⟨_, rfl⟩
  go_wp2_with fail
  go_at_call 38
  refine (O.out _).mono ?_
  rintro e w' ⟨A2, n2', c2, b2', rfl, hd2, hb2, hf2, hb⟩
  subst hb2
  have G2 := hidden hd2
  have F2 := hidden hf2
  have D1 := hidden (G1.out.below hb)
  clear hd2 hf2
  (try replace hb := below_undrew hb); (try replace hb := below_undrewN hb); obtain ⟨hcell, hfroz⟩ := bcell hb; have hz := hb.size; (try simp at hz); (try (have z6 := Nat.lt_of_lt_of_le z7 hz)); (try (have z7 := Nat.lt_of_lt_of_le z8 hz)); (try (have z8 := Nat.lt_of_lt_of_le z9 hz)); (try (have z9 := Nat.lt_of_lt_of_le (Nat.lt_succ_self _) hz)); (try (have z0 : w.heap.size < w'.heap.size := by omega)); (try (have z1 : w.heap.size + 1 < w'.heap.size := by omega)); (try (have z2 : w.heap.size + 1 + 1 < w'.heap.size := by omega)); (try (have z3 : w.heap.size + 1 + 1 + 1 < w'.heap.size := by omega)); (try (have y1 : w1.heap.size < w'.heap.size := by omega)); (try (have y2 : w2.heap.size < w'.heap.size := by omega)); (try (have y3 : w3.heap.size < w'.heap.size := by omega)); (try (have y4 : w4.heap.size < w'.heap.size := by omega)); (try (have y5 : w5.heap.size < w'.heap.size := by omega)); (try (have y6 : w6.heap.size < w'.heap.size := by omega)); (try (have x1 : w1.heap.size + 1 < w'.heap.size := by omega)); (try (have x2 : w2.heap.size + 1 < w'.heap.size := by omega)); (try (have x3 : w3.heap.size + 1 < w'.heap.size := by omega)); (try (have x4 : w4.heap.size + 1 < w'.heap.size := by omega)); (try (have x5 : w5.heap.size + 1 < w'.heap.size := by omega)); (try (have x6 : w6.heap.size + 1 < w'.heap.size := by omega)); (try (have y7 : w7.heap.size < w'.heap.size := by omega)); (try (have y8 : w8.heap.size < w'.heap.size := by omega)); (try (have y9 : w9.heap.size < w'.heap.size := by omega)); (try (have z10 : w1.heap.size < w'.heap.size + 1 := by omega)); (try (have z20 : w2.heap.size < w'.heap.size + 1 := by omega)); (try (have z30 : w3.heap.size < w'.heap.size + 1 := by omega)); (try (have z40 : w4.heap.size < w'.heap.size + 1 := by omega)); (try (have z50 : w5.heap.size < w'.heap.size + 1 := by omega)); (try (have z60 : w6.heap.size < w'.heap.size + 1 := by omega)); (try (have z70 : w7.heap.size < w'.heap.size + 1 := by omega)); (try (have z80 : w8.heap.size < w'.heap.size + 1 := by omega))
  have ne1 : ∀ a, A1 = some a → a.block ≠ w.heap.size := fun a e => by have := F1.out a e; simp at this; omega
  have ne2 : ∀ a, A2 = some a → a.block ≠ w.heap.size := fun a e => by have := F2.out a e; omega
  go_wp2
  exact bodyPost_ret (v := .agg #[.slice A1 n1' c1, .bool _, .slice A2 n2' c2, .bool _]) (by first | (simp only [results, Try.results21]; go_simp; done) | simp [results, Try.results21, go_sem, *]) rfl ⟨A1, n1', c1, _, A2, n2', c2, _, rfl, ⟨(((D1.out.store ⟨w.heap.size, 0, none⟩ _ ne1).store ⟨w.heap.size, 1, none⟩ _ ne1).store ⟨w.heap.size, 2, none⟩ _ ne1).store ⟨w.heap.size, 3, none⟩ _ ne1, E1.out.symm, F1.out.le (by simp)⟩, ⟨(((G2.out.store ⟨w.heap.size, 0, none⟩ _ ne2).store ⟨w.heap.size, 1, none⟩ _ ne2).store ⟨w.heap.size, 2, none⟩ _ ne2).store ⟨w.heap.size, 3, none⟩ _ ne2, E1.out.symm, F2.out.le (by omega)⟩, by (repeat (first | (with_reducible exact Below.refl _ _) | (with_reducible refine Below.setCell ?_ (by (first | (simp; done) | (simp; omega) | omega)) _) | (with_reducible refine bl_alloc ?_ _) | (with_reducible refine bl_drewN ?_) | (with_reducible refine bl_drew ?_) | (with_reducible refine bl_step (by assumption) ?_)))⟩

end Go.Proofs.Ytoagcbamlnhkhaa
