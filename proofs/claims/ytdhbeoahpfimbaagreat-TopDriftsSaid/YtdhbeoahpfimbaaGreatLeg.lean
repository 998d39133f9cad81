/- The leg of a difference of latitude and a departure, as a walk by what it calls. -/
import Derived.Test.YtdhbeoahpfimbaaGreatMid3
import Derived.Test.YtdhbeoahpfimbaaGreatRa
namespace Go.Proofs.YtdhbeoahpfimbaaGreat
open Go.RowKit
set_option maxRecDepth 100000 in
set_option maxHeartbeats 8000000 in
theorem leg_walk (a b c d m xl xh yl yh p q s1 t1 s2 t2 u v r s lo hi : Int) (w : World) (h1 : arcB a b = true) (h2 : arcB c d = true) (hm : max b (max (-a) (max d (-c))) = m) (m0 : 0 < m) (hhi : hi ≤ 1099511627776)
    (R1 : Hid (∀ w, Calls Tryz.prog 46 #[.agg #[.int .i64 a, .int .i64 b], .int .i64 m] w fun e w' => e = .returned (.agg #[.int .i64 xl, .int .i64 xh]) ∧ Below w.heap.size w w'))
    (R2 : Hid (∀ w, Calls Tryz.prog 46 #[.agg #[.int .i64 c, .int .i64 d], .int .i64 m] w fun e w' => e = .returned (.agg #[.int .i64 yl, .int .i64 yh]) ∧ Below w.heap.size w w'))
    (B : Hid (∀ w, Calls Tryz.prog 47 #[.agg #[.int .i64 yl, .int .i64 yh], .agg #[.int .i64 xl, .int .i64 xh]] w fun e w' => e = .returned (.tuple #[.agg #[.int .i64 p, .int .i64 q], .int .i64 0]) ∧ Below w.heap.size w w'))
    (S1 : Hid (∀ w, Calls Tryz.prog 48 #[.agg #[.int .i64 xl, .int .i64 xh]] w fun e w' => e = .returned (.tuple #[.agg #[.int .i64 s1, .int .i64 t1], .int .i64 0]) ∧ Below w.heap.size w w'))
    (S2 : Hid (∀ w, Calls Tryz.prog 48 #[.agg #[.int .i64 yl, .int .i64 yh]] w fun e w' => e = .returned (.tuple #[.agg #[.int .i64 s2, .int .i64 t2], .int .i64 0]) ∧ Below w.heap.size w w'))
    (A : Hid (∀ w, Calls Tryz.prog 49 #[.agg #[.int .i64 s1, .int .i64 t1], .agg #[.int .i64 s2, .int .i64 t2]] w fun e w' => e = .returned (.tuple #[.agg #[.int .i64 u, .int .i64 v], .int .i64 0]) ∧ Below w.heap.size w w'))
    (Q : Hid (∀ w, Calls Tryz.prog 50 #[.agg #[.int .i64 u, .int .i64 v]] w fun e w' => e = .returned (.tuple #[.agg #[.int .i64 r, .int .i64 s], .int .i64 0]) ∧ Below w.heap.size w w'))
    (C : Hid (∀ w, Calls Tryz.prog 51 #[.agg #[.int .i64 r, .int .i64 s], .int .i64 m] w fun e w' => e = .returned (.tuple #[.int .i64 lo, .int .i64 hi, .int .i64 0]) ∧ Below w.heap.size w w')) :
    Calls Tryz.prog 11 #[.agg #[.int .i64 a, .int .i64 b], .agg #[.int .i64 c, .int .i64 d]] w fun e w' => e = .returned (.tuple #[.agg #[.int .i64 p, .int .i64 q, .int .i64 lo, .int .i64 hi], .int .i64 0]) ∧ Below w.heap.size w w' := by
  have V1 := hidden fun w => (by have := valid_any a b w; rw [h1] at this; exact this : Calls Tryz.prog 45 #[.agg #[.int .i64 a, .int .i64 b]] w fun e w' => e = .returned (.bool true) ∧ Below w.heap.size w w')
  have V2 := hidden fun w => (by have := valid_any c d w; rw [h2] at this; exact this : Calls Tryz.prog 45 #[.agg #[.int .i64 c, .int .i64 d]] w fun e w' => e = .returned (.bool true) ∧ Below w.heap.size w w')
  obtain ⟨t11, t12, t13⟩ := arcB_t h1
  obtain ⟨t21, t22, t23⟩ := arcB_t h2
  have HM := hidden hm
  have mx : m ≤ 1099511627776 := by omega
  clear h1 h2 hm
  go_enter Tryz.func11, Tryz.ntmps11
  go_upto_region 4 with (((first | (go_at_call 45; ((with_reducible refine (V1.out _).mono ?_); rintro e w' ⟨rfl, hb⟩); have nm0 := trivial) | (go_at_call 45; ((with_reducible refine (V2.out _).mono ?_); rintro e w' ⟨rfl, hb⟩); have nm1 := trivial)); (try replace hb := below_undrew hb); (try replace hb := below_undrewN hb); obtain ⟨hcell, hfroz⟩ := bcell hb; have hz := hb.size; (try simp at hz); (try (have z9 := Nat.lt_of_lt_of_le (Nat.lt_succ_self _) hz)); (try have z0 : w.heap.size < w'.heap.size := by omega); (try have z1 : w.heap.size + 1 < w'.heap.size := by omega); (try have z2 : w.heap.size + 1 + 1 < w'.heap.size := by omega); (try have z3 : w.heap.size + 1 + 1 + 1 < w'.heap.size := by omega); (try have y1 : w1.heap.size < w'.heap.size := by omega); (try have x1 : w1.heap.size + 1 < w'.heap.size := by omega); (try have z10 : w1.heap.size < w'.heap.size + 1 := by omega); (first | (clear nm0; obtain ⟨w1, rfl⟩ : ∃ v, v = w' := ⟨_, rfl⟩) | (clear nm1; obtain ⟨w2, rfl⟩ : ∃ v, v = w' := ⟨_, rfl⟩))))
  rw [HM.out]
  refine name_code ?_
  intro w' hb
  (try replace hb := below_undrew hb); (try replace hb := below_undrewN hb); obtain ⟨hcell, hfroz⟩ := bcell hb; have hz := hb.size; (try simp at hz); (try (have z9 := Nat.lt_of_lt_of_le (Nat.lt_succ_self _) hz)); (try have z0 : w.heap.size < w'.heap.size := by omega); (try have z1 : w.heap.size + 1 < w'.heap.size := by omega); (try have z2 : w.heap.size + 1 + 1 < w'.heap.size := by omega); (try have z3 : w.heap.size + 1 + 1 + 1 < w'.heap.size := by omega); (try have y1 : w1.heap.size < w'.heap.size := by omega); (try have y2 : w2.heap.size < w'.heap.size := by omega); (try have y3 : w3.heap.size < w'.heap.size := by omega); (try have y4 : w4.heap.size < w'.heap.size := by omega); (try have y5 : w5.heap.size < w'.heap.size := by omega); (try have y6 : w6.heap.size < w'.heap.size := by omega); (try have x1 : w1.heap.size + 1 < w'.heap.size := by omega); (try have x2 : w2.heap.size + 1 < w'.heap.size := by omega); (try have x3 : w3.heap.size + 1 < w'.heap.size := by omega); (try have x4 : w4.heap.size + 1 < w'.heap.size := by omega); (try have x5 : w5.heap.size + 1 < w'.heap.size := by omega); (try have x6 : w6.heap.size + 1 < w'.heap.size := by omega); (try have y7 : w7.heap.size < w'.heap.size := by omega); (try have y8 : w8.heap.size < w'.heap.size := by omega); (try have z10 : w1.heap.size < w'.heap.size + 1 := by omega); (try have z20 : w2.heap.size < w'.heap.size + 1 := by omega); (try have z30 : w3.heap.size < w'.heap.size + 1 := by omega); (try have z40 : w4.heap.size < w'.heap.size + 1 := by omega); (try have z50 : w5.heap.size < w'.heap.size + 1 := by omega); (try have z60 : w6.heap.size < w'.heap.size + 1 := by omega); (try have z70 : w7.heap.size < w'.heap.size + 1 := by omega); (try have z80 : w8.heap.size < w'.heap.size + 1 := by omega)
  have p0 : w'.cell? ⟨w.heap.size, 0, none⟩ = some (.int .i64 a) := by simp [go_sem, *]
  have p1 : w'.cell? ⟨w.heap.size, 1, none⟩ = some (.int .i64 b) := by simp [go_sem, *]
  have q0 : w'.cell? ⟨w.heap.size + 1, 0, none⟩ = some (.int .i64 c) := by simp [go_sem, *]
  have q1 : w'.cell? ⟨w.heap.size + 1, 1, none⟩ = some (.int .i64 d) := by simp [go_sem, *]
  have r0 : w'.cell? ⟨w.heap.size + 1 + 1, 0, none⟩ = some (.int .i64 0) := by simp [go_sem, *]
  have r1 : w'.cell? ⟨w.heap.size + 1 + 1, 1, none⟩ = some (.int .i64 0) := by simp [go_sem, *]
  have r2 : w'.cell? ⟨w.heap.size + 1 + 1, 2, none⟩ = some (.int .i64 0) := by simp [go_sem, *]
  have r3 : w'.cell? ⟨w.heap.size + 1 + 1, 3, none⟩ = some (.int .i64 0) := by simp [go_sem, *]
  have rf : ∀ o, w'.frozen? ⟨w.heap.size + 1 + 1, o, none⟩ = false := by intro o; simp [go_sem, *]
  have hw0 : Below w.heap.size w w' := by (repeat (first | (with_reducible exact Below.refl _ _) | (with_reducible refine Below.setCell ?_ (by (first | (simp; done) | (simp; omega) | omega)) _) | (with_reducible refine bl_alloc ?_ _) | (with_reducible refine bl_drewN ?_) | (with_reducible refine bl_drew ?_) | (with_reducible refine bl_step (by assumption) ?_)))
  clear hcell hfroz hz hb
  obtain ⟨V0, rfl⟩ : ∃ v, v = w' := ⟨_, rfl⟩
  have g2 : w.heap.size + 1 + 1 < V0.heap.size := World.block_lt_of_cell? _ _ r0
  have g1 : w.heap.size + 1 < V0.heap.size := by omega
  have g0 : w.heap.size < V0.heap.size := by omega
  have mz : (m == 0) = false := beq_false_of_ne (by omega)
  clear t11 t12 t13 t21 t22 t23 HM
  go_upto_region 6 with fail
  refine wp_region_inv (fun a0 LL aa vv => ∃ (l0 l1 l2 l3 l4 l5 l6 l7 l8 l9 : Bool) (B1 B2 : Nat), LL = #[l0, l1, l2, l3, l4, l5, l6, l7, l8, l9] ∧ aa = { a0 with tmps := ((((((((a0.tmps.setIfInBounds 44 (cond l0 (.agg #[.int .i64 a, .int .i64 b]) (undef))).setIfInBounds 45 (cond l1 (.int .i64 m) (undef))).setIfInBounds 46 (cond l2 (.agg #[.int .i64 xl, .int .i64 xh]) (undef))).setIfInBounds 47 (cond l3 (.agg #[.int .i64 c, .int .i64 d]) (undef))).setIfInBounds 48 (cond l4 (.int .i64 m) (undef))).setIfInBounds 49 (cond l5 (.agg #[.int .i64 yl, .int .i64 yh]) (undef))).setIfInBounds 7 (cond l6 (.pointer (some ⟨B1, 0, none⟩)) (undef))).setIfInBounds 8 (cond l7 (.pointer (some ⟨B2, 0, none⟩)) (undef))) } ∧ Below V0.heap.size V0 vv ∧ (l8 = true → l6 = true) ∧ (l9 = true → l7 = true) ∧ (l6 = true → Room2 V0 vv B1 l8 (xl) (xh)) ∧ (l7 = true → Room2 V0 vv B2 l9 (yl) (yh)) ∧ (l6 = true → l7 = true → B1 ≠ B2)) (by kernel_rfl) (by kernel_rfl) ?h0 ?hsize ?hdone ?hstep
  case h0 =>
    refine ⟨false, false, false, false, false, false, false, false, false, false, 0, 0, rfl, ?_, by (repeat (first | exact Below.refl _ _ | refine bl_drewN ?_ | refine bl_drew ?_ | refine bl_alloc ?_ _ | refine Below.setCell ?_ (by (first | (simp; done) | (simp; omega) | omega)) _ | refine bl_step (by assumption) ?_)), (fun h => by cases h), (fun h => by cases h), (fun h => by cases h), (fun h => by cases h), (fun h => by cases h)⟩
    simp only [cond_false, List.setIfInBounds_toArray, List.set_cons_zero, List.set_cons_succ]
  case hsize =>
    intro LL aa vv h
    obtain ⟨l0, l1, l2, l3, l4, l5, l6, l7, l8, l9, B1, B2, hL, _⟩ := h
    rw [hL]
    rfl
  case hstep =>
    intro LL aa vv h
    obtain ⟨l0, l1, l2, l3, l4, l5, l6, l7, l8, l9, B1, B2, hL, ha, hb0, hq6, hq7, hr6, hr7, hp6_7⟩ := h
    simp only [List.setIfInBounds_toArray, List.set_cons_zero, List.set_cons_succ] at ha
    subst hL
    subst ha
    refine ⟨?s0, ?s1, ?s2, ?s3, ?s4, ?s5, ?s6, ?s7, ?s8, ?s9, trivial⟩
    case s0 =>
      intro ff gg KK hK
      have f0 : l0 = false := ff
      clear ff gg
      subst f0
      simp only [cond_false]
      have p0 : vv.cell? ⟨w.heap.size, 0, none⟩ = some (.int .i64 a) := cell_later hb0 p0
      have p1 : vv.cell? ⟨w.heap.size, 1, none⟩ = some (.int .i64 b) := cell_later hb0 p1
      go_simp
      exact hK _ _ ⟨true, l1, l2, l3, l4, l5, l6, l7, l8, l9, B1, B2, rfl, (by simp only [cond_true, List.setIfInBounds_toArray, List.set_cons_zero, List.set_cons_succ]), hb0, hq6, hq7, hr6, hr7, hp6_7⟩
    case s1 =>
      intro ff gg KK hK
      have f0 : l1 = false := ff
      clear ff gg
      subst f0
      simp only [cond_false]
      go_simp
      exact hK _ _ ⟨l0, true, l2, l3, l4, l5, l6, l7, l8, l9, B1, B2, rfl, (by simp only [cond_true, List.setIfInBounds_toArray, List.set_cons_zero, List.set_cons_succ]), hb0, hq6, hq7, hr6, hr7, hp6_7⟩
    case s2 =>
      intro ff gg KK hK
      have t0 : l0 = true := gg ⟨0, .data⟩ (by simp) (by rfl)
      have t1 : l1 = true := gg ⟨1, .data⟩ (by simp) (by rfl)
      have f0 : l2 = false := ff
      clear ff gg
      subst t0 t1
      subst f0
      simp only [cond_true, cond_false]
      go_simp
      ((go_at_call 46; ((with_reducible refine (R1.out _).mono ?_); rintro e w' ⟨rfl, hb⟩)))
      exact hK _ _ ⟨true, true, true, l3, l4, l5, l6, l7, l8, l9, B1, B2, rfl, (by simp only [cond_true, List.setIfInBounds_toArray, List.set_cons_zero, List.set_cons_succ]), bl_step hb hb0, hq6, hq7, (fun t => (hr6 t).later hb), (fun t => (hr7 t).later hb), hp6_7⟩
    case s3 =>
      intro ff gg KK hK
      have f0 : l3 = false := ff
      clear ff gg
      subst f0
      simp only [cond_false]
      have q0 : vv.cell? ⟨w.heap.size + 1, 0, none⟩ = some (.int .i64 c) := cell_later hb0 q0
      have q1 : vv.cell? ⟨w.heap.size + 1, 1, none⟩ = some (.int .i64 d) := cell_later hb0 q1
      go_simp
      exact hK _ _ ⟨l0, l1, l2, true, l4, l5, l6, l7, l8, l9, B1, B2, rfl, (by simp only [cond_true, List.setIfInBounds_toArray, List.set_cons_zero, List.set_cons_succ]), hb0, hq6, hq7, hr6, hr7, hp6_7⟩
    case s4 =>
      intro ff gg KK hK
      have f0 : l4 = false := ff
      clear ff gg
      subst f0
      simp only [cond_false]
      go_simp
      exact hK _ _ ⟨l0, l1, l2, l3, true, l5, l6, l7, l8, l9, B1, B2, rfl, (by simp only [cond_true, List.setIfInBounds_toArray, List.set_cons_zero, List.set_cons_succ]), hb0, hq6, hq7, hr6, hr7, hp6_7⟩
    case s5 =>
      intro ff gg KK hK
      have t3 : l3 = true := gg ⟨3, .data⟩ (by simp) (by rfl)
      have t4 : l4 = true := gg ⟨4, .data⟩ (by simp) (by rfl)
      have t2 : l2 = true := gg ⟨2, .chain⟩ (by simp) (by rfl)
      have f0 : l5 = false := ff
      clear ff gg
      subst t3 t4 t2
      subst f0
      simp only [cond_true, cond_false]
      go_simp
      ((go_at_call 46; ((with_reducible refine (R2.out _).mono ?_); rintro e w' ⟨rfl, hb⟩)))
      exact hK _ _ ⟨l0, l1, true, true, true, true, l6, l7, l8, l9, B1, B2, rfl, (by simp only [cond_true, List.setIfInBounds_toArray, List.set_cons_zero, List.set_cons_succ]), bl_step hb hb0, hq6, hq7, (fun t => (hr6 t).later hb), (fun t => (hr7 t).later hb), hp6_7⟩
    case s6 =>
      intro ff gg KK hK
      have f0 : l6 = false := ff
      clear ff gg
      subst f0
      simp only [cond_false]
      go_simp
      exact hK _ _ ⟨l0, l1, l2, l3, l4, l5, true, l7, l8, l9, vv.heap.size, B2, rfl, (by simp only [cond_true, List.setIfInBounds_toArray, List.set_cons_zero, List.set_cons_succ]), (by (repeat (first | (with_reducible exact Below.refl _ _) | (with_reducible refine Below.setCell ?_ (by (first | (simp; done) | (simp; omega) | omega)) _) | (with_reducible refine bl_alloc ?_ _) | (with_reducible refine bl_drewN ?_) | (with_reducible refine bl_drew ?_) | (with_reducible refine bl_step (by assumption) ?_)))), (fun _ => rfl), hq7, (fun _ => Room2.alloc hb0 _ _ _ _ _ _ hq6), (fun t => (hr7 t).later (by (repeat (first | (with_reducible exact Below.refl _ _) | (with_reducible refine Below.setCell ?_ (by (first | (simp; done) | (simp; omega) | omega)) _) | (with_reducible refine bl_alloc ?_ _) | (with_reducible refine bl_drewN ?_) | (with_reducible refine bl_drew ?_) | (with_reducible refine bl_step (by assumption) ?_))))), (fun _ t => Nat.ne_of_gt (hr7 t).2.1)⟩
    case s7 =>
      intro ff gg KK hK
      have f0 : l7 = false := ff
      clear ff gg
      subst f0
      simp only [cond_false]
      go_simp
      exact hK _ _ ⟨l0, l1, l2, l3, l4, l5, l6, true, l8, l9, B1, vv.heap.size, rfl, (by simp only [cond_true, List.setIfInBounds_toArray, List.set_cons_zero, List.set_cons_succ]), (by (repeat (first | (with_reducible exact Below.refl _ _) | (with_reducible refine Below.setCell ?_ (by (first | (simp; done) | (simp; omega) | omega)) _) | (with_reducible refine bl_alloc ?_ _) | (with_reducible refine bl_drewN ?_) | (with_reducible refine bl_drew ?_) | (with_reducible refine bl_step (by assumption) ?_)))), hq6, (fun _ => rfl), (fun t => (hr6 t).later (by (repeat (first | (with_reducible exact Below.refl _ _) | (with_reducible refine Below.setCell ?_ (by (first | (simp; done) | (simp; omega) | omega)) _) | (with_reducible refine bl_alloc ?_ _) | (with_reducible refine bl_drewN ?_) | (with_reducible refine bl_drew ?_) | (with_reducible refine bl_step (by assumption) ?_))))), (fun _ => Room2.alloc hb0 _ _ _ _ _ _ hq7), (fun t _ => Nat.ne_of_lt (hr6 t).2.1)⟩
    case s8 =>
      intro ff gg KK hK
      have t6 : l6 = true := gg ⟨6, .data⟩ (by simp) (by rfl)
      have t2 : l2 = true := gg ⟨2, .data⟩ (by simp) (by rfl)
      have t5 : l5 = true := gg ⟨5, .chain⟩ (by simp) (by rfl)
      have f0 : l8 = false := ff
      clear ff gg
      subst t6 t2 t5
      subst f0
      simp only [cond_true]
      have rr := hr6 rfl
      obtain ⟨m1, m2, fz0, fz1, y0, y1, cz0, cz1, m7⟩ := rr
      go_simp
      exact hK _ _ ⟨l0, l1, true, l3, l4, true, true, l7, true, l9, B1, B2, rfl, (by simp only [cond_true, List.setIfInBounds_toArray, List.set_cons_zero, List.set_cons_succ]), ((hb0.setCell m1 _).setCell m1 _), (fun _ => rfl), hq7, (fun _ => (hr6 rfl).store _ _ _), (fun t => (hr7 t).apart (Ne.symm (hp6_7 rfl t)) _ _), hp6_7⟩
    case s9 =>
      intro ff gg KK hK
      have t7 : l7 = true := gg ⟨7, .data⟩ (by simp) (by rfl)
      have t5 : l5 = true := gg ⟨5, .data⟩ (by simp) (by rfl)
      have t8 : l8 = true := gg ⟨8, .chain⟩ (by simp) (by rfl)
      have f0 : l9 = false := ff
      clear ff gg
      subst t7 t5 t8
      have uq6 : l6 = true := hq6 rfl
      subst uq6
      subst f0
      simp only [cond_true]
      have rr := hr7 rfl
      obtain ⟨m1, m2, fz0, fz1, y0, y1, cz0, cz1, m7⟩ := rr
      go_simp
      exact hK _ _ ⟨l0, l1, l2, l3, l4, true, true, true, true, true, B1, B2, rfl, (by simp only [cond_true, List.setIfInBounds_toArray, List.set_cons_zero, List.set_cons_succ]), ((hb0.setCell m1 _).setCell m1 _), hq6, (fun _ => rfl), (fun t => (hr6 t).apart (hp6_7 t rfl) _ _), (fun _ => (hr7 rfl).store _ _ _), hp6_7⟩
  case hdone =>
    intro LL aa vv h hd
    obtain ⟨l0, l1, l2, l3, l4, l5, l6, l7, l8, l9, B1, B2, hL, ha, hb0, hq6, hq7, hr6, hr7, hp6_7⟩ := h
    rw [hL] at hd
    have t0 : l0 = true := hd 0 (by decide)
    have t1 : l1 = true := hd 1 (by decide)
    have t2 : l2 = true := hd 2 (by decide)
    have t3 : l3 = true := hd 3 (by decide)
    have t4 : l4 = true := hd 4 (by decide)
    have t5 : l5 = true := hd 5 (by decide)
    have t6 : l6 = true := hd 6 (by decide)
    have t7 : l7 = true := hd 7 (by decide)
    have t8 : l8 = true := hd 8 (by decide)
    have t9 : l9 = true := hd 9 (by decide)
    clear hd hL hq6 hq7
    subst t0 t1 t2 t3 t4 t5 t6 t7 t8 t9
    simp only [cond_true, List.setIfInBounds_toArray, List.set_cons_zero, List.set_cons_succ] at ha
    subst ha
    obtain ⟨B1g, B1l, _, _, y0, y1, B1c0, B1c1, hy⟩ := hr6 rfl
    obtain ⟨rfl, rfl⟩ := hy rfl
    obtain ⟨B2g, B2l, _, _, y0, y1, B2c0, B2c1, hy⟩ := hr7 rfl
    obtain ⟨rfl, rfl⟩ := hy rfl
    have B1B2ne := hp6_7 rfl rfl
    clear hr6 hr7 hp6_7
    have r0 := cell_later hb0 r0
    have r1 := cell_later hb0 r1
    have r2 := cell_later hb0 r2
    have r3 := cell_later hb0 r3
    have rf : ∀ o, vv.frozen? ⟨w.heap.size + 1 + 1, o, none⟩ = false := fun o => (hb0.frozen (p := ⟨w.heap.size + 1 + 1, o, none⟩) g2).trans (rf o)
    have hw1 : Below w.heap.size w vv := Below.trans hw0 (hb0.mono (by omega))
    have g9 := hb0.size
    have g2 : w.heap.size + 1 + 1 < vv.heap.size := by omega
    clear g0 g1 p0 p1 q0 q1 hw0 hb0 g9
    go_wp2_with (((first | (go_at_call 47; ((with_reducible refine (B.out _).mono ?_); rintro e w' ⟨rfl, hb⟩); have nm0 := trivial) | (go_at_call 48; ((with_reducible refine (S1.out _).mono ?_); rintro e w' ⟨rfl, hb⟩); have nm1 := trivial) | (go_at_call 48; ((with_reducible refine (S2.out _).mono ?_); rintro e w' ⟨rfl, hb⟩); have nm2 := trivial) | (go_at_call 49; ((with_reducible refine (A.out _).mono ?_); rintro e w' ⟨rfl, hb⟩); have nm3 := trivial) | (go_at_call 50; ((with_reducible refine (Q.out _).mono ?_); rintro e w' ⟨rfl, hb⟩); have nm4 := trivial) | (go_at_call 51; ((with_reducible refine (C.out _).mono ?_); rintro e w' ⟨rfl, hb⟩); have nm5 := trivial)); (try replace hb := below_undrew hb); (try replace hb := below_undrewN hb); obtain ⟨hcell, hfroz⟩ := bcell hb; have hz := hb.size; (try simp at hz); (try (have z9 := Nat.lt_of_lt_of_le (Nat.lt_succ_self _) hz)); (try have z0 : w.heap.size < w'.heap.size := by omega); (try have z1 : w.heap.size + 1 < w'.heap.size := by omega); (try have z2 : w.heap.size + 1 + 1 < w'.heap.size := by omega); (try have z3 : w.heap.size + 1 + 1 + 1 < w'.heap.size := by omega); (try have y1 : w1.heap.size < w'.heap.size := by omega); (try have y2 : w2.heap.size < w'.heap.size := by omega); (try have y3 : w3.heap.size < w'.heap.size := by omega); (try have y4 : w4.heap.size < w'.heap.size := by omega); (try have y5 : w5.heap.size < w'.heap.size := by omega); (try have y6 : w6.heap.size < w'.heap.size := by omega); (try have x1 : w1.heap.size + 1 < w'.heap.size := by omega); (try have x2 : w2.heap.size + 1 < w'.heap.size := by omega); (try have x3 : w3.heap.size + 1 < w'.heap.size := by omega); (try have x4 : w4.heap.size + 1 < w'.heap.size := by omega); (try have x5 : w5.heap.size + 1 < w'.heap.size := by omega); (try have x6 : w6.heap.size + 1 < w'.heap.size := by omega); (try have hB1 : B1 < w'.heap.size := by omega); (try have hB2 : B2 < w'.heap.size := by omega); (try have hB3 : B1 < w'.heap.size + 1 := by omega); (try have hB4 : B2 < w'.heap.size + 1 := by omega); (first | (clear nm0; obtain ⟨w3, rfl⟩ : ∃ v, v = w' := ⟨_, rfl⟩) | (clear nm1; obtain ⟨w4, rfl⟩ : ∃ v, v = w' := ⟨_, rfl⟩) | (clear nm2; obtain ⟨w5, rfl⟩ : ∃ v, v = w' := ⟨_, rfl⟩) | (clear nm3; obtain ⟨w6, rfl⟩ : ∃ v, v = w' := ⟨_, rfl⟩) | (clear nm4; obtain ⟨w7, rfl⟩ : ∃ v, v = w' := ⟨_, rfl⟩) | (clear nm5; obtain ⟨w8, rfl⟩ : ∃ v, v = w' := ⟨_, rfl⟩))))
    exact bodyPost_ret (v := .tuple #[.agg #[.int .i64 p, .int .i64 q, .int .i64 lo, .int .i64 hi], .int .i64 0]) (by first | (simp only [results, Tryz.results11]; go_simp; done) | simp [results, Tryz.results11, go_sem, *]) rfl ⟨rfl, by (repeat (first | (with_reducible exact Below.refl _ _) | (with_reducible refine Below.setCell ?_ (by (first | (simp; done) | (simp; omega) | omega)) _) | (with_reducible refine bl_alloc ?_ _) | (with_reducible refine bl_drewN ?_) | (with_reducible refine bl_drew ?_) | (with_reducible refine bl_step (by assumption) ?_)))⟩
end Go.Proofs.YtdhbeoahpfimbaaGreat
