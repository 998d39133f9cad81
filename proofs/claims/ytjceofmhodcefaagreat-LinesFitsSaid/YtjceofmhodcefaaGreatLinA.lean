/- The examples of chapter 37 hold, over what Cross, Least and Move return. -/
import Derived.Test.YtjceofmhodcefaaGreatLi8
import Derived.Test.YtjceofmhodcefaaGreatRa
import Derived.Deep.DeepCutAuto
import Derived.Deep.Cut
namespace Go.Proofs.YtjceofmhodcefaaGreat
open Go.RowKit

def Room6 (w0 w : World) (B : Nat) (d : Bool) (v0 v1 v2 v3 v4 v5 : Int) : Prop :=
  w0.heap.size ≤ B ∧ B < w.heap.size ∧ w.frozen? ⟨B, 0, none⟩ = false ∧ w.frozen? ⟨B, 1, none⟩ = false ∧ w.frozen? ⟨B, 2, none⟩ = false ∧ w.frozen? ⟨B, 3, none⟩ = false ∧ w.frozen? ⟨B, 4, none⟩ = false ∧ w.frozen? ⟨B, 5, none⟩ = false ∧ ∃ x0 x1 x2 x3 x4 x5, w.cell? ⟨B, 0, none⟩ = some x0 ∧ w.cell? ⟨B, 1, none⟩ = some x1 ∧ w.cell? ⟨B, 2, none⟩ = some x2 ∧ w.cell? ⟨B, 3, none⟩ = some x3 ∧ w.cell? ⟨B, 4, none⟩ = some x4 ∧ w.cell? ⟨B, 5, none⟩ = some x5 ∧ (d = true → x0 = .int .i64 v0 ∧ x1 = .int .i64 v1 ∧ x2 = .int .i64 v2 ∧ x3 = .int .i64 v3 ∧ x4 = .int .i64 v4 ∧ x5 = .int .i64 v5)
theorem Room6.later {w0 w w' : World} {B : Nat} {d : Bool} {v0 v1 v2 v3 v4 v5 : Int} (hb : Below w.heap.size w w') (h : Room6 w0 w B d v0 v1 v2 v3 v4 v5) : Room6 w0 w' B d v0 v1 v2 v3 v4 v5 := by
  obtain ⟨h1, h2, f0, f1, f2, f3, f4, f5, x0, x1, x2, x3, x4, x5, c0, c1, c2, c3, c4, c5, h7⟩ := h
  exact ⟨h1, Nat.lt_of_lt_of_le h2 hb.size, (hb.frozen (p := ⟨B, 0, none⟩) h2).trans f0, (hb.frozen (p := ⟨B, 1, none⟩) h2).trans f1, (hb.frozen (p := ⟨B, 2, none⟩) h2).trans f2, (hb.frozen (p := ⟨B, 3, none⟩) h2).trans f3, (hb.frozen (p := ⟨B, 4, none⟩) h2).trans f4, (hb.frozen (p := ⟨B, 5, none⟩) h2).trans f5, x0, x1, x2, x3, x4, x5, (hb.cell (p := ⟨B, 0, none⟩) h2).trans c0, (hb.cell (p := ⟨B, 1, none⟩) h2).trans c1, (hb.cell (p := ⟨B, 2, none⟩) h2).trans c2, (hb.cell (p := ⟨B, 3, none⟩) h2).trans c3, (hb.cell (p := ⟨B, 4, none⟩) h2).trans c4, (hb.cell (p := ⟨B, 5, none⟩) h2).trans c5, h7⟩
theorem Room6.alloc {w0 w : World} (h : Below w0.heap.size w0 w) (x0 x1 x2 x3 x4 x5 : Value) (t : Nat) (d : Bool) (v0 v1 v2 v3 v4 v5 : Int) (hd : d = true → false = true) : Room6 w0 (w.alloc (Obj.cells #[x0, x1, x2, x3, x4, x5] t)) w.heap.size d v0 v1 v2 v3 v4 v5 := by
  refine ⟨h.size, by simp [go_sem], by simp [go_sem], by simp [go_sem], by simp [go_sem], by simp [go_sem], by simp [go_sem], by simp [go_sem], x0, x1, x2, x3, x4, x5, by simp [go_sem], by simp [go_sem], by simp [go_sem], by simp [go_sem], by simp [go_sem], by simp [go_sem], fun e => ?_⟩
  have := hd e
  cases this
theorem Room6.store {w0 w : World} {B : Nat} {d : Bool} {v0 v1 v2 v3 v4 v5 : Int} (u0 u1 u2 u3 u4 u5 : Int) (h : Room6 w0 w B d v0 v1 v2 v3 v4 v5) (d' : Bool) : Room6 w0 ((((((w.setCell ⟨B, 0, none⟩ (.int .i64 u0)).setCell ⟨B, 1, none⟩ (.int .i64 u1)).setCell ⟨B, 2, none⟩ (.int .i64 u2)).setCell ⟨B, 3, none⟩ (.int .i64 u3)).setCell ⟨B, 4, none⟩ (.int .i64 u4)).setCell ⟨B, 5, none⟩ (.int .i64 u5)) B d' u0 u1 u2 u3 u4 u5 := by
  obtain ⟨h1, h2, f0, f1, f2, f3, f4, f5, x0, x1, x2, x3, x4, x5, c0, c1, c2, c3, c4, c5, h7⟩ := h
  refine ⟨h1, by simpa using h2, by simpa using f0, by simpa using f1, by simpa using f2, by simpa using f3, by simpa using f4, by simpa using f5, .int .i64 u0, .int .i64 u1, .int .i64 u2, .int .i64 u3, .int .i64 u4, .int .i64 u5, ?_, ?_, ?_, ?_, ?_, ?_, fun _ => ⟨rfl, rfl, rfl, rfl, rfl, rfl⟩⟩
  · simp [go_sem, *]
  · simp [go_sem, *]
  · simp [go_sem, *]
  · simp [go_sem, *]
  · simp [go_sem, *]
  · simp [go_sem, *]

set_option maxRecDepth 100000 in
set_option maxHeartbeats 8000000 in
theorem awake37_walk (w : World)
    (CR : Hid (∀ w, Calls Tryz.prog 9 #[.agg #[.int .i64 0, .int .i64 0, .int .i64 0, .int .i64 0, .int .i64 5000, .int .i64 5000], .agg #[.int .i64 0, .int .i64 0, .int .i64 5400000, .int .i64 5400000, .int .i64 3000, .int .i64 3000]] w fun e w' => e = .returned (.tuple #[.agg #[.int .i64 5000, .int .i64 5000, .int .i64 3000, .int .i64 3000], .int .i64 0]) ∧ Below w.heap.size w w'))
    (LE : Hid (∀ (B1 : Nat) (w : World), w.cell? ⟨B1, 0, none⟩ = some (.int .i64 0) → w.cell? ⟨B1, 1, none⟩ = some (.int .i64 0) → w.cell? ⟨B1, 2, none⟩ = some (.int .i64 0) → w.cell? ⟨B1, 3, none⟩ = some (.int .i64 0) → w.cell? ⟨B1, 4, none⟩ = some (.int .i64 5000) → w.cell? ⟨B1, 5, none⟩ = some (.int .i64 5000) → w.cell? ⟨B1, 6, none⟩ = some (.int .i64 0) → w.cell? ⟨B1, 7, none⟩ = some (.int .i64 0) → w.cell? ⟨B1, 8, none⟩ = some (.int .i64 5400000) → w.cell? ⟨B1, 9, none⟩ = some (.int .i64 5400000) → w.cell? ⟨B1, 10, none⟩ = some (.int .i64 3000) → w.cell? ⟨B1, 11, none⟩ = some (.int .i64 3000) → Calls Tryz.prog 5 #[.slice (some ⟨B1, 0, none⟩) 2 2] w fun e w' => (∃ g cap : Nat, e = .returned (.tuple #[.agg #[.int .i64 5000, .int .i64 3000], .slice (some ⟨g, 0, none⟩) 2 cap, .int .i64 0]) ∧ w'.cell? ⟨g, 0, none⟩ = some (.int .i64 0) ∧ w'.cell? ⟨g, 1, none⟩ = some (.int .i64 0)) ∧ Below w.heap.size w w'))
    (MV : Hid (∀ w, Calls Tryz.prog 10 #[.agg #[.int .i64 0, .int .i64 0, .int .i64 0, .int .i64 0, .int .i64 5000, .int .i64 5000], .agg #[.int .i64 0, .int .i64 0, .int .i64 10000, .int .i64 10000]] w fun e w' => e = .returned (.tuple #[.agg #[.int .i64 0, .int .i64 0, .int .i64 0, .int .i64 0, .int .i64 15000, .int .i64 15000], .int .i64 0]) ∧ Below w.heap.size w w'))
    : Calls Tryz.prog 4 #[] w fun e w' => e = .returned (.bool true) ∧ Below w.heap.size w w' := by
  go_enter Tryz.func4, Tryz.ntmps4
  go_wp2_with ((first | (go_at_call 8; ((with_reducible refine (one37_any 5000 _).mono ?_); rintro e w' ⟨rfl, hb⟩); have nm0 := trivial) | (go_at_call 8; ((with_reducible refine (one37_any 5400000 _).mono ?_); rintro e w' ⟨rfl, hb⟩); have nm1 := trivial) | (go_at_call 8; ((with_reducible refine (one37_any 3000 _).mono ?_); rintro e w' ⟨rfl, hb⟩); have nm2 := trivial) | (go_at_call 9; ((with_reducible refine (CR.out _).mono ?_); rintro e w' ⟨rfl, hb⟩); have nm3 := trivial) | (go_at_call 5; ((with_reducible refine (LE.out _ _ ?q0 ?q1 ?q2 ?q3 ?q4 ?q5 ?q6 ?q7 ?q8 ?q9 ?q10 ?q11).mono ?_); (case q0 => (simp [go_sem, *]; done)); (case q1 => (simp [go_sem, *]; done)); (case q2 => (simp [go_sem, *]; done)); (case q3 => (simp [go_sem, *]; done)); (case q4 => (simp [go_sem, *]; done)); (case q5 => (simp [go_sem, *]; done)); (case q6 => (simp [go_sem, *]; done)); (case q7 => (simp [go_sem, *]; done)); (case q8 => (simp [go_sem, *]; done)); (case q9 => (simp [go_sem, *]; done)); (case q10 => (simp [go_sem, *]; done)); (case q11 => (simp [go_sem, *]; done)); rintro e w' ⟨⟨g, cap, rfl, g0, g1⟩, hb⟩); have nm4 := trivial)); (try replace hb := below_undrew hb); (try replace hb := below_undrewN hb); obtain ⟨hcell, hfroz⟩ := bcell hb; have hz := hb.size; (try simp at hz); (try (have z6 := Nat.lt_of_lt_of_le z7 hz)); (try (have z7 := Nat.lt_of_lt_of_le z8 hz)); (try (have z8 := Nat.lt_of_lt_of_le z9 hz)); (try (have z9 := Nat.lt_of_lt_of_le (Nat.lt_succ_self _) hz)); (try (have z0 : w.heap.size < w'.heap.size := by omega)); (try (have z1 : w.heap.size + 1 < w'.heap.size := by omega)); (try (have z2 : w.heap.size + 1 + 1 < w'.heap.size := by omega)); (try (have z3 : w.heap.size + 1 + 1 + 1 < w'.heap.size := by omega)); (try (have y1 : w1.heap.size < w'.heap.size := by omega)); (try (have y2 : w2.heap.size < w'.heap.size := by omega)); (try (have y3 : w3.heap.size < w'.heap.size := by omega)); (try (have y4 : w4.heap.size < w'.heap.size := by omega)); (try (have x1 : w1.heap.size + 1 < w'.heap.size := by omega)); (try (have x2 : w2.heap.size + 1 < w'.heap.size := by omega)); (try (have x3 : w3.heap.size + 1 < w'.heap.size := by omega)); (try (have x4 : w4.heap.size + 1 < w'.heap.size := by omega)); (try (have z10 : w1.heap.size < w'.heap.size + 1 := by omega)); (try (have z20 : w2.heap.size < w'.heap.size + 1 := by omega)); (try (have z30 : w3.heap.size < w'.heap.size + 1 := by omega)); (try (have z40 : w4.heap.size < w'.heap.size + 1 := by omega)); (first | (clear nm0; obtain ⟨w1, rfl⟩ : ∃ v, v = w' := ⟨_, rfl⟩) | (clear nm1; obtain ⟨w2, rfl⟩ : ∃ v, v = w' := ⟨_, rfl⟩) | (clear nm2; obtain ⟨w3, rfl⟩ : ∃ v, v = w' := ⟨_, rfl⟩) | (clear nm3; obtain ⟨w4, rfl⟩ : ∃ v, v = w' := ⟨_, rfl⟩) | (clear nm4; obtain ⟨w5, rfl⟩ : ∃ v, v = w' := ⟨_, rfl⟩)))
  (refine name_below ?_; intro w' hb; (try replace hb := below_undrew hb); (try replace hb := below_undrewN hb); obtain ⟨hcell, hfroz⟩ := bcell hb; have hz := hb.size; (try simp at hz); (try (have z6 := Nat.lt_of_lt_of_le z7 hz)); (try (have z7 := Nat.lt_of_lt_of_le z8 hz)); (try (have z8 := Nat.lt_of_lt_of_le z9 hz)); (try (have z9 := Nat.lt_of_lt_of_le (Nat.lt_succ_self _) hz)); (try (have z0 : w.heap.size < w'.heap.size := by omega)); (try (have z1 : w.heap.size + 1 < w'.heap.size := by omega)); (try (have z2 : w.heap.size + 1 + 1 < w'.heap.size := by omega)); (try (have z3 : w.heap.size + 1 + 1 + 1 < w'.heap.size := by omega)); (try (have y1 : w1.heap.size < w'.heap.size := by omega)); (try (have y2 : w2.heap.size < w'.heap.size := by omega)); (try (have y3 : w3.heap.size < w'.heap.size := by omega)); (try (have y4 : w4.heap.size < w'.heap.size := by omega)); (try (have y5 : w5.heap.size < w'.heap.size := by omega)); (try (have y6 : w6.heap.size < w'.heap.size := by omega)); (try (have x1 : w1.heap.size + 1 < w'.heap.size := by omega)); (try (have x2 : w2.heap.size + 1 < w'.heap.size := by omega)); (try (have x3 : w3.heap.size + 1 < w'.heap.size := by omega)); (try (have x4 : w4.heap.size + 1 < w'.heap.size := by omega)); (try (have x5 : w5.heap.size + 1 < w'.heap.size := by omega)); (try (have x6 : w6.heap.size + 1 < w'.heap.size := by omega)); (try (have z10 : w1.heap.size < w'.heap.size + 1 := by omega)); (try (have z20 : w2.heap.size < w'.heap.size + 1 := by omega)); (try (have z30 : w3.heap.size < w'.heap.size + 1 := by omega)); (try (have z40 : w4.heap.size < w'.heap.size + 1 := by omega)); (try (have z50 : w5.heap.size < w'.heap.size + 1 := by omega)); (try (have z60 : w6.heap.size < w'.heap.size + 1 := by omega)))
  have hw6 : Below w.heap.size w w' := by (repeat (first | exact Below.refl _ _ | refine bl_drewN ?_ | refine bl_drew ?_ | refine bl_alloc ?_ _ | refine Below.setCell ?_ (by (first | (simp; done) | (simp; omega) | omega)) _ | refine bl_step (by assumption) ?_))
  have lg5 : g < w5.heap.size := World.block_lt_of_cell? _ _ g0
  have lgw : g < w'.heap.size := by omega
  have ca4 : w'.cell? ⟨w1.heap.size, 4, none⟩ = some (.int .i64 5000) := by simp [go_sem, *]
  have ca5 : w'.cell? ⟨w1.heap.size, 5, none⟩ = some (.int .i64 5000) := by simp [go_sem, *]
  have cA0 : w'.cell? ⟨w1.heap.size, 0, none⟩ = some (.int .i64 0) := by simp [go_sem, *]
  have cA1 : w'.cell? ⟨w1.heap.size, 1, none⟩ = some (.int .i64 0) := by simp [go_sem, *]
  have cA2 : w'.cell? ⟨w1.heap.size, 2, none⟩ = some (.int .i64 0) := by simp [go_sem, *]
  have cA3 : w'.cell? ⟨w1.heap.size, 3, none⟩ = some (.int .i64 0) := by simp [go_sem, *]
  have cp0 : w'.cell? ⟨w4.heap.size, 0, none⟩ = some (.int .i64 5000) := by simp [go_sem, *]
  have cp1 : w'.cell? ⟨w4.heap.size, 1, none⟩ = some (.int .i64 5000) := by simp [go_sem, *]
  have cp2 : w'.cell? ⟨w4.heap.size, 2, none⟩ = some (.int .i64 3000) := by simp [go_sem, *]
  have cp3 : w'.cell? ⟨w4.heap.size, 3, none⟩ = some (.int .i64 3000) := by simp [go_sem, *]
  have cq0 : w'.cell? ⟨w5.heap.size, 0, none⟩ = some (.int .i64 5000) := by simp [go_sem, *]
  have cq1 : w'.cell? ⟨w5.heap.size, 1, none⟩ = some (.int .i64 3000) := by simp [go_sem, *]
  have cg0 : w'.cell? ⟨g, 0, none⟩ = some (.int .i64 0) := by simp [go_sem, *]
  have cg1 : w'.cell? ⟨g, 1, none⟩ = some (.int .i64 0) := by simp [go_sem, *]
  clear hcell hfroz hz g0 g1 lg5 lgw
  obtain ⟨w6, rfl⟩ : ∃ v, v = w' := ⟨_, rfl⟩
  go_cut [8, 9] from 29 to 35 (fun s8 s9 wx => ∃ G : Nat, s8 = .pointer (some ⟨G, 0, none⟩) ∧ s9 = .int .i64 0 ∧ Below w6.heap.size w6 wx ∧ wx.cell? ⟨G, 4, none⟩ = some (.int .i64 15000) ∧ wx.cell? ⟨G, 5, none⟩ = some (.int .i64 15000))
  case first =>
    have l0 : w1.heap.size < w6.heap.size := World.block_lt_of_cell? _ _ ca4
    have l1 : w4.heap.size < w6.heap.size := World.block_lt_of_cell? _ _ cp0
    have l2 : w5.heap.size < w6.heap.size := World.block_lt_of_cell? _ _ cq0
    have l3 : g < w6.heap.size := World.block_lt_of_cell? _ _ cg0
    refine wp_region_inv (fun a0 LL aa vv => ∃ (l0 l1 l2 l3 l4 l5 l6 l7 l8 l9 : Bool) (EE : Nat), LL = #[l0, l1, l2, l3, l4, l5, l6, l7, l8, l9] ∧ aa = { a0 with tmps := (((((((((a0.tmps.setIfInBounds 30 (cond l0 (.agg #[.int .i64 0, .int .i64 0, .int .i64 0, .int .i64 0, .int .i64 5000, .int .i64 5000]) (undef))).setIfInBounds 31 (cond l1 (.agg #[.int .i64 10000, .int .i64 10000]) (undef))).setIfInBounds 32 (cond l2 (.agg #[.int .i64 0, .int .i64 0, .int .i64 10000, .int .i64 10000]) (undef))).setIfInBounds 33 (cond l3 (.tuple #[.agg #[.int .i64 0, .int .i64 0, .int .i64 0, .int .i64 0, .int .i64 15000, .int .i64 15000], .int .i64 0]) (undef))).setIfInBounds 29 (cond l4 (.tuple #[.agg #[.int .i64 0, .int .i64 0, .int .i64 0, .int .i64 0, .int .i64 15000, .int .i64 15000], .int .i64 0]) (undef))).setIfInBounds 34 (cond l5 (.agg #[.int .i64 0, .int .i64 0, .int .i64 0, .int .i64 0, .int .i64 15000, .int .i64 15000]) (undef))).setIfInBounds 35 (cond l6 (.int .i64 0) (undef))).setIfInBounds 8 (cond l7 (.pointer (some ⟨EE, 0, none⟩)) (undef))).setIfInBounds 9 (cond l9 (.int .i64 0) (undef))) } ∧ Below w6.heap.size w6 vv ∧ (l8 = true → l7 = true) ∧ (l7 = true → Room6 w6 vv EE l8 (0) (0) (0) (0) (15000) (15000))) (by kernel_rfl) (by kernel_rfl) ?h0 ?hsize ?hdone ?hstep
    case h0 =>
      refine ⟨false, false, false, false, false, false, false, false, false, false, 0, rfl, ?_, by (repeat (first | exact Below.refl _ _ | refine bl_drewN ?_ | refine bl_drew ?_ | refine bl_alloc ?_ _ | refine Below.setCell ?_ (by (first | (simp; done) | (simp; omega) | omega)) _ | refine bl_step (by assumption) ?_)), (fun h => by cases h), (fun h => by cases h)⟩
      simp only [cond_false, List.setIfInBounds_toArray, List.set_cons_zero, List.set_cons_succ]
    case hsize =>
      intro LL aa vv h
      obtain ⟨l0, l1, l2, l3, l4, l5, l6, l7, l8, l9, EE, hL, _⟩ := h
      rw [hL]
      rfl
    case hstep =>
      intro LL aa vv h
      obtain ⟨l0, l1, l2, l3, l4, l5, l6, l7, l8, l9, EE, hL, ha, hb0, hq, hr⟩ := h
      simp only [List.setIfInBounds_toArray, List.set_cons_zero, List.set_cons_succ] at ha
      subst hL
      subst ha
      refine ⟨?s0, ?s1, ?s2, ?s3, ?s4, ?s5, ?s6, ?s7, ?s8, ?s9, trivial⟩
      case s0 =>
        intro ff gg KK hK
        have f0 : l0 = false := ff
        clear ff gg
        subst f0
        simp only [cond_false]
        have j0 := cell_later hb0 cA0
        have j1 := cell_later hb0 cA1
        have j2 := cell_later hb0 cA2
        have j3 := cell_later hb0 cA3
        have j4 := cell_later hb0 ca4
        have j5 := cell_later hb0 ca5
        go_simp
        exact hK _ _ ⟨true, l1, l2, l3, l4, l5, l6, l7, l8, l9, EE, rfl, (by simp only [cond_true, List.setIfInBounds_toArray, List.set_cons_zero, List.set_cons_succ]), hb0, hq, hr⟩
      case s1 =>
        intro ff gg KK hK
        have f0 : l1 = false := ff
        clear ff gg
        subst f0
        simp only [cond_false]
        go_simp
        go_at_call 8
        with_reducible refine (one37_any 10000 _).mono ?_
        rintro e w' ⟨rfl, hb⟩
        exact hK _ _ ⟨l0, true, l2, l3, l4, l5, l6, l7, l8, l9, EE, rfl, (by simp only [cond_true, List.setIfInBounds_toArray, List.set_cons_zero, List.set_cons_succ]), bl_step hb hb0, hq, (fun t => (hr t).later hb)⟩
      case s2 =>
        intro ff gg KK hK
        have t1 : l1 = true := gg ⟨1, .data⟩ (by simp) (by rfl)
        have f0 : l2 = false := ff
        clear ff gg
        subst t1
        subst f0
        simp only [cond_true, cond_false]
        go_simp
        exact hK _ _ ⟨l0, true, true, l3, l4, l5, l6, l7, l8, l9, EE, rfl, (by simp only [cond_true, List.setIfInBounds_toArray, List.set_cons_zero, List.set_cons_succ]), hb0, hq, hr⟩
      case s3 =>
        intro ff gg KK hK
        have t0 : l0 = true := gg ⟨0, .data⟩ (by simp) (by rfl)
        have t2 : l2 = true := gg ⟨2, .data⟩ (by simp) (by rfl)
        have f0 : l3 = false := ff
        clear ff gg
        subst t0 t2
        subst f0
        simp only [cond_true, cond_false]
        go_simp
        go_at_call 10
        with_reducible refine (MV.out _).mono ?_
        rintro e w' ⟨rfl, hb⟩
        exact hK _ _ ⟨true, l1, true, true, l4, l5, l6, l7, l8, l9, EE, rfl, (by simp only [cond_true, List.setIfInBounds_toArray, List.set_cons_zero, List.set_cons_succ]), bl_step hb hb0, hq, (fun t => (hr t).later hb)⟩
      case s4 =>
        intro ff gg KK hK
        have t3 : l3 = true := gg ⟨3, .data⟩ (by simp) (by rfl)
        have f0 : l4 = false := ff
        clear ff gg
        subst t3
        subst f0
        simp only [cond_true, cond_false]
        go_simp
        exact hK _ _ ⟨l0, l1, l2, true, true, l5, l6, l7, l8, l9, EE, rfl, (by simp only [cond_true, List.setIfInBounds_toArray, List.set_cons_zero, List.set_cons_succ]), hb0, hq, hr⟩
      case s5 =>
        intro ff gg KK hK
        have t4 : l4 = true := gg ⟨4, .data⟩ (by simp) (by rfl)
        have f0 : l5 = false := ff
        clear ff gg
        subst t4
        subst f0
        simp only [cond_true, cond_false]
        go_simp
        exact hK _ _ ⟨l0, l1, l2, l3, true, true, l6, l7, l8, l9, EE, rfl, (by simp only [cond_true, List.setIfInBounds_toArray, List.set_cons_zero, List.set_cons_succ]), hb0, hq, hr⟩
      case s6 =>
        intro ff gg KK hK
        have t4 : l4 = true := gg ⟨4, .data⟩ (by simp) (by rfl)
        have f0 : l6 = false := ff
        clear ff gg
        subst t4
        subst f0
        simp only [cond_true, cond_false]
        go_simp
        exact hK _ _ ⟨l0, l1, l2, l3, true, l5, true, l7, l8, l9, EE, rfl, (by simp only [cond_true, List.setIfInBounds_toArray, List.set_cons_zero, List.set_cons_succ]), hb0, hq, hr⟩
      case s7 =>
        intro ff gg KK hK
        have f0 : l7 = false := ff
        clear ff gg
        subst f0
        simp only [cond_false]
        go_simp
        exact hK _ _ ⟨l0, l1, l2, l3, l4, l5, l6, true, l8, l9, vv.heap.size, rfl, (by simp only [cond_true, List.setIfInBounds_toArray, List.set_cons_zero, List.set_cons_succ]), by (repeat (first | exact Below.refl _ _ | refine bl_drewN ?_ | refine bl_drew ?_ | refine bl_alloc ?_ _ | refine Below.setCell ?_ (by (first | (simp; done) | (simp; omega) | omega)) _ | refine bl_step (by assumption) ?_)), (fun _ => rfl), (fun _ => Room6.alloc hb0 _ _ _ _ _ _ _ _ _ _ _ _ _ _ hq)⟩
      case s8 =>
        intro ff gg KK hK
        have t7 : l7 = true := gg ⟨7, .data⟩ (by simp) (by rfl)
        have t5 : l5 = true := gg ⟨5, .data⟩ (by simp) (by rfl)
        have f0 : l8 = false := ff
        clear ff gg
        subst t7 t5
        subst f0
        simp only [cond_true]
        have rr := hr rfl
        obtain ⟨m1, m2, fz0, fz1, fz2, fz3, fz4, fz5, y0, y1, y2, y3, y4, y5, cz0, cz1, cz2, cz3, cz4, cz5, m7⟩ := rr
        go_simp
        exact hK _ _ ⟨l0, l1, l2, l3, l4, true, l6, true, true, l9, EE, rfl, (by simp only [cond_true, List.setIfInBounds_toArray, List.set_cons_zero, List.set_cons_succ]), ((((((hb0.setCell m1 _).setCell m1 _).setCell m1 _).setCell m1 _).setCell m1 _).setCell m1 _), (fun _ => rfl), (fun _ => (hr rfl).store _ _ _ _ _ _ _)⟩
      case s9 =>
        intro ff gg KK hK
        have t6 : l6 = true := gg ⟨6, .data⟩ (by simp) (by rfl)
        have t8 : l8 = true := gg ⟨8, .chain⟩ (by simp) (by rfl)
        have f0 : l9 = false := ff
        clear ff gg
        subst t6 t8
        have uq : l7 = true := hq rfl
        subst uq
        subst f0
        simp only [cond_true, cond_false]
        go_simp
        exact hK _ _ ⟨l0, l1, l2, l3, l4, l5, true, true, true, true, EE, rfl, (by simp only [cond_true, List.setIfInBounds_toArray, List.set_cons_zero, List.set_cons_succ]), hb0, hq, hr⟩
    case hdone =>
      intro LL aa vv h hd
      obtain ⟨l0, l1, l2, l3, l4, l5, l6, l7, l8, l9, EE, hL, ha, hb0, hq, hr⟩ := h
      rw [hL] at hd
      have t0 : l0 = true := hd 0 (by decide)
      have t1 : l1 = true := hd 1 (by decide)
      have t2 : l2 = true := hd 2 (by decide)
      have t3 : l3 = true := hd 3 (by decide)
      have t4 : l4 = true := hd 4 (by decide)
      have t5 : l5 = true := hd 5 (by decide)
      have t6 : l6 = true := hd 6 (by decide)
      have t7 : l7 = true := hd 7 (by decide)
      have t8 : l8 = true := hd 8 (by decide)
      have t9 : l9 = true := hd 9 (by decide)
      clear hd hL hq
      subst t0 t1 t2 t3 t4 t5 t6 t7 t8 t9
      simp only [cond_true, List.setIfInBounds_toArray, List.set_cons_zero, List.set_cons_succ] at ha
      subst ha
      obtain ⟨EEg, EEl, _, _, _, _, _, _, y0, y1, y2, y3, y4, y5, EEc0, EEc1, EEc2, EEc3, EEc4, EEc5, hy⟩ := hr rfl
      obtain ⟨rfl, rfl, rfl, rfl, rfl, rfl⟩ := hy rfl
      clear hr
      go_wp2
      go_meet
      exact ⟨_, rfl, rfl, hb0, EEc4, EEc5⟩
  case rest =>
    obtain ⟨G, rfl, rfl, hb, G4, G5⟩ := hcut
    replace hw6 : Below w.heap.size w wc := bl_step hb hw6
    replace ca4 := cell_later hb ca4
    replace ca5 := cell_later hb ca5
    replace cA0 := cell_later hb cA0
    replace cA1 := cell_later hb cA1
    replace cA2 := cell_later hb cA2
    replace cA3 := cell_later hb cA3
    replace cp0 := cell_later hb cp0
    replace cp1 := cell_later hb cp1
    replace cp2 := cell_later hb cp2
    replace cp3 := cell_later hb cp3
    replace cq0 := cell_later hb cq0
    replace cq1 := cell_later hb cq1
    replace cg0 := cell_later hb cg0
    replace cg1 := cell_later hb cg1
    clear hb
    have l0 : w1.heap.size < wc.heap.size := World.block_lt_of_cell? _ _ ca4
    have l1 : w4.heap.size < wc.heap.size := World.block_lt_of_cell? _ _ cp0
    have l2 : w5.heap.size < wc.heap.size := World.block_lt_of_cell? _ _ cq0
    have l3 : g < wc.heap.size := World.block_lt_of_cell? _ _ cg0
    have l4 : G < wc.heap.size := World.block_lt_of_cell? _ _ G4
    go_wp2
    go_region_held3 (fun v => Below wc.heap.size wc v ∧ (∀ b o, b < wc.heap.size → v.cell? ⟨b, o, none⟩ = wc.cell? ⟨b, o, none⟩) ∧ (∀ b o, b < wc.heap.size → v.frozen? ⟨b, o, none⟩ = wc.frozen? ⟨b, o, none⟩)) (first | exact held_start _ | (refine held_of ?_; (repeat (first | (with_reducible exact Below.refl _ _) | (with_reducible refine Below.setCell ?_ (by (first | (simp; done) | (simp; omega) | omega)) _) | (with_reducible refine bl_alloc ?_ _) | (with_reducible refine bl_drewN ?_) | (with_reducible refine bl_drew ?_) | (with_reducible refine bl_step (by assumption) ?_))); done)) (((first | (go_at_call 8; ((with_reducible refine (one37_any 5000 _).mono ?_); rintro e w' ⟨rfl, hb⟩)) | (go_at_call 8; ((with_reducible refine (one37_any 3000 _).mono ?_); rintro e w' ⟨rfl, hb⟩)) | (go_at_call 8; ((with_reducible refine (one37_any 15000 _).mono ?_); rintro e w' ⟨rfl, hb⟩)) | (go_at_call 7; ((with_reducible refine (equal2_ok _ _ _ _ ?e0 ?e1 ?e2 ?e3).mono ?_); (case e0 => (simp [go_sem, *]; done)); (case e1 => (simp [go_sem, *]; done)); (case e2 => (simp [go_sem, *]; done)); (case e3 => (simp [go_sem, *]; done)); rintro e w' ⟨rfl, hb⟩))); (try replace hb := below_undrew hb); (try replace hb := below_undrewN hb); obtain ⟨hcell, hfroz⟩ := bcell hb; have hz := hb.size; (try simp at hz); (try (have z6 := Nat.lt_of_lt_of_le z7 hz)); (try (have z7 := Nat.lt_of_lt_of_le z8 hz)); (try (have z8 := Nat.lt_of_lt_of_le z9 hz)); (try (have z9 := Nat.lt_of_lt_of_le (Nat.lt_succ_self _) hz)); (try (have z0 : w.heap.size < w'.heap.size := by omega)); (try (have z1 : w.heap.size + 1 < w'.heap.size := by omega)); (try (have z2 : w.heap.size + 1 + 1 < w'.heap.size := by omega)); (try (have z3 : w.heap.size + 1 + 1 + 1 < w'.heap.size := by omega)); (try (have y1 : w1.heap.size < w'.heap.size := by omega)); (try (have y2 : w2.heap.size < w'.heap.size := by omega)); (try (have y3 : w3.heap.size < w'.heap.size := by omega)); (try (have y4 : w4.heap.size < w'.heap.size := by omega)); (try (have y5 : w5.heap.size < w'.heap.size := by omega)); (try (have y6 : w6.heap.size < w'.heap.size := by omega)); (try (have x1 : w1.heap.size + 1 < w'.heap.size := by omega)); (try (have x2 : w2.heap.size + 1 < w'.heap.size := by omega)); (try (have x3 : w3.heap.size + 1 < w'.heap.size := by omega)); (try (have x4 : w4.heap.size + 1 < w'.heap.size := by omega)); (try (have x5 : w5.heap.size + 1 < w'.heap.size := by omega)); (try (have x6 : w6.heap.size + 1 < w'.heap.size := by omega)); (try (have z10 : w1.heap.size < w'.heap.size + 1 := by omega)); (try (have z20 : w2.heap.size < w'.heap.size + 1 := by omega)); (try (have z30 : w3.heap.size < w'.heap.size + 1 := by omega)); (try (have z40 : w4.heap.size < w'.heap.size + 1 := by omega)); (try (have z50 : w5.heap.size < w'.heap.size + 1 := by omega)); (try (have z60 : w6.heap.size < w'.heap.size + 1 := by omega))))
    all_goals go_wp2
    all_goals go_ret
    all_goals exact ⟨by first | rfl | (refine ret_bool ?_; simp), by (repeat (first | (with_reducible exact Below.refl _ _) | (with_reducible refine Below.setCell ?_ (by (first | (simp; done) | (simp; omega) | omega)) _) | (with_reducible refine bl_alloc ?_ _) | (with_reducible refine bl_drewN ?_) | (with_reducible refine bl_drew ?_) | (with_reducible refine bl_step (by assumption) ?_)))⟩

end Go.Proofs.YtjceofmhodcefaaGreat
