/- The sums of two legs, as a contract by their numbers. -/
import Derived.Test.YtdhbeoahpfimbaaGreatMd
import Derived.Test.YtdhbeoahpfimbaaGreatAg
namespace Go.Proofs.YtdhbeoahpfimbaaGreat
open Go.RowKit
theorem set_same {w : World} {B o : Nat} (x : Value) {x0 : Value} (h0 : w.cell? ⟨B, o, none⟩ = some x0) : (w.setCell ⟨B, o, none⟩ x).cell? ⟨B, o, none⟩ = some x := by simp [go_sem, *]
set_option maxRecDepth 100000 in
set_option maxHeartbeats 8000000 in
theorem trav_walk (a b c d e f g h n1 n2 x1 x2 m1 m2 y1 y2 N1 N2 E1 E2 : Int) (B1 : Nat) (w : World)
    (h0 : w.cell? ⟨B1, 0, none⟩ = some (.int .i64 a)) (h1 : w.cell? ⟨B1, 1, none⟩ = some (.int .i64 b)) (h2 : w.cell? ⟨B1, 2, none⟩ = some (.int .i64 c)) (h3 : w.cell? ⟨B1, 3, none⟩ = some (.int .i64 d))
    (h4 : w.cell? ⟨B1, 4, none⟩ = some (.int .i64 e)) (h5 : w.cell? ⟨B1, 5, none⟩ = some (.int .i64 f)) (h6 : w.cell? ⟨B1, 6, none⟩ = some (.int .i64 g)) (h7 : w.cell? ⟨B1, 7, none⟩ = some (.int .i64 h))
    (V1 : Hid (∀ w, Calls Tryz.prog 43 #[.agg #[.int .i64 a, .int .i64 b, .int .i64 c, .int .i64 d]] w fun e w' => e = .returned (.bool true) ∧ Below w.heap.size w w'))
    (V2 : Hid (∀ w, Calls Tryz.prog 43 #[.agg #[.int .i64 e, .int .i64 f, .int .i64 g, .int .i64 h]] w fun e w' => e = .returned (.bool true) ∧ Below w.heap.size w w'))
    (P1 : Hid (∀ w, Calls Tryz.prog 44 #[.agg #[.int .i64 a, .int .i64 b, .int .i64 c, .int .i64 d]] w fun e w' => e = .returned (.tuple #[.agg #[.int .i64 n1, .int .i64 n2], .agg #[.int .i64 x1, .int .i64 x2], .int .i64 0]) ∧ Below w.heap.size w w'))
    (P2 : Hid (∀ w, Calls Tryz.prog 44 #[.agg #[.int .i64 e, .int .i64 f, .int .i64 g, .int .i64 h]] w fun e w' => e = .returned (.tuple #[.agg #[.int .i64 m1, .int .i64 m2], .agg #[.int .i64 y1, .int .i64 y2], .int .i64 0]) ∧ Below w.heap.size w w'))
    (A1 : Hid (∀ w, Calls Tryz.prog 42 #[.agg #[.int .i64 0, .int .i64 0], .agg #[.int .i64 n1, .int .i64 n2]] w fun e w' => e = .returned (.tuple #[.agg #[.int .i64 n1, .int .i64 n2], .int .i64 0]) ∧ Below w.heap.size w w'))
    (A2 : Hid (∀ w, Calls Tryz.prog 42 #[.agg #[.int .i64 0, .int .i64 0], .agg #[.int .i64 x1, .int .i64 x2]] w fun e w' => e = .returned (.tuple #[.agg #[.int .i64 x1, .int .i64 x2], .int .i64 0]) ∧ Below w.heap.size w w'))
    (A3 : Hid (∀ w, Calls Tryz.prog 42 #[.agg #[.int .i64 n1, .int .i64 n2], .agg #[.int .i64 m1, .int .i64 m2]] w fun e w' => e = .returned (.tuple #[.agg #[.int .i64 N1, .int .i64 N2], .int .i64 0]) ∧ Below w.heap.size w w'))
    (A4 : Hid (∀ w, Calls Tryz.prog 42 #[.agg #[.int .i64 x1, .int .i64 x2], .agg #[.int .i64 y1, .int .i64 y2]] w fun e w' => e = .returned (.tuple #[.agg #[.int .i64 E1, .int .i64 E2], .int .i64 0]) ∧ Below w.heap.size w w')) :
    Calls Tryz.prog 10 #[.slice (some ⟨B1, 0, none⟩) 2 2] w fun e w' => e = .returned (.tuple #[.agg #[.int .i64 N1, .int .i64 N2], .agg #[.int .i64 E1, .int .i64 E2], .int .i64 0]) ∧ Below w.heap.size w w' := by
  have hB1 : B1 < w.heap.size := World.block_lt_of_cell? _ _ h0
  have hB2 : B1 < w.heap.size + 1 := by omega
  have hB3 : B1 < w.heap.size + 1 + 1 := by omega
  have hB4 : B1 < w.heap.size + 1 + 1 + 1 := by omega
  go_enter Tryz.func10, Tryz.ntmps10
  go_wp2
  refine wp_loop_rounds 3 ?_
  rw [rounds_succ]
  go_wp2_with (go_at_call 43; ((with_reducible refine (V1.out _).mono ?_); rintro e w' ⟨rfl, hb⟩); (try replace hb := below_undrew hb); (try replace hb := below_undrewN hb); obtain ⟨hcell, hfroz⟩ := bcell hb; have hz := hb.size; (try simp at hz); (try (have z9 := Nat.lt_of_lt_of_le (Nat.lt_succ_self _) hz)); (try have z0 : w.heap.size < w'.heap.size := by omega); (try have z1 : w.heap.size + 1 < w'.heap.size := by omega); (try have z2 : w.heap.size + 1 + 1 < w'.heap.size := by omega); (try have z3 : w.heap.size + 1 + 1 + 1 < w'.heap.size := by omega); (try have hB1 : B1 < w'.heap.size := by omega); (try have hB3 : B1 < w'.heap.size + 1 := by omega); obtain ⟨w1, rfl⟩ : ∃ v, v = w' := ⟨_, rfl⟩)
  refine name_world (F := Code.rounds _ _ _ _ _) ?_
  intro w' hb
  (try replace hb := below_undrew hb); (try replace hb := below_undrewN hb); obtain ⟨hcell, hfroz⟩ := bcell hb; have hz := hb.size; (try simp at hz); (try (have z9 := Nat.lt_of_lt_of_le (Nat.lt_succ_self _) hz)); (try have z0 : w.heap.size < w'.heap.size := by omega); (try have z1 : w.heap.size + 1 < w'.heap.size := by omega); (try have z2 : w.heap.size + 1 + 1 < w'.heap.size := by omega); (try have z3 : w.heap.size + 1 + 1 + 1 < w'.heap.size := by omega); (try have y1 : w1.heap.size < w'.heap.size := by omega); (try have y2 : w2.heap.size < w'.heap.size := by omega); (try have y3 : w3.heap.size < w'.heap.size := by omega); (try have y4 : w4.heap.size < w'.heap.size := by omega); (try have y5 : w5.heap.size < w'.heap.size := by omega); (try have y6 : w6.heap.size < w'.heap.size := by omega); (try have x1 : w1.heap.size + 1 < w'.heap.size := by omega); (try have x2 : w2.heap.size + 1 < w'.heap.size := by omega); (try have x3 : w3.heap.size + 1 < w'.heap.size := by omega); (try have x4 : w4.heap.size + 1 < w'.heap.size := by omega); (try have x5 : w5.heap.size + 1 < w'.heap.size := by omega); (try have x6 : w6.heap.size + 1 < w'.heap.size := by omega); (try have hB1 : B1 < w'.heap.size := by omega); (try have hB3 : B1 < w'.heap.size + 1 := by omega)
  have hw0 : Below w.heap.size w w' := by (repeat (first | (with_reducible exact Below.refl _ _) | (with_reducible refine Below.setCell ?_ (by (first | (simp; done) | (simp; omega) | omega)) _) | (with_reducible refine bl_alloc ?_ _) | (with_reducible refine bl_drewN ?_) | (with_reducible refine bl_drew ?_) | (with_reducible refine bl_step (by assumption) ?_)))
  have c0 : w'.cell? ⟨B1, 0, none⟩ = some (.int .i64 a) := cell_later hw0 h0
  have c1 : w'.cell? ⟨B1, 1, none⟩ = some (.int .i64 b) := cell_later hw0 h1
  have c2 : w'.cell? ⟨B1, 2, none⟩ = some (.int .i64 c) := cell_later hw0 h2
  have c3 : w'.cell? ⟨B1, 3, none⟩ = some (.int .i64 d) := cell_later hw0 h3
  have c4 : w'.cell? ⟨B1, 4, none⟩ = some (.int .i64 e) := cell_later hw0 h4
  have c5 : w'.cell? ⟨B1, 5, none⟩ = some (.int .i64 f) := cell_later hw0 h5
  have c6 : w'.cell? ⟨B1, 6, none⟩ = some (.int .i64 g) := cell_later hw0 h6
  have c7 : w'.cell? ⟨B1, 7, none⟩ = some (.int .i64 h) := cell_later hw0 h7
  have p0 : w'.cell? ⟨w.heap.size, 0, none⟩ = some (.int .i64 0) := by simp [go_sem, *]
  have p1 : w'.cell? ⟨w.heap.size, 1, none⟩ = some (.int .i64 0) := by simp [go_sem, *]
  have pf : ∀ o, w'.frozen? ⟨w.heap.size, o, none⟩ = false := by intro o; simp [go_sem, *]
  have q0 : w'.cell? ⟨w.heap.size + 1, 0, none⟩ = some (.int .i64 0) := by simp [go_sem, *]
  have q1 : w'.cell? ⟨w.heap.size + 1, 1, none⟩ = some (.int .i64 0) := by simp [go_sem, *]
  have qf : ∀ o, w'.frozen? ⟨w.heap.size + 1, o, none⟩ = false := by intro o; simp [go_sem, *]
  clear hcell hfroz hz hb h0 h1 h2 h3 h4 h5 h6 h7
  obtain ⟨V0, rfl⟩ : ∃ v, v = w' := ⟨_, rfl⟩
  have g1 : w.heap.size + 1 < V0.heap.size := World.block_lt_of_cell? _ _ q0
  have g0 : w.heap.size < V0.heap.size := by omega
  have hB5 : B1 < V0.heap.size := by omega
  have hB6 : B1 < V0.heap.size + 1 := by omega
  rw [rounds_succ]
  go_wp2_with (go_at_call 43; ((with_reducible refine (V2.out _).mono ?_); rintro e w' ⟨rfl, hb⟩); (try replace hb := below_undrew hb); (try replace hb := below_undrewN hb); obtain ⟨hcell, hfroz⟩ := bcell hb; have hz := hb.size; (try simp at hz); (try (have z9 := Nat.lt_of_lt_of_le (Nat.lt_succ_self _) hz)); (try have z0 : w.heap.size < w'.heap.size := by omega); (try have z1 : w.heap.size + 1 < w'.heap.size := by omega); (try have z2 : w.heap.size + 1 + 1 < w'.heap.size := by omega); (try have z3 : w.heap.size + 1 + 1 + 1 < w'.heap.size := by omega); (try have y1 : w1.heap.size < w'.heap.size := by omega); (try have x1 : w1.heap.size + 1 < w'.heap.size := by omega); (try have hB1 : B1 < w'.heap.size := by omega); (try have hB3 : B1 < w'.heap.size + 1 := by omega); obtain ⟨w2, rfl⟩ : ∃ v, v = w' := ⟨_, rfl⟩)
  rw [rounds_succ]
  go_wp2
  refine name_code ?_
  intro w' hb
  (try replace hb := below_undrew hb); (try replace hb := below_undrewN hb); obtain ⟨hcell, hfroz⟩ := bcell hb; have hz := hb.size; (try simp at hz); (try (have z9 := Nat.lt_of_lt_of_le (Nat.lt_succ_self _) hz)); (try have z0 : w.heap.size < w'.heap.size := by omega); (try have z1 : w.heap.size + 1 < w'.heap.size := by omega); (try have z2 : w.heap.size + 1 + 1 < w'.heap.size := by omega); (try have z3 : w.heap.size + 1 + 1 + 1 < w'.heap.size := by omega); (try have y1 : w1.heap.size < w'.heap.size := by omega); (try have y2 : w2.heap.size < w'.heap.size := by omega); (try have y3 : w3.heap.size < w'.heap.size := by omega); (try have y4 : w4.heap.size < w'.heap.size := by omega); (try have y5 : w5.heap.size < w'.heap.size := by omega); (try have y6 : w6.heap.size < w'.heap.size := by omega); (try have x1 : w1.heap.size + 1 < w'.heap.size := by omega); (try have x2 : w2.heap.size + 1 < w'.heap.size := by omega); (try have x3 : w3.heap.size + 1 < w'.heap.size := by omega); (try have x4 : w4.heap.size + 1 < w'.heap.size := by omega); (try have x5 : w5.heap.size + 1 < w'.heap.size := by omega); (try have x6 : w6.heap.size + 1 < w'.heap.size := by omega); (try have hB1 : B1 < w'.heap.size := by omega); (try have hB3 : B1 < w'.heap.size + 1 := by omega)
  have hw1 : Below V0.heap.size V0 w' := by (repeat (first | (with_reducible exact Below.refl _ _) | (with_reducible refine Below.setCell ?_ (by (first | (simp; done) | (simp; omega) | omega)) _) | (with_reducible refine bl_alloc ?_ _) | (with_reducible refine bl_drewN ?_) | (with_reducible refine bl_drew ?_) | (with_reducible refine bl_step (by assumption) ?_)))
  have c0 : w'.cell? ⟨B1, 0, none⟩ = some (.int .i64 a) := cell_later hw1 c0
  have c1 : w'.cell? ⟨B1, 1, none⟩ = some (.int .i64 b) := cell_later hw1 c1
  have c2 : w'.cell? ⟨B1, 2, none⟩ = some (.int .i64 c) := cell_later hw1 c2
  have c3 : w'.cell? ⟨B1, 3, none⟩ = some (.int .i64 d) := cell_later hw1 c3
  have c4 : w'.cell? ⟨B1, 4, none⟩ = some (.int .i64 e) := cell_later hw1 c4
  have c5 : w'.cell? ⟨B1, 5, none⟩ = some (.int .i64 f) := cell_later hw1 c5
  have c6 : w'.cell? ⟨B1, 6, none⟩ = some (.int .i64 g) := cell_later hw1 c6
  have c7 : w'.cell? ⟨B1, 7, none⟩ = some (.int .i64 h) := cell_later hw1 c7
  have p0 : w'.cell? ⟨w.heap.size, 0, none⟩ = some (.int .i64 0) := cell_later hw1 p0
  have p1 : w'.cell? ⟨w.heap.size, 1, none⟩ = some (.int .i64 0) := cell_later hw1 p1
  have q0 : w'.cell? ⟨w.heap.size + 1, 0, none⟩ = some (.int .i64 0) := cell_later hw1 q0
  have q1 : w'.cell? ⟨w.heap.size + 1, 1, none⟩ = some (.int .i64 0) := cell_later hw1 q1
  have pf : ∀ o, w'.frozen? ⟨w.heap.size, o, none⟩ = false := by intro o; simp [go_sem, *]
  have qf : ∀ o, w'.frozen? ⟨w.heap.size + 1, o, none⟩ = false := by intro o; simp [go_sem, *]
  have hw0 : Below w.heap.size w w' := Below.trans hw0 (hw1.mono (by omega))
  clear hcell hfroz hz hb hw1
  obtain ⟨V1, rfl⟩ : ∃ v, v = w' := ⟨_, rfl⟩
  have g1 : w.heap.size + 1 < V1.heap.size := World.block_lt_of_cell? _ _ q0
  have g0 : w.heap.size < V1.heap.size := by omega
  have hB5 : B1 < V1.heap.size := by omega
  have hB6 : B1 < V1.heap.size + 1 := by omega
  refine wp_loop_rounds 3 ?_
  rw [rounds_succ]
  go_wp2_with (((first | (go_at_call 44; ((with_reducible refine (P1.out _).mono ?_); rintro e w' ⟨rfl, hb⟩); have nm0 := trivial) | (go_at_call 42; ((with_reducible refine (A1.out _).mono ?_); rintro e w' ⟨rfl, hb⟩); have nm1 := trivial) | (go_at_call 42; ((with_reducible refine (A2.out _).mono ?_); rintro e w' ⟨rfl, hb⟩); have nm2 := trivial)); (try replace hb := below_undrew hb); (try replace hb := below_undrewN hb); obtain ⟨hcell, hfroz⟩ := bcell hb; have hz := hb.size; (try simp at hz); (try (have z9 := Nat.lt_of_lt_of_le (Nat.lt_succ_self _) hz)); (try have z0 : w.heap.size < w'.heap.size := by omega); (try have z1 : w.heap.size + 1 < w'.heap.size := by omega); (try have z2 : w.heap.size + 1 + 1 < w'.heap.size := by omega); (try have z3 : w.heap.size + 1 + 1 + 1 < w'.heap.size := by omega); (try have y1 : w1.heap.size < w'.heap.size := by omega); (try have y2 : w2.heap.size < w'.heap.size := by omega); (try have y3 : w3.heap.size < w'.heap.size := by omega); (try have y4 : w4.heap.size < w'.heap.size := by omega); (try have x1 : w1.heap.size + 1 < w'.heap.size := by omega); (try have x2 : w2.heap.size + 1 < w'.heap.size := by omega); (try have x3 : w3.heap.size + 1 < w'.heap.size := by omega); (try have x4 : w4.heap.size + 1 < w'.heap.size := by omega); (try have hB1 : B1 < w'.heap.size := by omega); (try have hB3 : B1 < w'.heap.size + 1 := by omega); (first | (clear nm0; obtain ⟨w3, rfl⟩ : ∃ v, v = w' := ⟨_, rfl⟩; have u1 : w.heap.size < w3.heap.size + 1 + 1 := (by omega); have u2 : w.heap.size + 1 < w3.heap.size + 1 + 1 := (by omega)) | (clear nm1; obtain ⟨w4, rfl⟩ : ∃ v, v = w' := ⟨_, rfl⟩; have k0 : w4.cell? ⟨w.heap.size, 0, none⟩ = some (.int .i64 0) := (by simp [go_sem, *]); have k1 : w4.cell? ⟨w.heap.size, 1, none⟩ = some (.int .i64 0) := (by simp [go_sem, *]); have k2 := set_same (.int .i64 n1) k0; have k3 := (once_cell (.int .i64 n1) (.int .i64 n2) k0 k1).2) | (clear nm2; obtain ⟨w5, rfl⟩ : ∃ v, v = w' := ⟨_, rfl⟩))))
  refine name_world (F := Code.rounds _ _ _ _ _) ?_
  intro w' hb
  (try replace hb := below_undrew hb); (try replace hb := below_undrewN hb); obtain ⟨hcell, hfroz⟩ := bcell hb; have hz := hb.size; (try simp at hz); (try (have z9 := Nat.lt_of_lt_of_le (Nat.lt_succ_self _) hz)); (try have z0 : w.heap.size < w'.heap.size := by omega); (try have z1 : w.heap.size + 1 < w'.heap.size := by omega); (try have z2 : w.heap.size + 1 + 1 < w'.heap.size := by omega); (try have z3 : w.heap.size + 1 + 1 + 1 < w'.heap.size := by omega); (try have y1 : w1.heap.size < w'.heap.size := by omega); (try have y2 : w2.heap.size < w'.heap.size := by omega); (try have y3 : w3.heap.size < w'.heap.size := by omega); (try have y4 : w4.heap.size < w'.heap.size := by omega); (try have y5 : w5.heap.size < w'.heap.size := by omega); (try have y6 : w6.heap.size < w'.heap.size := by omega); (try have x1 : w1.heap.size + 1 < w'.heap.size := by omega); (try have x2 : w2.heap.size + 1 < w'.heap.size := by omega); (try have x3 : w3.heap.size + 1 < w'.heap.size := by omega); (try have x4 : w4.heap.size + 1 < w'.heap.size := by omega); (try have x5 : w5.heap.size + 1 < w'.heap.size := by omega); (try have x6 : w6.heap.size + 1 < w'.heap.size := by omega); (try have hB1 : B1 < w'.heap.size := by omega); (try have hB3 : B1 < w'.heap.size + 1 := by omega)
  have hw1 : Below w.heap.size w w' := by (repeat (first | (with_reducible exact Below.refl _ _) | (with_reducible refine Below.setCell ?_ (by (first | (simp; done) | (simp; omega) | omega)) _) | (with_reducible refine bl_alloc ?_ _) | (with_reducible refine bl_drewN ?_) | (with_reducible refine bl_drew ?_) | (with_reducible refine bl_step (by assumption) ?_)))
  have d4 : w'.cell? ⟨B1, 4, none⟩ = some (.int .i64 e) := by simp [go_sem, *]
  have d5 : w'.cell? ⟨B1, 5, none⟩ = some (.int .i64 f) := by simp [go_sem, *]
  have d6 : w'.cell? ⟨B1, 6, none⟩ = some (.int .i64 g) := by simp [go_sem, *]
  have d7 : w'.cell? ⟨B1, 7, none⟩ = some (.int .i64 h) := by simp [go_sem, *]
  have e0 : w'.cell? ⟨w.heap.size, 0, none⟩ = some (.int .i64 n1) := by simp [go_sem, *]
  have e1 : w'.cell? ⟨w.heap.size, 1, none⟩ = some (.int .i64 n2) := by simp [go_sem, *]
  have f0 : w'.cell? ⟨w.heap.size + 1, 0, none⟩ = some (.int .i64 x1) := by simp [go_sem, *]
  have f1 : w'.cell? ⟨w.heap.size + 1, 1, none⟩ = some (.int .i64 x2) := by simp [go_sem, *]
  have ef : ∀ o, w'.frozen? ⟨w.heap.size, o, none⟩ = false := by intro o; simp [go_sem, *]
  have ff : ∀ o, w'.frozen? ⟨w.heap.size + 1, o, none⟩ = false := by intro o; simp [go_sem, *]
  clear hcell hfroz hz hb c0 c1 c2 c3 c4 c5 c6 c7 p0 p1 q0 q1 pf qf hw0 hB2 hB3 hB4 hB5 hB6 u1 u2 g0 g1
  obtain ⟨V2, rfl⟩ : ∃ v, v = w' := ⟨_, rfl⟩
  have g1 : w.heap.size + 1 < V2.heap.size := World.block_lt_of_cell? _ _ f0
  have g0 : w.heap.size < V2.heap.size := by omega
  have hB5 : B1 < V2.heap.size := by omega
  have hB6 : B1 < V2.heap.size + 1 := by omega
  rw [rounds_succ]
  go_wp2_with (((first | (go_at_call 44; ((with_reducible refine (P2.out _).mono ?_); rintro e w' ⟨rfl, hb⟩); have nm0 := trivial) | (go_at_call 42; ((with_reducible refine (A3.out _).mono ?_); rintro e w' ⟨rfl, hb⟩); have nm1 := trivial) | (go_at_call 42; ((with_reducible refine (A4.out _).mono ?_); rintro e w' ⟨rfl, hb⟩); have nm2 := trivial)); (try replace hb := below_undrew hb); (try replace hb := below_undrewN hb); obtain ⟨hcell, hfroz⟩ := bcell hb; have hz := hb.size; (try simp at hz); (try (have z9 := Nat.lt_of_lt_of_le (Nat.lt_succ_self _) hz)); (try have z0 : w.heap.size < w'.heap.size := by omega); (try have z1 : w.heap.size + 1 < w'.heap.size := by omega); (try have z2 : w.heap.size + 1 + 1 < w'.heap.size := by omega); (try have z3 : w.heap.size + 1 + 1 + 1 < w'.heap.size := by omega); (try have y1 : w1.heap.size < w'.heap.size := by omega); (try have y2 : w2.heap.size < w'.heap.size := by omega); (try have y3 : w3.heap.size < w'.heap.size := by omega); (try have y4 : w4.heap.size < w'.heap.size := by omega); (try have y5 : w5.heap.size < w'.heap.size := by omega); (try have y6 : w6.heap.size < w'.heap.size := by omega); (try have x1 : w1.heap.size + 1 < w'.heap.size := by omega); (try have x2 : w2.heap.size + 1 < w'.heap.size := by omega); (try have x3 : w3.heap.size + 1 < w'.heap.size := by omega); (try have x4 : w4.heap.size + 1 < w'.heap.size := by omega); (try have x5 : w5.heap.size + 1 < w'.heap.size := by omega); (try have x6 : w6.heap.size + 1 < w'.heap.size := by omega); (try have hB1 : B1 < w'.heap.size := by omega); (try have hB3 : B1 < w'.heap.size + 1 := by omega); (first | (clear nm0; obtain ⟨w6, rfl⟩ : ∃ v, v = w' := ⟨_, rfl⟩; have u1 : w.heap.size < w6.heap.size + 1 + 1 := (by omega); have u2 : w.heap.size + 1 < w6.heap.size + 1 + 1 := (by omega)) | (clear nm1; obtain ⟨w7, rfl⟩ : ∃ v, v = w' := ⟨_, rfl⟩; have k5 : w7.cell? ⟨w.heap.size, 0, none⟩ = some (.int .i64 n1) := (by simp [go_sem, *]); have k6 : w7.cell? ⟨w.heap.size, 1, none⟩ = some (.int .i64 n2) := (by simp [go_sem, *]); have k7 := set_same (.int .i64 N1) k5; have k8 := (once_cell (.int .i64 N1) (.int .i64 N2) k5 k6).2) | (clear nm2; obtain ⟨w8, rfl⟩ : ∃ v, v = w' := ⟨_, rfl⟩))))
  refine name_world (F := Code.rounds _ _ _ _ _) ?_
  intro w' hb
  (try replace hb := below_undrew hb); (try replace hb := below_undrewN hb); obtain ⟨hcell, hfroz⟩ := bcell hb; have hz := hb.size; (try simp at hz); (try (have z9 := Nat.lt_of_lt_of_le (Nat.lt_succ_self _) hz)); (try have z0 : w.heap.size < w'.heap.size := by omega); (try have z1 : w.heap.size + 1 < w'.heap.size := by omega); (try have z2 : w.heap.size + 1 + 1 < w'.heap.size := by omega); (try have z3 : w.heap.size + 1 + 1 + 1 < w'.heap.size := by omega); (try have y1 : w1.heap.size < w'.heap.size := by omega); (try have y2 : w2.heap.size < w'.heap.size := by omega); (try have y3 : w3.heap.size < w'.heap.size := by omega); (try have y4 : w4.heap.size < w'.heap.size := by omega); (try have y5 : w5.heap.size < w'.heap.size := by omega); (try have y6 : w6.heap.size < w'.heap.size := by omega); (try have x1 : w1.heap.size + 1 < w'.heap.size := by omega); (try have x2 : w2.heap.size + 1 < w'.heap.size := by omega); (try have x3 : w3.heap.size + 1 < w'.heap.size := by omega); (try have x4 : w4.heap.size + 1 < w'.heap.size := by omega); (try have x5 : w5.heap.size + 1 < w'.heap.size := by omega); (try have x6 : w6.heap.size + 1 < w'.heap.size := by omega); (try have hB1 : B1 < w'.heap.size := by omega); (try have hB3 : B1 < w'.heap.size + 1 := by omega)
  have hw2 : Below w.heap.size w w' := by (repeat (first | (with_reducible exact Below.refl _ _) | (with_reducible refine Below.setCell ?_ (by (first | (simp; done) | (simp; omega) | omega)) _) | (with_reducible refine bl_alloc ?_ _) | (with_reducible refine bl_drewN ?_) | (with_reducible refine bl_drew ?_) | (with_reducible refine bl_step (by assumption) ?_)))
  have e0 : w'.cell? ⟨w.heap.size, 0, none⟩ = some (.int .i64 N1) := by simp [go_sem, *]
  have e1 : w'.cell? ⟨w.heap.size, 1, none⟩ = some (.int .i64 N2) := by simp [go_sem, *]
  have f0 : w'.cell? ⟨w.heap.size + 1, 0, none⟩ = some (.int .i64 E1) := by simp [go_sem, *]
  have f1 : w'.cell? ⟨w.heap.size + 1, 1, none⟩ = some (.int .i64 E2) := by simp [go_sem, *]
  have ef : ∀ o, w'.frozen? ⟨w.heap.size, o, none⟩ = false := by intro o; simp [go_sem, *]
  have ff : ∀ o, w'.frozen? ⟨w.heap.size + 1, o, none⟩ = false := by intro o; simp [go_sem, *]
  clear hcell hfroz hz hb d4 d5 d6 d7 hw1 u1 u2 g0 g1
  obtain ⟨V3, rfl⟩ : ∃ v, v = w' := ⟨_, rfl⟩
  have g1 : w.heap.size + 1 < V3.heap.size := World.block_lt_of_cell? _ _ f0
  have g0 : w.heap.size < V3.heap.size := by omega
  rw [rounds_succ]
  go_wp2
  go_region
  go_wp2
  exact bodyPost_ret (v := .tuple #[.agg #[.int .i64 N1, .int .i64 N2], .agg #[.int .i64 E1, .int .i64 E2], .int .i64 0]) (by first | (simp only [results, Tryz.results10]; go_simp; done) | simp [results, Tryz.results10, go_sem, *]) rfl ⟨rfl, by (repeat (first | (with_reducible exact Below.refl _ _) | (with_reducible refine Below.setCell ?_ (by (first | (simp; done) | (simp; omega) | omega)) _) | (with_reducible refine bl_alloc ?_ _) | (with_reducible refine bl_drewN ?_) | (with_reducible refine bl_drew ?_) | (with_reducible refine bl_step (by assumption) ?_)))⟩
end Go.Proofs.YtdhbeoahpfimbaaGreat
