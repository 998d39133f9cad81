/- Several small texts in one: XComA, XComC, XAro. -/
import Derived.Test.YtdhbeoahpfimbaaGreatPla
namespace Go.Proofs.YtdhbeoahpfimbaaGreat
open Go.RowKit
set_option maxRecDepth 100000 in
set_option maxHeartbeats 4000000 in
/-- the longitudes of a box that begins at the first meridian -/
theorem com_first (d : Int) (w : World) (h1 : 0 ≤ d) (h2 : d ≤ 10800000) :
    Calls Tryz.prog 300 #[.agg #[.int .i64 0, .int .i64 0], .agg #[.int .i64 0, .int .i64 d]] w fun e w' => ∃ v, e = .returned v ∧ w'.ownsRow w.heap.size 23 2 v 1 [.int .i64 0, .int .i64 0] ∧ Below w.heap.size w w' := by
  have A := hidden fun w => all_no 0 0 w (by omega)
  have B := hidden fun w => all_no 0 d w (by omega)
  have Y := hidden fun w => beyond_any 0 0 0 0 w (by omega) (by omega) (by omega)
  have S := hidden fun w => (by have := signed_any 0 w (by decide) (by decide); exact this : Calls Tryz.prog 21 #[.int .i64 0] w fun e w' => e = .returned (.int .i64 0) ∧ w = w')
  obtain ⟨i0, hi, hz0, hz1, hz2⟩ := info_partsC infoArc
  go_enter Tryz.func300, Tryz.ntmps300
  go_upto_region 6 with (((first | (go_at_call 252; ((with_reducible refine (A.out _).mono ?_); rintro e w' ⟨rfl, hb⟩); have nm0 := trivial) | (go_at_call 252; ((with_reducible refine (B.out _).mono ?_); rintro e w' ⟨rfl, hb⟩); have nm1 := trivial)); (try replace hb := below_undrew hb); (try replace hb := below_undrewN hb); obtain ⟨hcell, hfroz⟩ := bcell hb; have hz := hb.size; (try simp at hz); (try (have z9 := Nat.lt_of_lt_of_le (Nat.lt_succ_self _) hz)); (try (have z0 : w.heap.size < w'.heap.size := by omega)); (try (have z1 : w.heap.size + 1 < w'.heap.size := by omega)); (try (have z2 : w.heap.size + 1 + 1 < w'.heap.size := by omega)); (try (have z3 : w.heap.size + 1 + 1 + 1 < w'.heap.size := by omega)); (first | (clear nm0; obtain ⟨w1, rfl⟩ : ∃ v, v = w' := ⟨_, rfl⟩) | (clear nm1; obtain ⟨w2, rfl⟩ : ∃ v, v = w' := ⟨_, rfl⟩))))
  (refine name_code ?_; intro w' hb; (try replace hb := below_undrew hb); (try replace hb := below_undrewN hb); obtain ⟨hcell, hfroz⟩ := bcell hb; have hz := hb.size; (try simp at hz); (try (have z9 := Nat.lt_of_lt_of_le (Nat.lt_succ_self _) hz)); (try (have z0 : w.heap.size < w'.heap.size := by omega)); (try (have z1 : w.heap.size + 1 < w'.heap.size := by omega)); (try (have z2 : w.heap.size + 1 + 1 < w'.heap.size := by omega)); (try (have z3 : w.heap.size + 1 + 1 + 1 < w'.heap.size := by omega)); (try (have y1 : w1.heap.size < w'.heap.size := by omega)); (try (have y2 : w2.heap.size < w'.heap.size := by omega)); (try (have x1 : w1.heap.size + 1 < w'.heap.size := by omega)); (try (have x2 : w2.heap.size + 1 < w'.heap.size := by omega)); (try (have z10 : w1.heap.size < w'.heap.size + 1 := by omega)); (try (have z20 : w2.heap.size < w'.heap.size + 1 := by omega)))
  have p0 : w'.cell? ⟨w.heap.size, 0, none⟩ = some (.int .i64 0) := by simp [go_sem, *]
  have p1 : w'.cell? ⟨w.heap.size, 1, none⟩ = some (.int .i64 0) := by simp [go_sem, *]
  have q0 : w'.cell? ⟨w.heap.size + 1, 0, none⟩ = some (.int .i64 0) := by simp [go_sem, *]
  have q1 : w'.cell? ⟨w.heap.size + 1, 1, none⟩ = some (.int .i64 d) := by simp [go_sem, *]
  have hw0 : Below w.heap.size w w' := by (repeat (first | (with_reducible exact Below.refl _ _) | (with_reducible refine Below.setCell ?_ (by (first | (simp; done) | (simp; omega) | omega)) _) | (with_reducible refine bl_alloc ?_ _) | (with_reducible refine bl_drewN ?_) | (with_reducible refine bl_drew ?_) | (with_reducible refine bl_step (by assumption) ?_)))
  clear hcell hfroz hz hb
  obtain ⟨V0, rfl⟩ : ∃ v, v = w' := ⟨_, rfl⟩
  have g1 : w.heap.size + 1 < V0.heap.size := World.block_lt_of_cell? _ _ q0
  have g0 : w.heap.size < V0.heap.size := by omega
  refine wp_region_quiet_below (by kernel_rfl) (by kernel_rfl) ?_
  repeat (first | go_big_quiet_step ((go_at_call 302; (with_reducible exact Calls.regrown_of (Y.out _)))) | quiet_step ((go_at_call 302; (with_reducible exact Calls.regrown_of (Y.out _)))))
  refine wpQuiet_nil ?_; intro w' hw'; have hb := below_of_regrown hw'; clear hw'; (try replace hb := below_undrew hb); (try replace hb := below_undrewN hb); obtain ⟨hcell, hfroz⟩ := bcell hb; have hz := hb.size; (try simp at hz); (try (have z9 := Nat.lt_of_lt_of_le (Nat.lt_succ_self _) hz)); (try (have z0 : w.heap.size < w'.heap.size := by omega)); (try (have z1 : w.heap.size + 1 < w'.heap.size := by omega)); (try (have z2 : w.heap.size + 1 + 1 < w'.heap.size := by omega)); (try (have z3 : w.heap.size + 1 + 1 + 1 < w'.heap.size := by omega)); (try (have y1 : w1.heap.size < w'.heap.size := by omega)); (try (have y2 : w2.heap.size < w'.heap.size := by omega)); (try (have x1 : w1.heap.size + 1 < w'.heap.size := by omega)); (try (have x2 : w2.heap.size + 1 < w'.heap.size := by omega)); (try (have z10 : w1.heap.size < w'.heap.size + 1 := by omega)); (try (have z20 : w2.heap.size < w'.heap.size + 1 := by omega))
  have p0 : w'.cell? ⟨w.heap.size, 0, none⟩ = some (.int .i64 0) := by simp [go_sem, *]
  have p1 : w'.cell? ⟨w.heap.size, 1, none⟩ = some (.int .i64 0) := by simp [go_sem, *]
  have q0 : w'.cell? ⟨w.heap.size + 1, 0, none⟩ = some (.int .i64 0) := by simp [go_sem, *]
  have q1 : w'.cell? ⟨w.heap.size + 1, 1, none⟩ = some (.int .i64 d) := by simp [go_sem, *]
  have hw1 : Below w.heap.size w w' := by (repeat (first | (with_reducible exact Below.refl _ _) | (with_reducible refine Below.setCell ?_ (by (first | (simp; done) | (simp; omega) | omega)) _) | (with_reducible refine bl_alloc ?_ _) | (with_reducible refine bl_drewN ?_) | (with_reducible refine bl_drew ?_) | (with_reducible refine bl_step (by assumption) ?_)))
  clear hcell hfroz hz hb hw0
  obtain ⟨V1, rfl⟩ : ∃ v, v = w' := ⟨_, rfl⟩
  have g1 : w.heap.size + 1 < V1.heap.size := World.block_lt_of_cell? _ _ q0
  have g0 : w.heap.size < V1.heap.size := by omega
  have ix0 := fun w => idx20 (0) (0 - 21600000) w
  have ix1 := fun w => idx21 (0) (0 - 21600000) w
  simp only [Int.zero_sub] at ix0 ix1
  go_wp2
  refine wp_loop_rounds 3 ?_
  rw [rounds_succ]
  go_wp2
  go_region
  have n0 : V1.drew.ownsRow V1.heap.size 23 2 (.slice none 0 0) 0 [] := World.ownsRow_nil _ _ _ _
  have nb : Below V1.heap.size V1 V1.drew := by (repeat (first | (with_reducible exact Below.refl _ _) | (with_reducible refine Below.setCell ?_ (by (first | (simp; done) | (simp; omega) | omega)) _) | (with_reducible refine bl_alloc ?_ _) | (with_reducible refine bl_drewN ?_) | (with_reducible refine bl_drew ?_) | (with_reducible refine bl_step (by assumption) ?_)))
  go_wp2_with (first | (go_at_call 21; ((with_reducible refine (S.out _).mono ?_); rintro e w' ⟨rfl, rfl⟩)) | (at_builtin; refine wpList_append_own_at _ rfl _ _ 177 rfl V1.heap.size 23 i0 (.agg #[.int .i64 0, .int .i64 0]) 2 16 Tryz.underlying177 hi hz0 hz1 hz2 rfl (by decide) _ 0 _ rfl (n0.alloc _) ⟨V1.drew.heap.size, 0, none⟩ 1 1 [.int .i64 0, .int .i64 0] rfl rfl (newsArc _ _ _ _) (oneArc _ _) (by decide) (by decide) (by simp) ?_; intro v' w' hown hg _ _))
  have hbA : Below V1.heap.size V1 w' := cappG nb n0 hg
  have p0 : w'.cell? ⟨w.heap.size, 0, none⟩ = some (.int .i64 0) := cell_later hbA p0
  have p1 : w'.cell? ⟨w.heap.size, 1, none⟩ = some (.int .i64 0) := cell_later hbA p1
  have q0 : w'.cell? ⟨w.heap.size + 1, 0, none⟩ = some (.int .i64 0) := cell_later hbA q0
  have q1 : w'.cell? ⟨w.heap.size + 1, 1, none⟩ = some (.int .i64 d) := cell_later hbA q1
  have g0 := hbA.size
  have own2 : w'.ownsRow w.heap.size 23 2 v' 1 [.int .i64 0, .int .i64 0] := own_base (by omega) hown
  obtain ⟨V2, rfl⟩ : ∃ v, v = w' := ⟨_, rfl⟩
  clear hg n0 nb hown
  rw [rounds_succ]
  go_wp2
  go_region
  go_wp2
  rw [rounds_succ]
  go_wp2
  exact bodyPost_ret (v := v') (by first | (simp only [results, Tryz.results300]; go_simp; done) | simp [results, Tryz.results300, go_sem, *]) rfl ⟨v', rfl, ownsRow_later (by (repeat (first | (with_reducible exact Below.refl _ _) | (with_reducible refine Below.setCell ?_ (by (first | (simp; done) | (simp; omega) | omega)) _) | (with_reducible refine bl_alloc ?_ _) | (with_reducible refine bl_drewN ?_) | (with_reducible refine bl_drew ?_) | (with_reducible refine bl_step (by assumption) ?_)))) own2, by (repeat (first | (with_reducible exact Below.refl _ _) | (with_reducible refine Below.setCell ?_ (by (first | (simp; done) | (simp; omega) | omega)) _) | (with_reducible refine bl_alloc ?_ _) | (with_reducible refine bl_drewN ?_) | (with_reducible refine bl_drew ?_) | (with_reducible refine bl_step (by assumption) ?_)))⟩
set_option maxRecDepth 100000 in
set_option maxHeartbeats 4000000 in
/-- the longitudes of a box apart from the first meridian -/
theorem com_none (c d f : Int) (w : World) (h0 : -10800000 ≤ c) (hc : c ≤ d) (h2 : d ≤ 10800000) (hz : c < 0 ∧ d < 0 ∨ 0 < c) (hf : (c - 0) % 21600000 = f) :
    Calls Tryz.prog 300 #[.agg #[.int .i64 0, .int .i64 0], .agg #[.int .i64 c, .int .i64 d]] w fun e w' => e = .returned (.slice none 0 0) ∧ Below w.heap.size w w' := by
  have A := hidden fun w => all_no 0 0 w (by omega)
  have B := hidden fun w => all_no c d w (by omega)
  have Y := hidden fun w => beyond_any 0 0 c f w (by omega) (by omega) hf
  have S := hidden fun w => (by have := signed_any 0 w (by decide) (by decide); exact this : Calls Tryz.prog 21 #[.int .i64 0] w fun e w' => e = .returned (.int .i64 0) ∧ w = w')
  go_enter Tryz.func300, Tryz.ntmps300
  go_upto_region 6 with (((first | (go_at_call 252; ((with_reducible refine (A.out _).mono ?_); rintro e w' ⟨rfl, hb⟩); have nm0 := trivial) | (go_at_call 252; ((with_reducible refine (B.out _).mono ?_); rintro e w' ⟨rfl, hb⟩); have nm1 := trivial)); (try replace hb := below_undrew hb); (try replace hb := below_undrewN hb); obtain ⟨hcell, hfroz⟩ := bcell hb; have hz := hb.size; (try simp at hz); (try (have z9 := Nat.lt_of_lt_of_le (Nat.lt_succ_self _) hz)); (try (have z0 : w.heap.size < w'.heap.size := by omega)); (try (have z1 : w.heap.size + 1 < w'.heap.size := by omega)); (try (have z2 : w.heap.size + 1 + 1 < w'.heap.size := by omega)); (try (have z3 : w.heap.size + 1 + 1 + 1 < w'.heap.size := by omega)); (first | (clear nm0; obtain ⟨w1, rfl⟩ : ∃ v, v = w' := ⟨_, rfl⟩) | (clear nm1; obtain ⟨w2, rfl⟩ : ∃ v, v = w' := ⟨_, rfl⟩))))
  (refine name_code ?_; intro w' hb; (try replace hb := below_undrew hb); (try replace hb := below_undrewN hb); obtain ⟨hcell, hfroz⟩ := bcell hb; have hz := hb.size; (try simp at hz); (try (have z9 := Nat.lt_of_lt_of_le (Nat.lt_succ_self _) hz)); (try (have z0 : w.heap.size < w'.heap.size := by omega)); (try (have z1 : w.heap.size + 1 < w'.heap.size := by omega)); (try (have z2 : w.heap.size + 1 + 1 < w'.heap.size := by omega)); (try (have z3 : w.heap.size + 1 + 1 + 1 < w'.heap.size := by omega)); (try (have y1 : w1.heap.size < w'.heap.size := by omega)); (try (have y2 : w2.heap.size < w'.heap.size := by omega)); (try (have x1 : w1.heap.size + 1 < w'.heap.size := by omega)); (try (have x2 : w2.heap.size + 1 < w'.heap.size := by omega)); (try (have z10 : w1.heap.size < w'.heap.size + 1 := by omega)); (try (have z20 : w2.heap.size < w'.heap.size + 1 := by omega)))
  have p0 : w'.cell? ⟨w.heap.size, 0, none⟩ = some (.int .i64 0) := by simp [go_sem, *]
  have p1 : w'.cell? ⟨w.heap.size, 1, none⟩ = some (.int .i64 0) := by simp [go_sem, *]
  have q0 : w'.cell? ⟨w.heap.size + 1, 0, none⟩ = some (.int .i64 c) := by simp [go_sem, *]
  have q1 : w'.cell? ⟨w.heap.size + 1, 1, none⟩ = some (.int .i64 d) := by simp [go_sem, *]
  have hw0 : Below w.heap.size w w' := by (repeat (first | (with_reducible exact Below.refl _ _) | (with_reducible refine Below.setCell ?_ (by (first | (simp; done) | (simp; omega) | omega)) _) | (with_reducible refine bl_alloc ?_ _) | (with_reducible refine bl_drewN ?_) | (with_reducible refine bl_drew ?_) | (with_reducible refine bl_step (by assumption) ?_)))
  clear hcell hfroz hz hb
  obtain ⟨V0, rfl⟩ : ∃ v, v = w' := ⟨_, rfl⟩
  have g1 : w.heap.size + 1 < V0.heap.size := World.block_lt_of_cell? _ _ q0
  have g0 : w.heap.size < V0.heap.size := by omega
  refine wp_region_quiet_below (by kernel_rfl) (by kernel_rfl) ?_
  repeat (first | go_big_quiet_step ((go_at_call 302; (with_reducible exact Calls.regrown_of (Y.out _)))) | quiet_step ((go_at_call 302; (with_reducible exact Calls.regrown_of (Y.out _)))))
  refine wpQuiet_nil ?_; intro w' hw'; have hb := below_of_regrown hw'; clear hw'; (try replace hb := below_undrew hb); (try replace hb := below_undrewN hb); obtain ⟨hcell, hfroz⟩ := bcell hb; have hz := hb.size; (try simp at hz); (try (have z9 := Nat.lt_of_lt_of_le (Nat.lt_succ_self _) hz)); (try (have z0 : w.heap.size < w'.heap.size := by omega)); (try (have z1 : w.heap.size + 1 < w'.heap.size := by omega)); (try (have z2 : w.heap.size + 1 + 1 < w'.heap.size := by omega)); (try (have z3 : w.heap.size + 1 + 1 + 1 < w'.heap.size := by omega)); (try (have y1 : w1.heap.size < w'.heap.size := by omega)); (try (have y2 : w2.heap.size < w'.heap.size := by omega)); (try (have x1 : w1.heap.size + 1 < w'.heap.size := by omega)); (try (have x2 : w2.heap.size + 1 < w'.heap.size := by omega)); (try (have z10 : w1.heap.size < w'.heap.size + 1 := by omega)); (try (have z20 : w2.heap.size < w'.heap.size + 1 := by omega))
  have p0 : w'.cell? ⟨w.heap.size, 0, none⟩ = some (.int .i64 0) := by simp [go_sem, *]
  have p1 : w'.cell? ⟨w.heap.size, 1, none⟩ = some (.int .i64 0) := by simp [go_sem, *]
  have q0 : w'.cell? ⟨w.heap.size + 1, 0, none⟩ = some (.int .i64 c) := by simp [go_sem, *]
  have q1 : w'.cell? ⟨w.heap.size + 1, 1, none⟩ = some (.int .i64 d) := by simp [go_sem, *]
  have hw1 : Below w.heap.size w w' := by (repeat (first | (with_reducible exact Below.refl _ _) | (with_reducible refine Below.setCell ?_ (by (first | (simp; done) | (simp; omega) | omega)) _) | (with_reducible refine bl_alloc ?_ _) | (with_reducible refine bl_drewN ?_) | (with_reducible refine bl_drew ?_) | (with_reducible refine bl_step (by assumption) ?_)))
  clear hcell hfroz hz hb hw0
  obtain ⟨V1, rfl⟩ : ∃ v, v = w' := ⟨_, rfl⟩
  have g1 : w.heap.size + 1 < V1.heap.size := World.block_lt_of_cell? _ _ q0
  have g0 : w.heap.size < V1.heap.size := by omega
  have ix0 := fun w => idx20 (f) (f - 21600000) w
  have ix1 := fun w => idx21 (f) (f - 21600000) w
  have f1 : 0 ≤ f := by omega
  have f2 : f ≤ 21600000 := by omega
  have f3 : 0 < f := by omega
  have f4 : f - 21600000 ≤ 0 := by omega
  have f5 : ¬ 0 < f - 21600000 := by omega
  have m2 : 0 ≤ f + d - c := by omega
  have m3 : decide (f ≤ 0) = false := by simp; omega
  have m5 : f - 21600000 + d - c < 0 := by omega
  have m6 : decide (0 ≤ f - 21600000 + d - c) = false := by simp; omega
  clear hz hf
  go_wp2
  refine wp_loop_rounds 3 ?_
  rw [rounds_succ]
  go_wp2
  go_region
  go_wp2
  refine name_world (F := Code.rounds _ _ _ _ _) ?_
  intro w' hb
  (try replace hb := below_undrew hb); (try replace hb := below_undrewN hb); obtain ⟨hcell, hfroz⟩ := bcell hb; have hz := hb.size; (try simp at hz); (try (have z9 := Nat.lt_of_lt_of_le (Nat.lt_succ_self _) hz)); (try (have z0 : w.heap.size < w'.heap.size := by omega)); (try (have z1 : w.heap.size + 1 < w'.heap.size := by omega)); (try (have z2 : w.heap.size + 1 + 1 < w'.heap.size := by omega)); (try (have z3 : w.heap.size + 1 + 1 + 1 < w'.heap.size := by omega)); (try (have y1 : w1.heap.size < w'.heap.size := by omega)); (try (have y2 : w2.heap.size < w'.heap.size := by omega)); (try (have x1 : w1.heap.size + 1 < w'.heap.size := by omega)); (try (have x2 : w2.heap.size + 1 < w'.heap.size := by omega)); (try (have z10 : w1.heap.size < w'.heap.size + 1 := by omega)); (try (have z20 : w2.heap.size < w'.heap.size + 1 := by omega))
  have p0 : w'.cell? ⟨w.heap.size, 0, none⟩ = some (.int .i64 0) := cell_later hb p0
  have p1 : w'.cell? ⟨w.heap.size, 1, none⟩ = some (.int .i64 0) := cell_later hb p1
  have q0 : w'.cell? ⟨w.heap.size + 1, 0, none⟩ = some (.int .i64 c) := cell_later hb q0
  have q1 : w'.cell? ⟨w.heap.size + 1, 1, none⟩ = some (.int .i64 d) := cell_later hb q1
  have hw2 : Below w.heap.size w w' := by (repeat (first | (with_reducible exact Below.refl _ _) | (with_reducible refine Below.setCell ?_ (by (first | (simp; done) | (simp; omega) | omega)) _) | (with_reducible refine bl_alloc ?_ _) | (with_reducible refine bl_drewN ?_) | (with_reducible refine bl_drew ?_) | (with_reducible refine bl_step (by assumption) ?_)))
  clear hcell hfroz hz hb hw1
  obtain ⟨V2, rfl⟩ : ∃ v, v = w' := ⟨_, rfl⟩
  have g1 : w.heap.size + 1 < V2.heap.size := World.block_lt_of_cell? _ _ q0
  have g0 : w.heap.size < V2.heap.size := by omega
  rw [rounds_succ]
  go_wp2
  go_region
  go_wp2
  rw [rounds_succ]
  go_wp2
  exact bodyPost_ret (v := .slice none 0 0) (by first | (simp only [results, Tryz.results300]; go_simp; done) | simp [results, Tryz.results300, go_sem, *]) rfl ⟨rfl, by (repeat (first | (with_reducible exact Below.refl _ _) | (with_reducible refine Below.setCell ?_ (by (first | (simp; done) | (simp; omega) | omega)) _) | (with_reducible refine bl_alloc ?_ _) | (with_reducible refine bl_drewN ?_) | (with_reducible refine bl_drew ?_) | (with_reducible refine bl_step (by assumption) ?_)))⟩
set_option maxRecDepth 100000 in
set_option maxHeartbeats 4000000 in
theorem around_one (g cap : Nat) (w : World) (h0 : w.cell? ⟨g, 0, none⟩ = some (.int .i64 0)) (h1 : w.cell? ⟨g, 1, none⟩ = some (.int .i64 0)) :
    Calls Tryz.prog 301 #[.slice (some ⟨g, 0, none⟩) 1 cap] w fun e w' => e = .returned (.agg #[.int .i64 0, .int .i64 0]) ∧ Below w.heap.size w w' := by
  have E := hidden every_is
  have A := hidden fun w => all_no 0 0 w (by omega)
  have Y := hidden fun w => beyond_any 0 0 0 0 w (by omega) (by omega) (by omega)
  have hg : g < w.heap.size := World.block_lt_of_cell? _ _ h0
  have hg1 : g < w.heap.size + 1 := by omega
  go_enter Tryz.func301, Tryz.ntmps301
  go_wp2_with (go_at_call 297; ((with_reducible refine (E.out _).mono ?_); rintro e w' ⟨rfl, hb⟩); (try replace hb := below_undrew hb); (try replace hb := below_undrewN hb); obtain ⟨hcell, hfroz⟩ := bcell hb; have hz := hb.size; (try simp at hz); (try (have z9 := Nat.lt_of_lt_of_le (Nat.lt_succ_self _) hz)); (try (have z0 : w.heap.size < w'.heap.size := by omega)); (try (have z1 : w.heap.size + 1 < w'.heap.size := by omega)); (try (have z2 : w.heap.size + 1 + 1 < w'.heap.size := by omega)); (try (have z3 : w.heap.size + 1 + 1 + 1 < w'.heap.size := by omega)); obtain ⟨w1, rfl⟩ : ∃ v, v = w' := ⟨_, rfl⟩; have hg2 : g < w1.heap.size := (by omega); have hg3 : g < w1.heap.size + 1 := (by omega); have hg4 : g < w1.heap.size + 1 + 1 := (by omega); have hd1 : w.heap.size < w1.heap.size + 1 + 1 := (by omega))
  refine wp_loop_rounds 2 ?_
  rw [rounds_succ]
  go_wp2_with (go_at_call 252; ((with_reducible refine (A.out _).mono ?_); rintro e w' ⟨rfl, hb⟩); (try replace hb := below_undrew hb); (try replace hb := below_undrewN hb); obtain ⟨hcell, hfroz⟩ := bcell hb; have hz := hb.size; (try simp at hz); (try (have z9 := Nat.lt_of_lt_of_le (Nat.lt_succ_self _) hz)); (try (have z0 : w.heap.size < w'.heap.size := by omega)); (try (have z1 : w.heap.size + 1 < w'.heap.size := by omega)); (try (have z2 : w.heap.size + 1 + 1 < w'.heap.size := by omega)); (try (have z3 : w.heap.size + 1 + 1 + 1 < w'.heap.size := by omega)); (try (have y1 : w1.heap.size < w'.heap.size := by omega)); (try (have x1 : w1.heap.size + 1 < w'.heap.size := by omega)); (try (have z10 : w1.heap.size < w'.heap.size + 1 := by omega)); obtain ⟨w2, rfl⟩ : ∃ v, v = w' := ⟨_, rfl⟩; have hg5 : g < w2.heap.size := (by omega); have hg6 : g < w2.heap.size + 1 := (by omega))
  refine wp_loop_rounds 2 ?_
  rw [rounds_succ]
  go_wp2
  (refine name_code ?_; intro w' hb; (try replace hb := below_undrew hb); (try replace hb := below_undrewN hb); obtain ⟨hcell, hfroz⟩ := bcell hb; have hz := hb.size; (try simp at hz); (try (have z9 := Nat.lt_of_lt_of_le (Nat.lt_succ_self _) hz)); (try (have z0 : w.heap.size < w'.heap.size := by omega)); (try (have z1 : w.heap.size + 1 < w'.heap.size := by omega)); (try (have z2 : w.heap.size + 1 + 1 < w'.heap.size := by omega)); (try (have z3 : w.heap.size + 1 + 1 + 1 < w'.heap.size := by omega)); (try (have y1 : w1.heap.size < w'.heap.size := by omega)); (try (have y2 : w2.heap.size < w'.heap.size := by omega)); (try (have x1 : w1.heap.size + 1 < w'.heap.size := by omega)); (try (have x2 : w2.heap.size + 1 < w'.heap.size := by omega)); (try (have z10 : w1.heap.size < w'.heap.size + 1 := by omega)); (try (have z20 : w2.heap.size < w'.heap.size + 1 := by omega)))
  have a0 : w'.cell? ⟨w1.heap.size + 1, 0, none⟩ = some (.int .i64 0) := by simp [go_sem, *]
  have a1 : w'.cell? ⟨w1.heap.size + 1, 1, none⟩ = some (.int .i64 0) := by simp [go_sem, *]
  have b0 : w'.cell? ⟨w2.heap.size, 0, none⟩ = some (.int .i64 0) := by simp [go_sem, *]
  have b1 : w'.cell? ⟨w2.heap.size, 1, none⟩ = some (.int .i64 0) := by simp [go_sem, *]
  have c0 : w'.cell? ⟨w1.heap.size, 0, none⟩ = some (.int .i64 (-10800000)) := by simp [go_sem, *]
  have c1 : w'.cell? ⟨w1.heap.size, 1, none⟩ = some (.int .i64 10800000) := by simp [go_sem, *]
  have cf : ∀ o, w'.frozen? ⟨w1.heap.size, o, none⟩ = false := by intro o; simp [go_sem, *]
  have d0 : w'.cell? ⟨w.heap.size, 0, none⟩ = some (.int .i64 0) := by simp [go_sem, *]
  have d1 : w'.cell? ⟨w.heap.size, 1, none⟩ = some (.int .i64 0) := by simp [go_sem, *]
  have df : ∀ o, w'.frozen? ⟨w.heap.size, o, none⟩ = false := by intro o; simp [go_sem, *]
  have hw0 : Below w.heap.size w w' := by (repeat (first | (with_reducible exact Below.refl _ _) | (with_reducible refine Below.setCell ?_ (by (first | (simp; done) | (simp; omega) | omega)) _) | (with_reducible refine bl_alloc ?_ _) | (with_reducible refine bl_drewN ?_) | (with_reducible refine bl_drew ?_) | (with_reducible refine bl_step (by assumption) ?_)))
  have g1 : w.heap.size < w1.heap.size := by omega
  have g2 : w1.heap.size + 1 < w2.heap.size := by omega
  clear hcell hfroz hz hb
  obtain ⟨V0, rfl⟩ : ∃ v, v = w' := ⟨_, rfl⟩
  have g3 : w2.heap.size < V0.heap.size := World.block_lt_of_cell? _ _ b0
  have g4 : w1.heap.size < V0.heap.size := by omega
  have g5 : w1.heap.size + 1 < V0.heap.size := by omega
  have g6 : w.heap.size < V0.heap.size := by omega
  have m0 : max (0 : Int) 0 = 0 := by decide
  refine wp_region_quiet_below (by kernel_rfl) (by kernel_rfl) ?_
  repeat (first | go_big_quiet_step ((go_at_call 302; (with_reducible exact Calls.regrown_of (Y.out _)))) | quiet_step ((go_at_call 302; (with_reducible exact Calls.regrown_of (Y.out _)))))
  refine wpQuiet_nil ?_; intro w' hw'; have hb := below_of_regrown hw'; clear hw'; (try replace hb := below_undrew hb); (try replace hb := below_undrewN hb); obtain ⟨hcell, hfroz⟩ := bcell hb; have hz := hb.size; (try simp at hz); (try (have z9 := Nat.lt_of_lt_of_le (Nat.lt_succ_self _) hz)); (try (have z0 : w.heap.size < w'.heap.size := by omega)); (try (have z1 : w.heap.size + 1 < w'.heap.size := by omega)); (try (have z2 : w.heap.size + 1 + 1 < w'.heap.size := by omega)); (try (have z3 : w.heap.size + 1 + 1 + 1 < w'.heap.size := by omega)); (try (have y1 : w1.heap.size < w'.heap.size := by omega)); (try (have y2 : w2.heap.size < w'.heap.size := by omega)); (try (have x1 : w1.heap.size + 1 < w'.heap.size := by omega)); (try (have x2 : w2.heap.size + 1 < w'.heap.size := by omega)); (try (have z10 : w1.heap.size < w'.heap.size + 1 := by omega)); (try (have z20 : w2.heap.size < w'.heap.size + 1 := by omega))
  have a0 := cell_later hb a0
  have a1 := cell_later hb a1
  have c0 := cell_later hb c0
  have c1 := cell_later hb c1
  have cf : ∀ o, w'.frozen? ⟨w1.heap.size, o, none⟩ = false := by intro o; simp [go_sem, *]
  have d0 := cell_later hb d0
  have d1 := cell_later hb d1
  have df : ∀ o, w'.frozen? ⟨w.heap.size, o, none⟩ = false := by intro o; simp [go_sem, *]
  have hw1 : Below w.heap.size w w' := by (repeat (first | (with_reducible exact Below.refl _ _) | (with_reducible refine Below.setCell ?_ (by (first | (simp; done) | (simp; omega) | omega)) _) | (with_reducible refine bl_alloc ?_ _) | (with_reducible refine bl_drewN ?_) | (with_reducible refine bl_drew ?_) | (with_reducible refine bl_step (by assumption) ?_)))
  clear hcell hfroz hz hb b0 b1 hw0 g3 g4 g5 g6
  obtain ⟨V1, rfl⟩ : ∃ v, v = w' := ⟨_, rfl⟩
  have g5 : w1.heap.size + 1 < V1.heap.size := World.block_lt_of_cell? _ _ a0
  have g4 : w1.heap.size < V1.heap.size := by omega
  have g6 : w.heap.size < V1.heap.size := by omega
  have hne : w.heap.size ≠ w1.heap.size := by omega
  go_wp2
  rw [rounds_succ]
  go_wp2
  rw [rounds_succ]
  go_wp2
  exact bodyPost_ret (v := .agg #[.int .i64 0, .int .i64 0]) (by first | (simp only [results, Tryz.results301]; go_simp; done) | simp [results, Tryz.results301, go_sem, *]) rfl ⟨rfl, by (repeat (first | (with_reducible exact Below.refl _ _) | (with_reducible refine Below.setCell ?_ (by (first | (simp; done) | (simp; omega) | omega)) _) | (with_reducible refine bl_alloc ?_ _) | (with_reducible refine bl_drewN ?_) | (with_reducible refine bl_drew ?_) | (with_reducible refine bl_step (by assumption) ?_)))⟩
end Go.Proofs.YtdhbeoahpfimbaaGreat
