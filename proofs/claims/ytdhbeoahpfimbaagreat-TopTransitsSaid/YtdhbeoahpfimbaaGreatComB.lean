/- The longitudes of a box around the first meridian. -/
import Derived.Test.YtdhbeoahpfimbaaGreatPla
namespace Go.Proofs.YtdhbeoahpfimbaaGreat
open Go.RowKit
set_option maxRecDepth 100000 in
set_option maxHeartbeats 4000000 in
/-- the longitudes of a box around the first meridian -/
theorem com_second (c d f : Int) (w : World) (h0 : -10800000 ≤ c) (hc : c < 0) (h1 : 0 ≤ d) (h2 : d ≤ 10800000) (hn : ¬ (c = -10800000 ∧ d = 10800000)) (hf : (c - 0) % 21600000 = f) :
    Calls Tryz.prog 300 #[.agg #[.int .i64 0, .int .i64 0], .agg #[.int .i64 c, .int .i64 d]] w fun e w' => ∃ v, e = .returned v ∧ w'.ownsRow w.heap.size 23 2 v 1 [.int .i64 0, .int .i64 0] ∧ Below w.heap.size w w' := by
  have A := hidden fun w => all_no 0 0 w (by omega)
  have B := hidden fun w => all_no c d w (by omega)
  have Y := hidden fun w => beyond_any 0 0 c f w (by omega) (by omega) hf
  have S := hidden fun w => (by have := signed_any 0 w (by decide) (by decide); exact this : Calls Tryz.prog 21 #[.int .i64 0] w fun e w' => e = .returned (.int .i64 0) ∧ w = w')
  obtain ⟨i0, hi, hz0, hz1, hz2⟩ := info_partsC infoArc
  go_enter Tryz.func300, Tryz.ntmps300
  go_upto_region 6 with (((first | (go_at_call 252; ((with_reducible refine (A.out _).mono ?_); rintro e w' ⟨rfl, hb⟩); have nm0 := trivial) | (go_at_call 252; ((with_reducible refine (B.out _).mono ?_); rintro e w' ⟨rfl, hb⟩); have nm1 := trivial)); (try replace hb := below_undrew hb); (try replace hb := below_undrewN hb); obtain ⟨hcell, hfroz⟩ := bcell hb; have hz := hb.size; (try simp at hz); (try (have z9 := Nat.lt_of_lt_of_le (Nat.lt_succ_self _) hz)); (try (have z0 : w.heap.size < w'.heap.size := by omega)); (try (have z1 : w.heap.size + 1 < w'.heap.size := by omega)); (try (have z2 : w.heap.size + 1 + 1 < w'.heap.size := by omega)); (try (have z3 : w.heap.size + 1 + 1 + 1 < w'.heap.size := by omega)); (first | (clear nm0; obtain ⟨w1, rfl⟩ : ∃ v, v = w' := ⟨_, rfl⟩) | (clear nm1; obtain ⟨w2, rfl⟩ : ∃ v, v = w' := ⟨_, rfl⟩))))
  (refine name_code ?_; intro w' hb; (try replace hb := below_undrew hb); (try replace hb := below_undrewN hb); obtain ⟨hcell, hfroz⟩ := bcell hb; have hz := hb.size; (try simp at hz); (try (have z9 := Nat.lt_of_lt_of_le (Nat.lt_succ_self _) hz)); (try (have z0 : w.heap.size < w'.heap.size := by omega)); (try (have z1 : w.heap.size + 1 < w'.heap.size := by omega)); (try (have z2 : w.heap.size + 1 + 1 < w'.heap.size := by omega)); (try (have z3 : w.heap.size + 1 + 1 + 1 < w'.heap.size := by omega)); (try (have y1 : w1.heap.size < w'.heap.size := by omega)); (try (have y2 : w2.heap.size < w'.heap.size := by omega)); (try (have x1 : w1.heap.size + 1 < w'.heap.size := by omega)); (try (have x2 : w2.heap.size + 1 < w'.heap.size := by omega)); (try (have z10 : w1.heap.size < w'.heap.size + 1 := by omega)); (try (have z20 : w2.heap.size < w'.heap.size + 1 := by omega)))
  have p0 : w'.cell? ⟨w.heap.size, 0, none⟩ = some (.int .i64 0) := by simp [go_sem, *]
  have p1 : w'.cell? ⟨w.heap.size, 1, none⟩ = some (.int .i64 0) := by simp [go_sem, *]
  have q0 : w'.cell? ⟨w.heap.size + 1, 0, none⟩ = some (.int .i64 c) := by simp [go_sem, *]
  have q1 : w'.cell? ⟨w.heap.size + 1, 1, none⟩ = some (.int .i64 d) := by simp [go_sem, *]
  have hw0 : Below w.heap.size w w' := by (repeat (first | (with_reducible exact Below.refl _ _) | (with_reducible refine Below.setCell ?_ (by (first | (simp; done) | (simp; omega) | omega)) _) | (with_reducible refine bl_alloc ?_ _) | (with_reducible refine bl_drewN ?_) | (with_reducible refine bl_drew ?_) | (with_reducible refine bl_step (by assumption) ?_)))
  clear hcell hfroz hz hb
  obtain ⟨V0, rfl⟩ : ∃ v, v = w' := ⟨_, rfl⟩
  have g1 : w.heap.size + 1 < V0.heap.size := World.block_lt_of_cell? _ _ q0
  have g0 : w.heap.size < V0.heap.size := by omega
  refine wp_region_quiet_below (by kernel_rfl) (by kernel_rfl) ?_
  repeat (first | go_big_quiet_step ((go_at_call 302; (with_reducible exact Calls.regrown_of (Y.out _)))) | quiet_step ((go_at_call 302; (with_reducible exact Calls.regrown_of (Y.out _)))))
  refine wpQuiet_nil ?_; intro w' hw'; have hb := below_of_regrown hw'; clear hw'; (try replace hb := below_undrew hb); (try replace hb := below_undrewN hb); obtain ⟨hcell, hfroz⟩ := bcell hb; have hz := hb.size; (try simp at hz); (try (have z9 := Nat.lt_of_lt_of_le (Nat.lt_succ_self _) hz)); (try (have z0 : w.heap.size < w'.heap.size := by omega)); (try (have z1 : w.heap.size + 1 < w'.heap.size := by omega)); (try (have z2 : w.heap.size + 1 + 1 < w'.heap.size := by omega)); (try (have z3 : w.heap.size + 1 + 1 + 1 < w'.heap.size := by omega)); (try (have y1 : w1.heap.size < w'.heap.size := by omega)); (try (have y2 : w2.heap.size < w'.heap.size := by omega)); (try (have x1 : w1.heap.size + 1 < w'.heap.size := by omega)); (try (have x2 : w2.heap.size + 1 < w'.heap.size := by omega)); (try (have z10 : w1.heap.size < w'.heap.size + 1 := by omega)); (try (have z20 : w2.heap.size < w'.heap.size + 1 := by omega))
  have p0 : w'.cell? ⟨w.heap.size, 0, none⟩ = some (.int .i64 0) := by simp [go_sem, *]
  have p1 : w'.cell? ⟨w.heap.size, 1, none⟩ = some (.int .i64 0) := by simp [go_sem, *]
  have q0 : w'.cell? ⟨w.heap.size + 1, 0, none⟩ = some (.int .i64 c) := by simp [go_sem, *]
  have q1 : w'.cell? ⟨w.heap.size + 1, 1, none⟩ = some (.int .i64 d) := by simp [go_sem, *]
  have hw1 : Below w.heap.size w w' := by (repeat (first | (with_reducible exact Below.refl _ _) | (with_reducible refine Below.setCell ?_ (by (first | (simp; done) | (simp; omega) | omega)) _) | (with_reducible refine bl_alloc ?_ _) | (with_reducible refine bl_drewN ?_) | (with_reducible refine bl_drew ?_) | (with_reducible refine bl_step (by assumption) ?_)))
  clear hcell hfroz hz hb hw0
  obtain ⟨V1, rfl⟩ : ∃ v, v = w' := ⟨_, rfl⟩
  have g1 : w.heap.size + 1 < V1.heap.size := World.block_lt_of_cell? _ _ q0
  have g0 : w.heap.size < V1.heap.size := by omega
  have ix0 := fun w => idx20 (f) (f - 21600000) w
  have ix1 := fun w => idx21 (f) (f - 21600000) w
  have f0 : f = c + 21600000 := by omega
  have f1 : 0 ≤ f := by omega
  have f2 : f ≤ 21600000 := by omega
  have f3 : 0 < f := by omega
  have f4 : f - 21600000 ≤ 0 := by omega
  have f5 : ¬ 0 < f - 21600000 := by omega
  have m2 : 0 ≤ f + d - c := by omega
  have m3 : decide (f ≤ 0) = false := by simp; omega
  have m5 : 0 ≤ f - 21600000 + d - c := by omega
  clear hn hf f0
  go_wp2
  refine wp_loop_rounds 3 ?_
  rw [rounds_succ]
  go_wp2
  go_region
  go_wp2
  refine name_world (F := Code.rounds _ _ _ _ _) ?_
  intro w' hb
  (try replace hb := below_undrew hb); (try replace hb := below_undrewN hb); obtain ⟨hcell, hfroz⟩ := bcell hb; have hz := hb.size; (try simp at hz); (try (have z9 := Nat.lt_of_lt_of_le (Nat.lt_succ_self _) hz)); (try (have z0 : w.heap.size < w'.heap.size := by omega)); (try (have z1 : w.heap.size + 1 < w'.heap.size := by omega)); (try (have z2 : w.heap.size + 1 + 1 < w'.heap.size := by omega)); (try (have z3 : w.heap.size + 1 + 1 + 1 < w'.heap.size := by omega)); (try (have y1 : w1.heap.size < w'.heap.size := by omega)); (try (have y2 : w2.heap.size < w'.heap.size := by omega)); (try (have x1 : w1.heap.size + 1 < w'.heap.size := by omega)); (try (have x2 : w2.heap.size + 1 < w'.heap.size := by omega)); (try (have z10 : w1.heap.size < w'.heap.size + 1 := by omega)); (try (have z20 : w2.heap.size < w'.heap.size + 1 := by omega))
  have p0 : w'.cell? ⟨w.heap.size, 0, none⟩ = some (.int .i64 0) := cell_later hb p0
  have p1 : w'.cell? ⟨w.heap.size, 1, none⟩ = some (.int .i64 0) := cell_later hb p1
  have q0 : w'.cell? ⟨w.heap.size + 1, 0, none⟩ = some (.int .i64 c) := cell_later hb q0
  have q1 : w'.cell? ⟨w.heap.size + 1, 1, none⟩ = some (.int .i64 d) := cell_later hb q1
  have hw2 : Below w.heap.size w w' := by (repeat (first | (with_reducible exact Below.refl _ _) | (with_reducible refine Below.setCell ?_ (by (first | (simp; done) | (simp; omega) | omega)) _) | (with_reducible refine bl_alloc ?_ _) | (with_reducible refine bl_drewN ?_) | (with_reducible refine bl_drew ?_) | (with_reducible refine bl_step (by assumption) ?_)))
  clear hcell hfroz hz hb hw1
  obtain ⟨V2, rfl⟩ : ∃ v, v = w' := ⟨_, rfl⟩
  have g1 : w.heap.size + 1 < V2.heap.size := World.block_lt_of_cell? _ _ q0
  have g0 : w.heap.size < V2.heap.size := by omega
  rw [rounds_succ]
  go_wp2
  go_region
  have n0 : V2.drew.ownsRow V2.heap.size 23 2 (.slice none 0 0) 0 [] := World.ownsRow_nil _ _ _ _
  have nb : Below V2.heap.size V2 V2.drew := by (repeat (first | (with_reducible exact Below.refl _ _) | (with_reducible refine Below.setCell ?_ (by (first | (simp; done) | (simp; omega) | omega)) _) | (with_reducible refine bl_alloc ?_ _) | (with_reducible refine bl_drewN ?_) | (with_reducible refine bl_drew ?_) | (with_reducible refine bl_step (by assumption) ?_)))
  go_wp2_with (first | (go_at_call 21; ((with_reducible refine (S.out _).mono ?_); rintro e w' ⟨rfl, rfl⟩)) | (at_builtin; refine wpList_append_own_at _ rfl _ _ 177 rfl V2.heap.size 23 i0 (.agg #[.int .i64 0, .int .i64 0]) 2 16 Tryz.underlying177 hi hz0 hz1 hz2 rfl (by decide) _ 0 _ rfl (n0.alloc _) ⟨V2.drew.heap.size, 0, none⟩ 1 1 [.int .i64 0, .int .i64 0] rfl rfl (newsArc _ _ _ _) (oneArc _ _) (by decide) (by decide) (by simp) ?_; intro v' w' hown hg _ _))
  have hbA : Below V2.heap.size V2 w' := cappG nb n0 hg
  have own2 : w'.ownsRow w.heap.size 23 2 v' 1 [.int .i64 0, .int .i64 0] := own_base (by omega) hown
  clear hg n0 nb hown
  rw [rounds_succ]
  go_wp2
  exact bodyPost_ret (v := v') (by first | (simp only [results, Tryz.results300]; go_simp; done) | simp [results, Tryz.results300, go_sem, *]) rfl ⟨v', rfl, own2, Below.trans hw2 (hbA.mono (by omega))⟩
end Go.Proofs.YtdhbeoahpfimbaaGreat
