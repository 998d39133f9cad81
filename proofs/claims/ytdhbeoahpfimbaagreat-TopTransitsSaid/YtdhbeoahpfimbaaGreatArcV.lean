/- Arctrig's sine and cosine of an angle, and whether a point reaches an angle, as contracts. -/
import Derived.Test.YtdhbeoahpfimbaaGreatAd
import Derived.Test.YtdhbeoahpfimbaaGreatRa
namespace Go.Proofs.YtdhbeoahpfimbaaGreat
open Go.RowKit Brg
set_option maxRecDepth 100000 in
set_option maxHeartbeats 8000000 in
theorem circle_walk (k p0 p1 p2 p3 m0 m1 m2 m3 t0 t1 t2 t3 q0 q1 q2 q3 s0 s1 s2 s3 c0 c1 c2 c3 : Int) (w : World) (k0 : 0 ≤ k) (k1 : k ≤ 2700000)
    (PI : Hid (∀ w, Calls Tryz.prog 305 #[] w fun e w' => e = .returned (.agg #[.int .u64 p0, .int .u64 p1, .int .u64 p2, .int .u64 p3]) ∧ Below w.heap.size w w'))
    (T : Hid (∀ w, Calls Tryz.prog 269 #[.agg #[.int .u64 p0, .int .u64 p1, .int .u64 p2, .int .u64 p3], .int .u64 k] w fun e w' => e = .returned (.agg #[.int .u64 m0, .int .u64 m1, .int .u64 m2, .int .u64 m3]) ∧ Below w.heap.size w w'))
    (O : Hid (∀ w, Calls Tryz.prog 306 #[.agg #[.int .u64 m0, .int .u64 m1, .int .u64 m2, .int .u64 m3], .int .u64 10800000] w fun e w' => e = .returned (.agg #[.int .u64 t0, .int .u64 t1, .int .u64 t2, .int .u64 t3]) ∧ Below w.heap.size w w'))
    (M : Hid (∀ w, Calls Tryz.prog 307 #[.agg #[.int .u64 t0, .int .u64 t1, .int .u64 t2, .int .u64 t3], .agg #[.int .u64 t0, .int .u64 t1, .int .u64 t2, .int .u64 t3]] w fun e w' => e = .returned (.agg #[.int .u64 q0, .int .u64 q1, .int .u64 q2, .int .u64 q3]) ∧ Below w.heap.size w w'))
    (S : Hid (∀ w, Calls Tryz.prog 308 #[.agg #[.int .u64 t0, .int .u64 t1, .int .u64 t2, .int .u64 t3], .agg #[.int .u64 q0, .int .u64 q1, .int .u64 q2, .int .u64 q3], .int .u64 1] w fun e w' => e = .returned (.agg #[.int .u64 s0, .int .u64 s1, .int .u64 s2, .int .u64 s3]) ∧ Below w.heap.size w w'))
    (C : Hid (∀ w, Calls Tryz.prog 308 #[.agg #[.int .u64 1, .int .u64 0, .int .u64 0, .int .u64 0], .agg #[.int .u64 q0, .int .u64 q1, .int .u64 q2, .int .u64 q3], .int .u64 0] w fun e w' => e = .returned (.agg #[.int .u64 c0, .int .u64 c1, .int .u64 c2, .int .u64 c3]) ∧ Below w.heap.size w w')) :
    Calls Tryz.prog 268 #[.int .i64 k] w fun e w' => e = .returned (.tuple #[.agg #[.int .u64 s0, .int .u64 s1, .int .u64 s2, .int .u64 s3], .agg #[.int .u64 c0, .int .u64 c1, .int .u64 c2, .int .u64 c3]]) ∧ Below w.heap.size w w' := by
  go_enter Tryz.func268, Tryz.ntmps268
  go_upto_region 6 with (((first | (go_at_call 305; ((with_reducible refine (PI.out _).mono ?_); rintro e w' ⟨rfl, hb⟩); have nm0 := trivial) | (go_at_call 269; ((with_reducible refine (T.out _).mono ?_); rintro e w' ⟨rfl, hb⟩); have nm1 := trivial) | (go_at_call 306; ((with_reducible refine (O.out _).mono ?_); rintro e w' ⟨rfl, hb⟩); have nm2 := trivial) | (go_at_call 307; ((with_reducible refine (M.out _).mono ?_); rintro e w' ⟨rfl, hb⟩); have nm3 := trivial)); (try replace hb := below_undrew hb); (try replace hb := below_undrewN hb); obtain ⟨hcell, hfroz⟩ := bcell hb; have hz := hb.size; (try simp at hz); (try (have z6 := Nat.lt_of_lt_of_le z7 hz)); (try (have z7 := Nat.lt_of_lt_of_le z8 hz)); (try (have z8 := Nat.lt_of_lt_of_le z9 hz)); (try (have z9 := Nat.lt_of_lt_of_le (Nat.lt_succ_self _) hz)); (try have z0 : w.heap.size < w'.heap.size := by omega); (try have z1 : w.heap.size + 1 < w'.heap.size := by omega); (try have z2 : w.heap.size + 1 + 1 < w'.heap.size := by omega); (try have z3 : w.heap.size + 1 + 1 + 1 < w'.heap.size := by omega); (try have y1 : w1.heap.size < w'.heap.size := by omega); (try have y2 : w2.heap.size < w'.heap.size := by omega); (try have y3 : w3.heap.size < w'.heap.size := by omega); (try have x1 : w1.heap.size + 1 < w'.heap.size := by omega); (try have x2 : w2.heap.size + 1 < w'.heap.size := by omega); (try have x3 : w3.heap.size + 1 < w'.heap.size := by omega); (try have z10 : w1.heap.size < w'.heap.size + 1 := by omega); (try have z20 : w2.heap.size < w'.heap.size + 1 := by omega); (try have z30 : w3.heap.size < w'.heap.size + 1 := by omega); (first | (clear nm0; obtain ⟨w1, rfl⟩ : ∃ v, v = w' := ⟨_, rfl⟩) | (clear nm1; obtain ⟨w2, rfl⟩ : ∃ v, v = w' := ⟨_, rfl⟩) | (clear nm2; obtain ⟨w3, rfl⟩ : ∃ v, v = w' := ⟨_, rfl⟩) | (clear nm3; obtain ⟨w4, rfl⟩ : ∃ v, v = w' := ⟨_, rfl⟩))))
  refine name_code ?_
  intro w' hb
  (try replace hb := below_undrew hb); (try replace hb := below_undrewN hb); obtain ⟨hcell, hfroz⟩ := bcell hb; have hz := hb.size; (try simp at hz); (try (have z6 := Nat.lt_of_lt_of_le z7 hz)); (try (have z7 := Nat.lt_of_lt_of_le z8 hz)); (try (have z8 := Nat.lt_of_lt_of_le z9 hz)); (try (have z9 := Nat.lt_of_lt_of_le (Nat.lt_succ_self _) hz)); (try have z0 : w.heap.size < w'.heap.size := by omega); (try have z1 : w.heap.size + 1 < w'.heap.size := by omega); (try have z2 : w.heap.size + 1 + 1 < w'.heap.size := by omega); (try have z3 : w.heap.size + 1 + 1 + 1 < w'.heap.size := by omega); (try have y1 : w1.heap.size < w'.heap.size := by omega); (try have y2 : w2.heap.size < w'.heap.size := by omega); (try have y3 : w3.heap.size < w'.heap.size := by omega); (try have y4 : w4.heap.size < w'.heap.size := by omega); (try have x1 : w1.heap.size + 1 < w'.heap.size := by omega); (try have x2 : w2.heap.size + 1 < w'.heap.size := by omega); (try have x3 : w3.heap.size + 1 < w'.heap.size := by omega); (try have x4 : w4.heap.size + 1 < w'.heap.size := by omega); (try have z10 : w1.heap.size < w'.heap.size + 1 := by omega); (try have z20 : w2.heap.size < w'.heap.size + 1 := by omega); (try have z30 : w3.heap.size < w'.heap.size + 1 := by omega); (try have z40 : w4.heap.size < w'.heap.size + 1 := by omega)
  have x0 : w'.cell? ⟨w3.heap.size, 0, none⟩ = some (.int .u64 t0) := by simp [go_sem, *]
  have x1 : w'.cell? ⟨w3.heap.size, 1, none⟩ = some (.int .u64 t1) := by simp [go_sem, *]
  have x2 : w'.cell? ⟨w3.heap.size, 2, none⟩ = some (.int .u64 t2) := by simp [go_sem, *]
  have x3 : w'.cell? ⟨w3.heap.size, 3, none⟩ = some (.int .u64 t3) := by simp [go_sem, *]
  have y0 : w'.cell? ⟨w4.heap.size, 0, none⟩ = some (.int .u64 q0) := by simp [go_sem, *]
  have y1 : w'.cell? ⟨w4.heap.size, 1, none⟩ = some (.int .u64 q1) := by simp [go_sem, *]
  have y2 : w'.cell? ⟨w4.heap.size, 2, none⟩ = some (.int .u64 q2) := by simp [go_sem, *]
  have y3 : w'.cell? ⟨w4.heap.size, 3, none⟩ = some (.int .u64 q3) := by simp [go_sem, *]
  have r0 : w'.cell? ⟨w.heap.size, 0, none⟩ = some (.int .u64 0) := by simp [go_sem, *]
  have r1 : w'.cell? ⟨w.heap.size, 1, none⟩ = some (.int .u64 0) := by simp [go_sem, *]
  have r2 : w'.cell? ⟨w.heap.size, 2, none⟩ = some (.int .u64 0) := by simp [go_sem, *]
  have r3 : w'.cell? ⟨w.heap.size, 3, none⟩ = some (.int .u64 0) := by simp [go_sem, *]
  have rf : ∀ o, w'.frozen? ⟨w.heap.size, o, none⟩ = false := by intro o; simp [go_sem, *]
  have u0 : w'.cell? ⟨w.heap.size + 1, 0, none⟩ = some (.int .u64 0) := by simp [go_sem, *]
  have u1 : w'.cell? ⟨w.heap.size + 1, 1, none⟩ = some (.int .u64 0) := by simp [go_sem, *]
  have u2 : w'.cell? ⟨w.heap.size + 1, 2, none⟩ = some (.int .u64 0) := by simp [go_sem, *]
  have u3 : w'.cell? ⟨w.heap.size + 1, 3, none⟩ = some (.int .u64 0) := by simp [go_sem, *]
  have uf : ∀ o, w'.frozen? ⟨w.heap.size + 1, o, none⟩ = false := by intro o; simp [go_sem, *]
  have hw0 : Below w.heap.size w w' := by (repeat (first | (with_reducible exact Below.refl _ _) | (with_reducible refine Below.setCell ?_ (by (first | (simp; done) | (simp; omega) | omega)) _) | (with_reducible refine bl_alloc ?_ _) | (with_reducible refine bl_drewN ?_) | (with_reducible refine bl_drew ?_) | (with_reducible refine bl_step (by assumption) ?_)))
  clear hcell hfroz hz hb
  obtain ⟨V0, rfl⟩ : ∃ v, v = w' := ⟨_, rfl⟩
  have g3 : w3.heap.size < V0.heap.size := World.block_lt_of_cell? _ _ x0
  have g4 : w4.heap.size < V0.heap.size := World.block_lt_of_cell? _ _ y0
  have g1 : w.heap.size + 1 < V0.heap.size := World.block_lt_of_cell? _ _ u0
  have g0 : w.heap.size < V0.heap.size := by omega
  refine wp_region_quiet_tail 6 (by kernel_rfl) (by kernel_rfl) ?_
  simp only [List.take_succ_cons, List.take_zero, List.drop_succ_cons, List.drop_zero]
  repeat (first | go_big_quiet_step ((first | (go_at_call 308; (with_reducible exact Calls.regrown_of (S.out _))) | (go_at_call 308; (with_reducible exact Calls.regrown_of (C.out _))))) | quiet_step ((first | (go_at_call 308; (with_reducible exact Calls.regrown_of (S.out _))) | (go_at_call 308; (with_reducible exact Calls.regrown_of (C.out _))))))
  refine wpQuiet_nil ?_; intro w' hw'; have hb := below_of_regrown hw'; clear hw'; (try replace hb := below_undrew hb); (try replace hb := below_undrewN hb); obtain ⟨hcell, hfroz⟩ := bcell hb; have hz := hb.size; (try simp at hz); (try (have z6 := Nat.lt_of_lt_of_le z7 hz)); (try (have z7 := Nat.lt_of_lt_of_le z8 hz)); (try (have z8 := Nat.lt_of_lt_of_le z9 hz)); (try (have z9 := Nat.lt_of_lt_of_le (Nat.lt_succ_self _) hz)); (try have z0 : w.heap.size < w'.heap.size := by omega); (try have z1 : w.heap.size + 1 < w'.heap.size := by omega); (try have z2 : w.heap.size + 1 + 1 < w'.heap.size := by omega); (try have z3 : w.heap.size + 1 + 1 + 1 < w'.heap.size := by omega); (try have y1 : w1.heap.size < w'.heap.size := by omega); (try have y2 : w2.heap.size < w'.heap.size := by omega); (try have y3 : w3.heap.size < w'.heap.size := by omega); (try have y4 : w4.heap.size < w'.heap.size := by omega); (try have x1 : w1.heap.size + 1 < w'.heap.size := by omega); (try have x2 : w2.heap.size + 1 < w'.heap.size := by omega); (try have x3 : w3.heap.size + 1 < w'.heap.size := by omega); (try have x4 : w4.heap.size + 1 < w'.heap.size := by omega); (try have z10 : w1.heap.size < w'.heap.size + 1 := by omega); (try have z20 : w2.heap.size < w'.heap.size + 1 := by omega); (try have z30 : w3.heap.size < w'.heap.size + 1 := by omega); (try have z40 : w4.heap.size < w'.heap.size + 1 := by omega)
  go_wp2
  exact bodyPost_ret (v := .tuple #[.agg #[.int .u64 s0, .int .u64 s1, .int .u64 s2, .int .u64 s3], .agg #[.int .u64 c0, .int .u64 c1, .int .u64 c2, .int .u64 c3]]) (by first | (simp only [results, Tryz.results268]; go_simp; done) | simp [results, Tryz.results268, go_sem, *]) rfl ⟨rfl, by (repeat (first | (with_reducible exact Below.refl _ _) | (with_reducible refine Below.setCell ?_ (by (first | (simp; done) | (simp; omega) | omega)) _) | (with_reducible refine bl_alloc ?_ _) | (with_reducible refine bl_drewN ?_) | (with_reducible refine bl_drew ?_) | (with_reducible refine bl_step (by assumption) ?_)))⟩
theorem circle_low (k : Int) (w : World) (k0 : 0 ≤ k) (k1 : k ≤ 2700000) :
    Calls Tryz.prog 268 #[.int .i64 k] w fun e w' => e = .returned (.tuple #[NUM (arSnH k), NUM (arCsH k)]) ∧ Below w.heap.size w w' := by
  have hW := w192_lt
  have hW2 : 0 < W256 := by have := w192_pos; omega
  have p0 : 0 ≤ arPi ∧ arPi < W256 := by unfold arPi W256 W64; omega
  have ab := arAng_bd k0 k1
  have qb := arSq_bd k0 k1
  have sb := arSnH_bd k0 k1
  have cb := arCsH_bd k0 k1
  have pk : 0 ≤ arPi * k ∧ arPi * k < W256 := by unfold arPi W256 W64; omega
  have e1 : arPi * k % W256 = arPi * k := Int.emod_eq_of_lt pk.1 pk.2
  have e2 : arAng k * arAng k / W192 % W256 = arSq k := by
    have : arAng k * arAng k / W192 = arSq k := rfl
    rw [this]
    exact Int.emod_eq_of_lt qb.1 (by omega)
  have O0 := fun w => aover_any (arPi * k) 10800000 w pk.1 pk.2 (by omega) (by omega)
  have e3 : arPi * k / 10800000 = arAng k := rfl
  have T0 := fun w => atimes_any arPi k w p0.1 p0.2 (by unfold word; omega)
  have M0 := fun w => amul_any (arAng k) (arAng k) w ab.1 (by omega) ab.1 (by omega)
  have S0 := fun w => series_any (arAng k) (arSq k) 1 w ab.1 ab.2 qb.1 qb.2 (by omega) (by omega)
  have C0 := fun w => series_any W192 (arSq k) 0 w (by omega) (Int.le_refl _) qb.1 qb.2 (by omega) (by omega)
  have e4 : serS 200 (arSq k) (arAng k) (arAng k) 1 true = arSnH k := rfl
  have e5 : serS 200 (arSq k) W192 W192 0 true = arCsH k := rfl
  rw [e1] at T0
  rw [e3] at O0
  rw [e2] at M0
  rw [e4] at S0
  rw [e5] at C0
  clear e1 e2 e3 e4 e5
  obtain ⟨m0, m1, m2, m3, WM, -⟩ := wds_ex (arPi * k) pk.1 pk.2
  obtain ⟨t0, t1, t2, t3, WT, -⟩ := wds_ex (arAng k) ab.1 (by omega)
  obtain ⟨q0, q1, q2, q3, WQ, -⟩ := wds_ex (arSq k) qb.1 (by omega)
  obtain ⟨s0, s1, s2, s3, WS, -⟩ := wds_ex (arSnH k) sb.1 (by omega)
  obtain ⟨c0, c1, c2, c3, WC, -⟩ := wds_ex (arCsH k) cb.1 (by omega)
  have PI := fun w => api_is w
  rw [pi_num] at T0 PI
  rw [wds_out WM] at T0 O0
  rw [wds_out WT] at O0 M0 S0
  rw [wds_out WQ] at M0 S0 C0
  rw [one_num] at C0
  rw [wds_out WS] at S0
  rw [wds_out WC] at C0
  rw [wds_out WS, wds_out WC]
  exact circle_walk k _ _ _ _ m0 m1 m2 m3 t0 t1 t2 t3 q0 q1 q2 q3 s0 s1 s2 s3 c0 c1 c2 c3 w k0 k1 (hidden PI) (hidden T0) (hidden O0) (hidden M0) (hidden S0) (hidden C0)
theorem put4_cells {w : World} {B : Nat} (x0 x1 x2 x3 : Value) {y0 y1 y2 y3 : Value} (h0 : w.cell? ⟨B, 0, none⟩ = some y0) (h1 : w.cell? ⟨B, 1, none⟩ = some y1) (h2 : w.cell? ⟨B, 2, none⟩ = some y2) (h3 : w.cell? ⟨B, 3, none⟩ = some y3) :
    ((((w.setCell ⟨B, 0, none⟩ x0).setCell ⟨B, 1, none⟩ x1).setCell ⟨B, 2, none⟩ x2).setCell ⟨B, 3, none⟩ x3).cell? ⟨B, 0, none⟩ = some x0 ∧ ((((w.setCell ⟨B, 0, none⟩ x0).setCell ⟨B, 1, none⟩ x1).setCell ⟨B, 2, none⟩ x2).setCell ⟨B, 3, none⟩ x3).cell? ⟨B, 1, none⟩ = some x1 ∧ ((((w.setCell ⟨B, 0, none⟩ x0).setCell ⟨B, 1, none⟩ x1).setCell ⟨B, 2, none⟩ x2).setCell ⟨B, 3, none⟩ x3).cell? ⟨B, 2, none⟩ = some x2 ∧ ((((w.setCell ⟨B, 0, none⟩ x0).setCell ⟨B, 1, none⟩ x1).setCell ⟨B, 2, none⟩ x2).setCell ⟨B, 3, none⟩ x3).cell? ⟨B, 3, none⟩ = some x3 := by
  refine ⟨?_, ?_, ?_, ?_⟩ <;> simp [go_sem, *]
theorem put4_other {w : World} {B C : Nat} (n : B ≠ C) (o : Nat) (x0 x1 x2 x3 : Value) : ((((w.setCell ⟨B, 0, none⟩ x0).setCell ⟨B, 1, none⟩ x1).setCell ⟨B, 2, none⟩ x2).setCell ⟨B, 3, none⟩ x3).cell? ⟨C, o, none⟩ = w.cell? ⟨C, o, none⟩ := by
  have ne : ∀ p o, (⟨B, p, none⟩ : Addr) ≠ ⟨C, o, none⟩ := fun p o e => by injection e with e; exact n e
  rw [World.cell?_setCell_other _ _ _ _ (ne _ _), World.cell?_setCell_other _ _ _ _ (ne _ _), World.cell?_setCell_other _ _ _ _ (ne _ _), World.cell?_setCell_other _ _ _ _ (ne _ _)]
set_option maxRecDepth 100000 in
set_option maxHeartbeats 8000000 in
theorem circle_high (k s0 s1 s2 s3 c0 c1 c2 c3 : Int) (w : World) (k0 : 2700000 < k) (k1 : k ≤ 5400000)
    (L : Hid (∀ w, Calls Tryz.prog 268 #[.int .i64 (5400000 - k)] w fun e w' => e = .returned (.tuple #[.agg #[.int .u64 s0, .int .u64 s1, .int .u64 s2, .int .u64 s3], .agg #[.int .u64 c0, .int .u64 c1, .int .u64 c2, .int .u64 c3]]) ∧ Below w.heap.size w w')) :
    Calls Tryz.prog 268 #[.int .i64 k] w fun e w' => e = .returned (.tuple #[.agg #[.int .u64 c0, .int .u64 c1, .int .u64 c2, .int .u64 c3], .agg #[.int .u64 s0, .int .u64 s1, .int .u64 s2, .int .u64 s3]]) ∧ Below w.heap.size w w' := by
  go_enter Tryz.func268, Tryz.ntmps268
  go_upto_region 3 with (go_at_call 268; ((with_reducible refine (L.out _).mono ?_); rintro e w' ⟨rfl, hb⟩); (try replace hb := below_undrew hb); (try replace hb := below_undrewN hb); obtain ⟨hcell, hfroz⟩ := bcell hb; have hz := hb.size; (try simp at hz); (try (have z6 := Nat.lt_of_lt_of_le z7 hz)); (try (have z7 := Nat.lt_of_lt_of_le z8 hz)); (try (have z8 := Nat.lt_of_lt_of_le z9 hz)); (try (have z9 := Nat.lt_of_lt_of_le (Nat.lt_succ_self _) hz)); (try have z0 : w.heap.size < w'.heap.size := by omega); (try have z1 : w.heap.size + 1 < w'.heap.size := by omega); (try have z2 : w.heap.size + 1 + 1 < w'.heap.size := by omega); (try have z3 : w.heap.size + 1 + 1 + 1 < w'.heap.size := by omega); obtain ⟨w1, rfl⟩ : ∃ v, v = w' := ⟨_, rfl⟩)
  have e0 : w1.cell? ⟨w.heap.size + 1, 0, none⟩ = some (.int .u64 0) := by simp [go_sem, *]
  have f0 : w1.cell? ⟨w.heap.size, 0, none⟩ = some (.int .u64 0) := by simp [go_sem, *]
  have e1 : w1.cell? ⟨w.heap.size + 1, 1, none⟩ = some (.int .u64 0) := by simp [go_sem, *]
  have f1 : w1.cell? ⟨w.heap.size, 1, none⟩ = some (.int .u64 0) := by simp [go_sem, *]
  have e2 : w1.cell? ⟨w.heap.size + 1, 2, none⟩ = some (.int .u64 0) := by simp [go_sem, *]
  have f2 : w1.cell? ⟨w.heap.size, 2, none⟩ = some (.int .u64 0) := by simp [go_sem, *]
  have e3 : w1.cell? ⟨w.heap.size + 1, 3, none⟩ = some (.int .u64 0) := by simp [go_sem, *]
  have f3 : w1.cell? ⟨w.heap.size, 3, none⟩ = some (.int .u64 0) := by simp [go_sem, *]
  have ne : w.heap.size ≠ w.heap.size + 1 := by omega
  have ne' : w.heap.size + 1 ≠ w.heap.size := by omega
  have A := put4_cells (.int .u64 s0) (.int .u64 s1) (.int .u64 s2) (.int .u64 s3) e0 e1 e2 e3
  have B := fun o => put4_other (w := w1) ne' o (.int .u64 s0) (.int .u64 s1) (.int .u64 s2) (.int .u64 s3)
  have D := put4_cells (.int .u64 c0) (.int .u64 c1) (.int .u64 c2) (.int .u64 c3) ((B 0).trans f0) ((B 1).trans f1) ((B 2).trans f2) ((B 3).trans f3)
  have E := fun o => put4_other (w := ((((w1.setCell ⟨w.heap.size + 1, 0, none⟩ (.int .u64 s0)).setCell ⟨w.heap.size + 1, 1, none⟩ (.int .u64 s1)).setCell ⟨w.heap.size + 1, 2, none⟩ (.int .u64 s2)).setCell ⟨w.heap.size + 1, 3, none⟩ (.int .u64 s3))) ne o (.int .u64 c0) (.int .u64 c1) (.int .u64 c2) (.int .u64 c3)
  have ef : ∀ o, w1.frozen? ⟨w.heap.size + 1, o, none⟩ = false := by intro o; simp [go_sem, *]
  have ff : ∀ o, w1.frozen? ⟨w.heap.size, o, none⟩ = false := by intro o; simp [go_sem, *]
  refine name_code ?_
  intro w' hb
  have u0 := cell_later hb ((E 0).trans A.1)
  have u1 := cell_later hb ((E 1).trans A.2.1)
  have u2 := cell_later hb ((E 2).trans A.2.2.1)
  have u3 := cell_later hb ((E 3).trans A.2.2.2)
  have r0 := cell_later hb D.1
  have r1 := cell_later hb D.2.1
  have r2 := cell_later hb D.2.2.1
  have r3 := cell_later hb D.2.2.2
  clear A B D E e0 e1 e2 e3 f0 f1 f2 f3
  obtain ⟨hcell, hfroz⟩ := bcell hb; have hz := hb.size; (try simp at hz); (try have z0 : w.heap.size < w'.heap.size := by omega); (try have z1 : w.heap.size + 1 < w'.heap.size := by omega); (try have z2 : w.heap.size + 1 + 1 < w'.heap.size := by omega); (try have y1 : w1.heap.size < w'.heap.size := by omega)
  have uf : ∀ o, w'.frozen? ⟨w.heap.size + 1, o, none⟩ = false := by intro o; simp [go_sem, *]
  have rf : ∀ o, w'.frozen? ⟨w.heap.size, o, none⟩ = false := by intro o; simp [go_sem, *]
  have hw0 : Below w.heap.size w w' := by (repeat (first | (with_reducible exact Below.refl _ _) | (with_reducible refine Below.setCell ?_ (by (first | (simp; done) | (simp; omega) | omega)) _) | (with_reducible refine bl_alloc ?_ _) | (with_reducible refine bl_drewN ?_) | (with_reducible refine bl_drew ?_) | (with_reducible refine bl_step (by assumption) ?_)))
  clear hcell hfroz hz hb ef ff
  obtain ⟨V0, rfl⟩ : ∃ v, v = w' := ⟨_, rfl⟩
  have g1 : w.heap.size + 1 < V0.heap.size := World.block_lt_of_cell? _ _ u0
  have g0 : w.heap.size < V0.heap.size := by omega
  have dr0 : V0.drew.setCell ⟨w.heap.size, 0, none⟩ (.int .u64 c0) = V0.drew := setCell_self (by simp [go_sem, *])
  have dr1 : V0.drew.setCell ⟨w.heap.size, 1, none⟩ (.int .u64 c1) = V0.drew := setCell_self (by simp [go_sem, *])
  have dr2 : V0.drew.setCell ⟨w.heap.size, 2, none⟩ (.int .u64 c2) = V0.drew := setCell_self (by simp [go_sem, *])
  have dr3 : V0.drew.setCell ⟨w.heap.size, 3, none⟩ (.int .u64 c3) = V0.drew := setCell_self (by simp [go_sem, *])
  have du0 : V0.drew.setCell ⟨w.heap.size + 1, 0, none⟩ (.int .u64 s0) = V0.drew := setCell_self (by simp [go_sem, *])
  have du1 : V0.drew.setCell ⟨w.heap.size + 1, 1, none⟩ (.int .u64 s1) = V0.drew := setCell_self (by simp [go_sem, *])
  have du2 : V0.drew.setCell ⟨w.heap.size + 1, 2, none⟩ (.int .u64 s2) = V0.drew := setCell_self (by simp [go_sem, *])
  have du3 : V0.drew.setCell ⟨w.heap.size + 1, 3, none⟩ (.int .u64 s3) = V0.drew := setCell_self (by simp [go_sem, *])
  go_region
  go_wp2
  exact bodyPost_ret (v := .tuple #[.agg #[.int .u64 c0, .int .u64 c1, .int .u64 c2, .int .u64 c3], .agg #[.int .u64 s0, .int .u64 s1, .int .u64 s2, .int .u64 s3]]) (by first | (simp only [results, Tryz.results268]; go_simp; done) | simp [results, Tryz.results268, go_sem, *]) rfl ⟨rfl, by (repeat (first | (with_reducible exact Below.refl _ _) | (with_reducible refine Below.setCell ?_ (by (first | (simp; done) | (simp; omega) | omega)) _) | (with_reducible refine bl_alloc ?_ _) | (with_reducible refine bl_drewN ?_) | (with_reducible refine bl_drew ?_) | (with_reducible refine bl_step (by assumption) ?_)))⟩
theorem circle_any (k : Int) (w : World) (k0 : 0 ≤ k) (k1 : k ≤ 5400000) :
    Calls Tryz.prog 268 #[.int .i64 k] w fun e w' => e = .returned (.tuple #[NUM (arSin k), NUM (arCos k)]) ∧ Below w.heap.size w w' := by
  have hW := w192_lt
  unfold arSin arCos
  by_cases h : 2700000 < k
  · rw [if_pos h, if_pos h]
    have sb := arSnH_bd (k := 5400000 - k) (by omega) (by omega)
    have cb := arCsH_bd (k := 5400000 - k) (by omega) (by omega)
    obtain ⟨s0, s1, s2, s3, WS, -⟩ := wds_ex (arSnH (5400000 - k)) sb.1 (by omega)
    obtain ⟨c0, c1, c2, c3, WC, -⟩ := wds_ex (arCsH (5400000 - k)) cb.1 (by omega)
    have L := fun w => circle_low (5400000 - k) w (by omega) (by omega)
    rw [wds_out WS, wds_out WC] at L
    rw [wds_out WS, wds_out WC]
    exact circle_high k s0 s1 s2 s3 c0 c1 c2 c3 w h k1 (hidden L)
  · rw [if_neg h, if_neg h]
    exact circle_low k w k0 (by omega)
set_option maxRecDepth 100000 in
set_option maxHeartbeats 8000000 in
theorem reaches_walk (x y k s0 s1 s2 s3 c0 c1 c2 c3 m0 m1 m2 m3 n0 n1 n2 n3 : Int) (v : Bool) (w : World) (x0 : 0 ≤ x) (x1 : x ≤ 2147483648) (y0 : 0 ≤ y) (y1 : y ≤ 2147483648) (hk0 : (k == 0) = false) (hk1 : (k == 2700000) = false)
    (K : Hid (∀ w, Calls Tryz.prog 268 #[.int .i64 k] w fun e w' => e = .returned (.tuple #[.agg #[.int .u64 s0, .int .u64 s1, .int .u64 s2, .int .u64 s3], .agg #[.int .u64 c0, .int .u64 c1, .int .u64 c2, .int .u64 c3]]) ∧ Below w.heap.size w w'))
    (T : Hid (∀ w, Calls Tryz.prog 269 #[.agg #[.int .u64 c0, .int .u64 c1, .int .u64 c2, .int .u64 c3], .int .u64 y] w fun e w' => e = .returned (.agg #[.int .u64 m0, .int .u64 m1, .int .u64 m2, .int .u64 m3]) ∧ Below w.heap.size w w'))
    (U : Hid (∀ w, Calls Tryz.prog 269 #[.agg #[.int .u64 s0, .int .u64 s1, .int .u64 s2, .int .u64 s3], .int .u64 x] w fun e w' => e = .returned (.agg #[.int .u64 n0, .int .u64 n1, .int .u64 n2, .int .u64 n3]) ∧ Below w.heap.size w w'))
    (LS : Hid (∀ w, Calls Tryz.prog 270 #[.agg #[.int .u64 m0, .int .u64 m1, .int .u64 m2, .int .u64 m3], .agg #[.int .u64 n0, .int .u64 n1, .int .u64 n2, .int .u64 n3]] w fun e w' => e = .returned (.bool v) ∧ Below w.heap.size w w')) :
    Calls Tryz.prog 220 #[.agg #[.int .i64 x, .int .i64 y], .int .i64 k] w fun e w' => e = .returned (.bool (!v)) ∧ Below w.heap.size w w' := by
  go_enter Tryz.func220, Tryz.ntmps220
  go_upto_region 7 with (go_at_call 268; ((with_reducible refine (K.out _).mono ?_); rintro e w' ⟨rfl, hb⟩); (try replace hb := below_undrew hb); (try replace hb := below_undrewN hb); obtain ⟨hcell, hfroz⟩ := bcell hb; have hz := hb.size; (try simp at hz); (try (have z6 := Nat.lt_of_lt_of_le z7 hz)); (try (have z7 := Nat.lt_of_lt_of_le z8 hz)); (try (have z8 := Nat.lt_of_lt_of_le z9 hz)); (try (have z9 := Nat.lt_of_lt_of_le (Nat.lt_succ_self _) hz)); (try have z0 : w.heap.size < w'.heap.size := by omega); (try have z1 : w.heap.size + 1 < w'.heap.size := by omega); (try have z2 : w.heap.size + 1 + 1 < w'.heap.size := by omega); (try have z3 : w.heap.size + 1 + 1 + 1 < w'.heap.size := by omega); obtain ⟨w1, rfl⟩ : ∃ v, v = w' := ⟨_, rfl⟩)
  have q1 : w.heap.size < w1.heap.size + 1 + 1 := by omega
  have q2 : w.heap.size < w1.heap.size + 1 := by omega
  refine name_code ?_
  intro w' hb
  (try replace hb := below_undrew hb); (try replace hb := below_undrewN hb); obtain ⟨hcell, hfroz⟩ := bcell hb; have hz := hb.size; (try simp at hz); (try (have z6 := Nat.lt_of_lt_of_le z7 hz)); (try (have z7 := Nat.lt_of_lt_of_le z8 hz)); (try (have z8 := Nat.lt_of_lt_of_le z9 hz)); (try (have z9 := Nat.lt_of_lt_of_le (Nat.lt_succ_self _) hz)); (try have z0 : w.heap.size < w'.heap.size := by omega); (try have z1 : w.heap.size + 1 < w'.heap.size := by omega); (try have z2 : w.heap.size + 1 + 1 < w'.heap.size := by omega); (try have z3 : w.heap.size + 1 + 1 + 1 < w'.heap.size := by omega); (try have y1 : w1.heap.size < w'.heap.size := by omega); (try have x1 : w1.heap.size + 1 < w'.heap.size := by omega); (try have z10 : w1.heap.size < w'.heap.size + 1 := by omega)
  have f0 : w'.cell? ⟨w1.heap.size, 0, none⟩ = some (.int .u64 s0) := by simp [go_sem, *]
  have f1 : w'.cell? ⟨w1.heap.size, 1, none⟩ = some (.int .u64 s1) := by simp [go_sem, *]
  have f2 : w'.cell? ⟨w1.heap.size, 2, none⟩ = some (.int .u64 s2) := by simp [go_sem, *]
  have f3 : w'.cell? ⟨w1.heap.size, 3, none⟩ = some (.int .u64 s3) := by simp [go_sem, *]
  have g0 : w'.cell? ⟨w1.heap.size + 1, 0, none⟩ = some (.int .u64 c0) := by simp [go_sem, *]
  have g1 : w'.cell? ⟨w1.heap.size + 1, 1, none⟩ = some (.int .u64 c1) := by simp [go_sem, *]
  have g2 : w'.cell? ⟨w1.heap.size + 1, 2, none⟩ = some (.int .u64 c2) := by simp [go_sem, *]
  have g3 : w'.cell? ⟨w1.heap.size + 1, 3, none⟩ = some (.int .u64 c3) := by simp [go_sem, *]
  have p0 : w'.cell? ⟨w.heap.size, 0, none⟩ = some (.int .i64 x) := by simp [go_sem, *]
  have p1 : w'.cell? ⟨w.heap.size, 1, none⟩ = some (.int .i64 y) := by simp [go_sem, *]
  have hw0 : Below w.heap.size w w' := by (repeat (first | (with_reducible exact Below.refl _ _) | (with_reducible refine Below.setCell ?_ (by (first | (simp; done) | (simp; omega) | omega)) _) | (with_reducible refine bl_alloc ?_ _) | (with_reducible refine bl_drewN ?_) | (with_reducible refine bl_drew ?_) | (with_reducible refine bl_step (by assumption) ?_)))
  clear hcell hfroz hz hb
  obtain ⟨V0, rfl⟩ : ∃ v, v = w' := ⟨_, rfl⟩
  have gs : w1.heap.size < V0.heap.size := World.block_lt_of_cell? _ _ f0
  have gc : w1.heap.size + 1 < V0.heap.size := World.block_lt_of_cell? _ _ g0
  have g0' : w.heap.size < V0.heap.size := World.block_lt_of_cell? _ _ p0
  refine wp_region_quiet_below (by kernel_rfl) (by kernel_rfl) ?_
  repeat (first | go_big_quiet_step ((first | (go_at_call 269; (with_reducible exact Calls.regrown_of (T.out _))) | (go_at_call 269; (with_reducible exact Calls.regrown_of (U.out _))) | (go_at_call 270; (with_reducible exact Calls.regrown_of (LS.out _))))) | quiet_step ((first | (go_at_call 269; (with_reducible exact Calls.regrown_of (T.out _))) | (go_at_call 269; (with_reducible exact Calls.regrown_of (U.out _))) | (go_at_call 270; (with_reducible exact Calls.regrown_of (LS.out _))))))
  refine wpQuiet_nil ?_; intro w' hw'; have hb := below_of_regrown hw'; clear hw'; (try replace hb := below_undrew hb); (try replace hb := below_undrewN hb); obtain ⟨hcell, hfroz⟩ := bcell hb; have hz := hb.size; (try simp at hz); (try (have z6 := Nat.lt_of_lt_of_le z7 hz)); (try (have z7 := Nat.lt_of_lt_of_le z8 hz)); (try (have z8 := Nat.lt_of_lt_of_le z9 hz)); (try (have z9 := Nat.lt_of_lt_of_le (Nat.lt_succ_self _) hz)); (try have z0 : w.heap.size < w'.heap.size := by omega); (try have z1 : w.heap.size + 1 < w'.heap.size := by omega); (try have z2 : w.heap.size + 1 + 1 < w'.heap.size := by omega); (try have z3 : w.heap.size + 1 + 1 + 1 < w'.heap.size := by omega); (try have y1 : w1.heap.size < w'.heap.size := by omega); (try have x1 : w1.heap.size + 1 < w'.heap.size := by omega); (try have z10 : w1.heap.size < w'.heap.size + 1 := by omega)
  go_wp2
  exact bodyPost_ret (v := .bool (!v)) (by first | (simp only [results, Tryz.results220]; go_simp; done) | simp [results, Tryz.results220, go_sem, *]) rfl ⟨rfl, by (repeat (first | (with_reducible exact Below.refl _ _) | (with_reducible refine Below.setCell ?_ (by (first | (simp; done) | (simp; omega) | omega)) _) | (with_reducible refine bl_alloc ?_ _) | (with_reducible refine bl_drewN ?_) | (with_reducible refine bl_drew ?_) | (with_reducible refine bl_step (by assumption) ?_)))⟩
theorem areach_any (x y : Int) (k : Nat) (w : World) (x0 : 0 < x) (x1 : x ≤ 2147483648) (y0 : 0 ≤ y) (y1 : y ≤ 2147483648) (k0 : 0 < k) (k1 : k < 5400000) :
    Calls Tryz.prog 220 #[.agg #[.int .i64 x, .int .i64 y], .int .i64 k] w fun e w' => e = .returned (.bool (reach cK sK x y k)) ∧ Below w.heap.size w w' := by
  by_cases hk : k = 2700000
  · subst hk
    have e : reach cK sK x y 2700000 = decide (x ≤ y) := by
      have h1 : (cK 2700000 : Int) = 1 := rfl
      have h2 : (sK 2700000 : Int) = 1 := rfl
      unfold reach
      rw [h1, h2, decide_eq_decide]
      omega
    rw [e]
    by_cases hxy : x ≤ y
    · have H := hidden hxy
      go_enter Tryz.func220, Tryz.ntmps220
      go_wp2
      exact bodyPost_ret (v := .bool (decide (x ≤ y))) (by first | (simp only [results, Tryz.results220]; go_simp; done) | simp [results, Tryz.results220, go_sem, *]) rfl ⟨rfl, by (repeat (first | (with_reducible exact Below.refl _ _) | (with_reducible refine Below.setCell ?_ (by (first | (simp; done) | (simp; omega) | omega)) _) | (with_reducible refine bl_alloc ?_ _) | (with_reducible refine bl_drewN ?_) | (with_reducible refine bl_drew ?_) | (with_reducible refine bl_step (by assumption) ?_)))⟩
    · go_enter Tryz.func220, Tryz.ntmps220
      go_wp2
      exact bodyPost_ret (v := .bool (decide (x ≤ y))) (by first | (simp only [results, Tryz.results220]; go_simp; done) | simp [results, Tryz.results220, go_sem, *]) rfl ⟨rfl, by (repeat (first | (with_reducible exact Below.refl _ _) | (with_reducible refine Below.setCell ?_ (by (first | (simp; done) | (simp; omega) | omega)) _) | (with_reducible refine bl_alloc ?_ _) | (with_reducible refine bl_drewN ?_) | (with_reducible refine bl_drew ?_) | (with_reducible refine bl_step (by assumption) ?_)))⟩
  · have hW := w192_lt
    have sb := arSin_bd (k := k) (by omega) (by omega)
    have cb := arCos_bd (k := k) (by omega) (by omega)
    have e1 : (sK k : Int) = arSin k := by unfold sK; rw [if_neg (by omega), if_neg hk]; omega
    have e2 : (cK k : Int) = arCos k := by unfold cK; rw [if_neg (by omega), if_neg hk]; omega
    have e : reach cK sK x y k = !(decide (arCos k * y < arSin k * x)) := by
      unfold reach
      rw [e1, e2, ← decide_not, decide_eq_decide]
      omega
    rw [e]
    have my : 0 ≤ arCos k * y ∧ arCos k * y < W256 := by
      have a := Int.mul_le_mul cb.2 y1 y0 (by have := w192_pos; omega)
      refine ⟨Int.mul_nonneg cb.1 y0, ?_⟩
      unfold W256 W192 W64 at *
      omega
    have mx : 0 ≤ arSin k * x ∧ arSin k * x < W256 := by
      have a := Int.mul_le_mul sb.2 x1 (by omega) (by have := w192_pos; omega)
      refine ⟨Int.mul_nonneg sb.1 (by omega), ?_⟩
      unfold W256 W192 W64 at *
      omega
    have K0 := fun w => circle_any k w (by omega) (by omega)
    have T0 := fun w => atimes_any (arCos k) y w cb.1 (by omega) (by unfold word; omega)
    have U0 := fun w => atimes_any (arSin k) x w sb.1 (by omega) (by unfold word; omega)
    rw [Int.emod_eq_of_lt my.1 my.2] at T0
    rw [Int.emod_eq_of_lt mx.1 mx.2] at U0
    have L0 := fun w => aless_any (arCos k * y) (arSin k * x) w my.1 my.2 mx.1 mx.2
    obtain ⟨s0, s1, s2, s3, WS, -⟩ := wds_ex (arSin k) sb.1 (by omega)
    obtain ⟨c0, c1, c2, c3, WC, -⟩ := wds_ex (arCos k) cb.1 (by omega)
    obtain ⟨m0, m1, m2, m3, WM, -⟩ := wds_ex (arCos k * y) my.1 my.2
    obtain ⟨n0, n1, n2, n3, WN, -⟩ := wds_ex (arSin k * x) mx.1 mx.2
    rw [wds_out WS, wds_out WC] at K0
    rw [wds_out WC, wds_out WM] at T0
    rw [wds_out WS, wds_out WN] at U0
    rw [wds_out WM, wds_out WN] at L0
    have hk0 : ((k : Int) == 0) = false := beq_false_of_ne (by omega)
    have hk1 : ((k : Int) == 2700000) = false := beq_false_of_ne (by omega)
    exact reaches_walk x y k s0 s1 s2 s3 c0 c1 c2 c3 m0 m1 m2 m3 n0 n1 n2 n3 _ w (by omega) x1 y0 y1 hk0 hk1 (hidden K0) (hidden T0) (hidden U0) (hidden L0)
end Go.Proofs.YtdhbeoahpfimbaaGreat
