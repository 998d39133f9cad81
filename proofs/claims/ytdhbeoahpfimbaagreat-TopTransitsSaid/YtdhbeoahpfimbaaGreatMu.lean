/- Several small texts in one: XMul, XMulW. -/
import Derived.Test.YtdhbeoahpfimbaaGreatNu
import Derived.Deep.Cut
import Derived.Deep.DeepCutAuto
import Derived.Deep.CutRange
import Derived.Deep.CutBlock
namespace Go.Proofs.YtdhbeoahpfimbaaGreat
open Go.RowKit
/-- one step of a row: a place o of the sum, a product x y and what is carried, k, make the place s and what is carried further, k2 -/
structure MStep (x y o k s k2 hi lo s1 c1 h1 c2 : Int) : Prop where
  m : ∀ w, Calls Tryz.prog 109 #[.int .u64 x, .int .u64 y] w fun e w' => e = .returned (.tuple #[.int .u64 hi, .int .u64 lo]) ∧ w = w'
  a1 : ∀ w, (callFunc 309 #[.int .u64 o, .int .u64 lo, .int .u64 0]).run Tryz.prog w = .ok (.value (.tuple #[.int .u64 s1, .int .u64 c1])) w
  w1 : IntKind.u64.wrap (hi + c1) = h1
  a2 : ∀ w, (callFunc 309 #[.int .u64 s1, .int .u64 k, .int .u64 0]).run Tryz.prog w = .ok (.value (.tuple #[.int .u64 s, .int .u64 c2])) w
  w2 : IntKind.u64.wrap (h1 + c2) = k2
theorem array_run (A : Addr) (w : World) : (Instr.arrayAt 324 (.slice (some A) 4 6)).run Tryz.prog w = .ok (.pointer (some A)) w := by kernel_rfl
theorem name_rel {F : World → Prop} {W : World} (R : World → Prop) (hR : R W) (h : ∀ w', R w' → F w') : F W := h W hR
theorem add64_zero (k : Int) (h : 0 ≤ k ∧ k ≤ 18446744073709551615) (w : World) : (callFunc 309 #[.int .u64 0, .int .u64 k, .int .u64 0]).run Tryz.prog w = .ok (.value (.tuple #[.int .u64 k, .int .u64 0])) w := by
  have := add64_run 0 k 0 (by omega) h.1 (by omega) (by omega) w
  rw [show (0 + k + 0) % 18446744073709551616 = k by omega, show (0 + k + 0) / 18446744073709551616 = 0 by omega] at this
  exact this
set_option maxRecDepth 100000 in
set_option maxHeartbeats 8000000 in
theorem nmul_walk (a0 a1 a2 a3 b0 b1 b2 b3 s1 k1 hi1 lo1 p1 c1 h1 e1 s2 k2 hi2 lo2 p2 c2 h2 e2 s3 k3 hi3 lo3 p3 c3 h3 e3 s4 k4 hi4 lo4 p4 c4 h4 e4 s5 k5 hi5 lo5 p5 c5 h5 e5 s6 k6 hi6 lo6 p6 c6 h6 e6 s7 k7 hi7 lo7 p7 c7 h7 e7 s8 k8 hi8 lo8 p8 c8 h8 e8 s9 k9 hi9 lo9 p9 c9 h9 e9 s10 k10 hi10 lo10 p10 c10 h10 e10 s11 k11 hi11 lo11 p11 c11 h11 e11 s12 k12 hi12 lo12 p12 c12 h12 e12 s13 k13 hi13 lo13 p13 c13 h13 e13 : Int) (w : World)
    (S1 : MStep a3 b1 0 0 s1 k1 hi1 lo1 p1 c1 h1 e1)
    (S2 : MStep a3 b0 0 k1 s2 k2 hi2 lo2 p2 c2 h2 e2)
    (S3 : MStep a2 b2 s1 0 s3 k3 hi3 lo3 p3 c3 h3 e3)
    (S4 : MStep a2 b1 s2 k3 s4 k4 hi4 lo4 p4 c4 h4 e4)
    (S5 : MStep a2 b0 k2 k4 s5 k5 hi5 lo5 p5 c5 h5 e5)
    (S6 : MStep a1 b3 s3 0 s6 k6 hi6 lo6 p6 c6 h6 e6)
    (S7 : MStep a1 b2 s4 k6 s7 k7 hi7 lo7 p7 c7 h7 e7)
    (S8 : MStep a1 b1 s5 k7 s8 k8 hi8 lo8 p8 c8 h8 e8)
    (S9 : MStep a1 b0 k5 k8 s9 k9 hi9 lo9 p9 c9 h9 e9)
    (S10 : MStep a0 b3 s7 0 s10 k10 hi10 lo10 p10 c10 h10 e10)
    (S11 : MStep a0 b2 s8 k10 s11 k11 hi11 lo11 p11 c11 h11 e11)
    (S12 : MStep a0 b1 s9 k11 s12 k12 hi12 lo12 p12 c12 h12 e12)
    (S13 : MStep a0 b0 k9 k12 s13 k13 hi13 lo13 p13 c13 h13 e13)
    (KU : Hid ((0 ≤ k2 ∧ k2 ≤ 18446744073709551615) ∧ (0 ≤ k5 ∧ k5 ≤ 18446744073709551615) ∧ (0 ≤ k9 ∧ k9 ≤ 18446744073709551615) ∧ (0 ≤ k13 ∧ k13 ≤ 18446744073709551615)))
    (_KB : Hid (0 ≤ k2 ∧ 0 ≤ k5 ∧ 0 ≤ k9 ∧ 0 ≤ k13)) :
    Calls Tryz.prog 339 #[.agg #[.int .u64 a0, .int .u64 a1, .int .u64 a2, .int .u64 a3], .agg #[.int .u64 b0, .int .u64 b1, .int .u64 b2, .int .u64 b3]] w fun e w' => e = .returned (.agg #[.int .u64 k13, .int .u64 s13, .int .u64 s12, .int .u64 s11]) ∧ Below w.heap.size w w' := by
  go_enter Tryz.func339, Tryz.ntmps339
  go_upto_region 1 with fail
  (refine name_code ?_; intro w' hb; (try replace hb := below_undrew hb); (try replace hb := below_undrewN hb); obtain ⟨hcell, hfroz⟩ := bcell hb; have hz := hb.size; (try simp at hz); (try (have z6 := Nat.lt_of_lt_of_le z7 hz)); (try (have z7 := Nat.lt_of_lt_of_le z8 hz)); (try (have z8 := Nat.lt_of_lt_of_le z9 hz)); (try (have z9 := Nat.lt_of_lt_of_le (Nat.lt_succ_self _) hz)); (try have z0 : w.heap.size < w'.heap.size := by omega); (try have z1 : w.heap.size + 1 < w'.heap.size := by omega); (try have z2 : w.heap.size + 1 + 1 < w'.heap.size := by omega); (try have z3 : w.heap.size + 1 + 1 + 1 < w'.heap.size := by omega); (try have y1 : w1.heap.size < w'.heap.size := by omega); (try have y4 : w4.heap.size < w'.heap.size := by omega))
  obtain ⟨w4, rfl⟩ : ∃ v, v = w' := ⟨_, rfl⟩
  go_wp2
  (refine name_code ?_; intro w' hb; (try replace hb := below_undrew hb); (try replace hb := below_undrewN hb); obtain ⟨hcell, hfroz⟩ := bcell hb; have hz := hb.size; (try simp at hz); (try (have z6 := Nat.lt_of_lt_of_le z7 hz)); (try (have z7 := Nat.lt_of_lt_of_le z8 hz)); (try (have z8 := Nat.lt_of_lt_of_le z9 hz)); (try (have z9 := Nat.lt_of_lt_of_le (Nat.lt_succ_self _) hz)); (try have z0 : w.heap.size < w'.heap.size := by omega); (try have z1 : w.heap.size + 1 < w'.heap.size := by omega); (try have z2 : w.heap.size + 1 + 1 < w'.heap.size := by omega); (try have z3 : w.heap.size + 1 + 1 + 1 < w'.heap.size := by omega); (try have y1 : w1.heap.size < w'.heap.size := by omega); (try have y4 : w4.heap.size < w'.heap.size := by omega))
  (try have y4 : w4.heap.size < w'.heap.size := by omega)
  refine wp_loop_rounds 5 ?_
  rw [rounds_succ]
  go_wp2
  refine wp_loop_rounds 5 ?_
  rw [rounds_succ]
  go_wp2
  rw [rounds_succ]
  go_wp2
  rw [rounds_succ]
  go_wp2
  go_quiet ((go_at_call 109; (with_reducible exact quiet_same (S1.m _))))
  obtain ⟨w1, rfl⟩ : ∃ v, v = w' := ⟨_, rfl⟩
  (refine name_world (F := Exit.then _ _ _ _) ?_; intro w' hb; (try replace hb := below_undrew hb); (try replace hb := below_undrewN hb); obtain ⟨hcell, hfroz⟩ := bcell hb; have hz := hb.size; (try simp at hz); (try (have z6 := Nat.lt_of_lt_of_le z7 hz)); (try (have z7 := Nat.lt_of_lt_of_le z8 hz)); (try (have z8 := Nat.lt_of_lt_of_le z9 hz)); (try (have z9 := Nat.lt_of_lt_of_le (Nat.lt_succ_self _) hz)); (try have z0 : w.heap.size < w'.heap.size := by omega); (try have z1 : w.heap.size + 1 < w'.heap.size := by omega); (try have z2 : w.heap.size + 1 + 1 < w'.heap.size := by omega); (try have z3 : w.heap.size + 1 + 1 + 1 < w'.heap.size := by omega); (try have y1 : w1.heap.size < w'.heap.size := by omega); (try have y4 : w4.heap.size < w'.heap.size := by omega))
  have f1 := S1.a1
  have f2 := S1.w1
  have f3 := S1.a2
  have f4 := S1.w2
  go_wp2
  clear f1 f2 f3 f4
  rw [rounds_succ]
  go_wp2
  go_quiet ((go_at_call 109; (with_reducible exact quiet_same (S2.m _))))
  obtain ⟨w1, rfl⟩ : ∃ v, v = w' := ⟨_, rfl⟩
  (refine name_world (F := Exit.then _ _ _ _) ?_; intro w' hb; (try replace hb := below_undrew hb); (try replace hb := below_undrewN hb); obtain ⟨hcell, hfroz⟩ := bcell hb; have hz := hb.size; (try simp at hz); (try (have z6 := Nat.lt_of_lt_of_le z7 hz)); (try (have z7 := Nat.lt_of_lt_of_le z8 hz)); (try (have z8 := Nat.lt_of_lt_of_le z9 hz)); (try (have z9 := Nat.lt_of_lt_of_le (Nat.lt_succ_self _) hz)); (try have z0 : w.heap.size < w'.heap.size := by omega); (try have z1 : w.heap.size + 1 < w'.heap.size := by omega); (try have z2 : w.heap.size + 1 + 1 < w'.heap.size := by omega); (try have z3 : w.heap.size + 1 + 1 + 1 < w'.heap.size := by omega); (try have y1 : w1.heap.size < w'.heap.size := by omega); (try have y4 : w4.heap.size < w'.heap.size := by omega))
  have f1 := S2.a1
  have f2 := S2.w1
  have f3 := S2.a2
  have f4 := S2.w2
  go_wp2
  clear f1 f2 f3 f4
  rw [rounds_succ]
  by_cases hk : 0 < k2
  focus
    have fa : ∀ w, (callFunc 309 #[.int .u64 0, .int .u64 k2, .int .u64 0]).run Tryz.prog w = .ok (.value (.tuple #[.int .u64 k2, .int .u64 0])) w := add64_zero _ (KU.out.1)
    go_wp2
    refine wp_loop_rounds 2 ?_
    rw [rounds_succ]
    go_wp2
    rw [rounds_succ]
    go_wp2
    clear fa
    refine name_rel (F := Code.rounds _ _ _ _ _) (fun wx => Below w4.heap.size w4 wx ∧ w4.heap.size < wx.heap.size ∧ (∀ o, wx.frozen? ⟨w4.heap.size, o, none⟩ = false) ∧ wx.cell? ⟨w4.heap.size, 0, none⟩ = some (.int .u64 0) ∧ wx.cell? ⟨w4.heap.size, 1, none⟩ = some (.int .u64 0) ∧ wx.cell? ⟨w4.heap.size, 2, none⟩ = some (.int .u64 0) ∧ wx.cell? ⟨w4.heap.size, 3, none⟩ = some (.int .u64 k2) ∧ wx.cell? ⟨w4.heap.size, 4, none⟩ = some (.int .u64 s2) ∧ wx.cell? ⟨w4.heap.size, 5, none⟩ = some (.int .u64 s1)) ?_ ?_
    · refine ⟨by (repeat (first | exact Below.refl _ _ | refine bl_drewN ?_ | refine bl_drew ?_ | refine bl_alloc ?_ _ | refine Below.setCell ?_ (by (first | (simp; done) | (simp; omega) | omega)) _ | refine bl_step (by assumption) ?_)), ?_, ?_, ?_, ?_, ?_, ?_, ?_, ?_⟩
      all_goals first | (simp [go_sem, *]; done)
  rotate_left
  focus
    have h0 := hidden (show k2 = 0 by have := KU.out.1; omega)
    have hd : decide (0 < k2) = false := by simpa using hk
    go_wp2
    refine wp_loop_rounds 2 ?_
    rw [rounds_succ]
    go_wp2
    refine name_rel (F := Code.rounds _ _ _ _ _) (fun wx => Below w4.heap.size w4 wx ∧ w4.heap.size < wx.heap.size ∧ (∀ o, wx.frozen? ⟨w4.heap.size, o, none⟩ = false) ∧ wx.cell? ⟨w4.heap.size, 0, none⟩ = some (.int .u64 0) ∧ wx.cell? ⟨w4.heap.size, 1, none⟩ = some (.int .u64 0) ∧ wx.cell? ⟨w4.heap.size, 2, none⟩ = some (.int .u64 0) ∧ wx.cell? ⟨w4.heap.size, 3, none⟩ = some (.int .u64 k2) ∧ wx.cell? ⟨w4.heap.size, 4, none⟩ = some (.int .u64 s2) ∧ wx.cell? ⟨w4.heap.size, 5, none⟩ = some (.int .u64 s1)) ?_ ?_
    · refine ⟨by (repeat (first | exact Below.refl _ _ | refine bl_drewN ?_ | refine bl_drew ?_ | refine bl_alloc ?_ _ | refine Below.setCell ?_ (by (first | (simp; done) | (simp; omega) | omega)) _ | refine bl_step (by assumption) ?_)), ?_, ?_, ?_, ?_, ?_, ?_, ?_, ?_⟩
      all_goals first | (simp [go_sem, *]; done) | (rw [h0.out]; simp [go_sem, *]; done)
    clear hd h0
  all_goals
    clear hk
    intro w' ⟨hb, z, fz, g0, g1, g2, g3, g4, g5⟩
    (try replace hb := below_undrew hb); (try replace hb := below_undrewN hb); obtain ⟨hcell, hfroz⟩ := bcell hb; have hz := hb.size; (try simp at hz); (try (have z6 := Nat.lt_of_lt_of_le z7 hz)); (try (have z7 := Nat.lt_of_lt_of_le z8 hz)); (try (have z8 := Nat.lt_of_lt_of_le z9 hz)); (try (have z9 := Nat.lt_of_lt_of_le (Nat.lt_succ_self _) hz)); (try have z0 : w.heap.size < w'.heap.size := by omega); (try have z1 : w.heap.size + 1 < w'.heap.size := by omega); (try have z2 : w.heap.size + 1 + 1 < w'.heap.size := by omega); (try have z3 : w.heap.size + 1 + 1 + 1 < w'.heap.size := by omega); (try have y1 : w1.heap.size < w'.heap.size := by omega); (try have y4 : w4.heap.size < w'.heap.size := by omega); (try have x1 : w1.heap.size + 1 < w'.heap.size := by omega); (try have x4 : w4.heap.size + 1 < w'.heap.size := by omega)
    rw [rounds_succ]
    go_wp2
    refine wp_loop_rounds 5 ?_
    rw [rounds_succ]
    go_wp2
    rw [rounds_succ]
    go_wp2
    go_quiet ((go_at_call 109; (with_reducible exact quiet_same (S3.m _))))
    obtain ⟨w1, rfl⟩ : ∃ v, v = w' := ⟨_, rfl⟩
    (refine name_world (F := Exit.then _ _ _ _) ?_; intro w' hb; (try replace hb := below_undrew hb); (try replace hb := below_undrewN hb); obtain ⟨hcell, hfroz⟩ := bcell hb; have hz := hb.size; (try simp at hz); (try (have z6 := Nat.lt_of_lt_of_le z7 hz)); (try (have z7 := Nat.lt_of_lt_of_le z8 hz)); (try (have z8 := Nat.lt_of_lt_of_le z9 hz)); (try (have z9 := Nat.lt_of_lt_of_le (Nat.lt_succ_self _) hz)); (try have z0 : w.heap.size < w'.heap.size := by omega); (try have z1 : w.heap.size + 1 < w'.heap.size := by omega); (try have z2 : w.heap.size + 1 + 1 < w'.heap.size := by omega); (try have z3 : w.heap.size + 1 + 1 + 1 < w'.heap.size := by omega); (try have y1 : w1.heap.size < w'.heap.size := by omega); (try have y4 : w4.heap.size < w'.heap.size := by omega))
    have f1 := S3.a1
    have f2 := S3.w1
    have f3 := S3.a2
    have f4 := S3.w2
    go_wp2
    clear f1 f2 f3 f4
    rw [rounds_succ]
    go_wp2
    go_quiet ((go_at_call 109; (with_reducible exact quiet_same (S4.m _))))
    obtain ⟨w1, rfl⟩ : ∃ v, v = w' := ⟨_, rfl⟩
    (refine name_world (F := Exit.then _ _ _ _) ?_; intro w' hb; (try replace hb := below_undrew hb); (try replace hb := below_undrewN hb); obtain ⟨hcell, hfroz⟩ := bcell hb; have hz := hb.size; (try simp at hz); (try (have z6 := Nat.lt_of_lt_of_le z7 hz)); (try (have z7 := Nat.lt_of_lt_of_le z8 hz)); (try (have z8 := Nat.lt_of_lt_of_le z9 hz)); (try (have z9 := Nat.lt_of_lt_of_le (Nat.lt_succ_self _) hz)); (try have z0 : w.heap.size < w'.heap.size := by omega); (try have z1 : w.heap.size + 1 < w'.heap.size := by omega); (try have z2 : w.heap.size + 1 + 1 < w'.heap.size := by omega); (try have z3 : w.heap.size + 1 + 1 + 1 < w'.heap.size := by omega); (try have y1 : w1.heap.size < w'.heap.size := by omega); (try have y4 : w4.heap.size < w'.heap.size := by omega))
    have f1 := S4.a1
    have f2 := S4.w1
    have f3 := S4.a2
    have f4 := S4.w2
    go_wp2
    clear f1 f2 f3 f4
    rw [rounds_succ]
    go_wp2
    go_quiet ((go_at_call 109; (with_reducible exact quiet_same (S5.m _))))
    obtain ⟨w1, rfl⟩ : ∃ v, v = w' := ⟨_, rfl⟩
    (refine name_world (F := Exit.then _ _ _ _) ?_; intro w' hb; (try replace hb := below_undrew hb); (try replace hb := below_undrewN hb); obtain ⟨hcell, hfroz⟩ := bcell hb; have hz := hb.size; (try simp at hz); (try (have z6 := Nat.lt_of_lt_of_le z7 hz)); (try (have z7 := Nat.lt_of_lt_of_le z8 hz)); (try (have z8 := Nat.lt_of_lt_of_le z9 hz)); (try (have z9 := Nat.lt_of_lt_of_le (Nat.lt_succ_self _) hz)); (try have z0 : w.heap.size < w'.heap.size := by omega); (try have z1 : w.heap.size + 1 < w'.heap.size := by omega); (try have z2 : w.heap.size + 1 + 1 < w'.heap.size := by omega); (try have z3 : w.heap.size + 1 + 1 + 1 < w'.heap.size := by omega); (try have y1 : w1.heap.size < w'.heap.size := by omega); (try have y4 : w4.heap.size < w'.heap.size := by omega))
    have f1 := S5.a1
    have f2 := S5.w1
    have f3 := S5.a2
    have f4 := S5.w2
    go_wp2
    clear f1 f2 f3 f4
    rw [rounds_succ]
    by_cases hk : 0 < k5
    focus
      have fa : ∀ w, (callFunc 309 #[.int .u64 0, .int .u64 k5, .int .u64 0]).run Tryz.prog w = .ok (.value (.tuple #[.int .u64 k5, .int .u64 0])) w := add64_zero _ (KU.out.2.1)
      go_wp2
      refine wp_loop_rounds 2 ?_
      rw [rounds_succ]
      go_wp2
      rw [rounds_succ]
      go_wp2
      clear fa
      refine name_rel (F := Code.rounds _ _ _ _ _) (fun wx => Below w4.heap.size w4 wx ∧ w4.heap.size < wx.heap.size ∧ (∀ o, wx.frozen? ⟨w4.heap.size, o, none⟩ = false) ∧ wx.cell? ⟨w4.heap.size, 0, none⟩ = some (.int .u64 0) ∧ wx.cell? ⟨w4.heap.size, 1, none⟩ = some (.int .u64 0) ∧ wx.cell? ⟨w4.heap.size, 2, none⟩ = some (.int .u64 k5) ∧ wx.cell? ⟨w4.heap.size, 3, none⟩ = some (.int .u64 s5) ∧ wx.cell? ⟨w4.heap.size, 4, none⟩ = some (.int .u64 s4) ∧ wx.cell? ⟨w4.heap.size, 5, none⟩ = some (.int .u64 s3)) ?_ ?_
      · refine ⟨by (repeat (first | exact Below.refl _ _ | refine bl_drewN ?_ | refine bl_drew ?_ | refine bl_alloc ?_ _ | refine Below.setCell ?_ (by (first | (simp; done) | (simp; omega) | omega)) _ | refine bl_step (by assumption) ?_)), ?_, ?_, ?_, ?_, ?_, ?_, ?_, ?_⟩
        all_goals first | (simp [go_sem, *]; done)
    rotate_left
    focus
      have h0 := hidden (show k5 = 0 by have := KU.out.2.1; omega)
      have hd : decide (0 < k5) = false := by simpa using hk
      go_wp2
      refine wp_loop_rounds 2 ?_
      rw [rounds_succ]
      go_wp2
      refine name_rel (F := Code.rounds _ _ _ _ _) (fun wx => Below w4.heap.size w4 wx ∧ w4.heap.size < wx.heap.size ∧ (∀ o, wx.frozen? ⟨w4.heap.size, o, none⟩ = false) ∧ wx.cell? ⟨w4.heap.size, 0, none⟩ = some (.int .u64 0) ∧ wx.cell? ⟨w4.heap.size, 1, none⟩ = some (.int .u64 0) ∧ wx.cell? ⟨w4.heap.size, 2, none⟩ = some (.int .u64 k5) ∧ wx.cell? ⟨w4.heap.size, 3, none⟩ = some (.int .u64 s5) ∧ wx.cell? ⟨w4.heap.size, 4, none⟩ = some (.int .u64 s4) ∧ wx.cell? ⟨w4.heap.size, 5, none⟩ = some (.int .u64 s3)) ?_ ?_
      · refine ⟨by (repeat (first | exact Below.refl _ _ | refine bl_drewN ?_ | refine bl_drew ?_ | refine bl_alloc ?_ _ | refine Below.setCell ?_ (by (first | (simp; done) | (simp; omega) | omega)) _ | refine bl_step (by assumption) ?_)), ?_, ?_, ?_, ?_, ?_, ?_, ?_, ?_⟩
        all_goals first | (simp [go_sem, *]; done) | (rw [h0.out]; simp [go_sem, *]; done)
      clear hd h0
    all_goals
      clear hk
      intro w' ⟨hb, z, fz, g0, g1, g2, g3, g4, g5⟩
      (try replace hb := below_undrew hb); (try replace hb := below_undrewN hb); obtain ⟨hcell, hfroz⟩ := bcell hb; have hz := hb.size; (try simp at hz); (try (have z6 := Nat.lt_of_lt_of_le z7 hz)); (try (have z7 := Nat.lt_of_lt_of_le z8 hz)); (try (have z8 := Nat.lt_of_lt_of_le z9 hz)); (try (have z9 := Nat.lt_of_lt_of_le (Nat.lt_succ_self _) hz)); (try have z0 : w.heap.size < w'.heap.size := by omega); (try have z1 : w.heap.size + 1 < w'.heap.size := by omega); (try have z2 : w.heap.size + 1 + 1 < w'.heap.size := by omega); (try have z3 : w.heap.size + 1 + 1 + 1 < w'.heap.size := by omega); (try have y1 : w1.heap.size < w'.heap.size := by omega); (try have y4 : w4.heap.size < w'.heap.size := by omega); (try have x1 : w1.heap.size + 1 < w'.heap.size := by omega); (try have x4 : w4.heap.size + 1 < w'.heap.size := by omega)
      rw [rounds_succ]
      go_wp2
      refine wp_loop_rounds 5 ?_
      rw [rounds_succ]
      go_wp2
      go_quiet ((go_at_call 109; (with_reducible exact quiet_same (S6.m _))))
      obtain ⟨w1, rfl⟩ : ∃ v, v = w' := ⟨_, rfl⟩
      (refine name_world (F := Exit.then _ _ _ _) ?_; intro w' hb; (try replace hb := below_undrew hb); (try replace hb := below_undrewN hb); obtain ⟨hcell, hfroz⟩ := bcell hb; have hz := hb.size; (try simp at hz); (try (have z6 := Nat.lt_of_lt_of_le z7 hz)); (try (have z7 := Nat.lt_of_lt_of_le z8 hz)); (try (have z8 := Nat.lt_of_lt_of_le z9 hz)); (try (have z9 := Nat.lt_of_lt_of_le (Nat.lt_succ_self _) hz)); (try have z0 : w.heap.size < w'.heap.size := by omega); (try have z1 : w.heap.size + 1 < w'.heap.size := by omega); (try have z2 : w.heap.size + 1 + 1 < w'.heap.size := by omega); (try have z3 : w.heap.size + 1 + 1 + 1 < w'.heap.size := by omega); (try have y1 : w1.heap.size < w'.heap.size := by omega); (try have y4 : w4.heap.size < w'.heap.size := by omega))
      have f1 := S6.a1
      have f2 := S6.w1
      have f3 := S6.a2
      have f4 := S6.w2
      go_wp2
      clear f1 f2 f3 f4
      rw [rounds_succ]
      go_wp2
      go_quiet ((go_at_call 109; (with_reducible exact quiet_same (S7.m _))))
      obtain ⟨w1, rfl⟩ : ∃ v, v = w' := ⟨_, rfl⟩
      (refine name_world (F := Exit.then _ _ _ _) ?_; intro w' hb; (try replace hb := below_undrew hb); (try replace hb := below_undrewN hb); obtain ⟨hcell, hfroz⟩ := bcell hb; have hz := hb.size; (try simp at hz); (try (have z6 := Nat.lt_of_lt_of_le z7 hz)); (try (have z7 := Nat.lt_of_lt_of_le z8 hz)); (try (have z8 := Nat.lt_of_lt_of_le z9 hz)); (try (have z9 := Nat.lt_of_lt_of_le (Nat.lt_succ_self _) hz)); (try have z0 : w.heap.size < w'.heap.size := by omega); (try have z1 : w.heap.size + 1 < w'.heap.size := by omega); (try have z2 : w.heap.size + 1 + 1 < w'.heap.size := by omega); (try have z3 : w.heap.size + 1 + 1 + 1 < w'.heap.size := by omega); (try have y1 : w1.heap.size < w'.heap.size := by omega); (try have y4 : w4.heap.size < w'.heap.size := by omega))
      have f1 := S7.a1
      have f2 := S7.w1
      have f3 := S7.a2
      have f4 := S7.w2
      go_wp2
      clear f1 f2 f3 f4
      rw [rounds_succ]
      go_wp2
      go_quiet ((go_at_call 109; (with_reducible exact quiet_same (S8.m _))))
      obtain ⟨w1, rfl⟩ : ∃ v, v = w' := ⟨_, rfl⟩
      (refine name_world (F := Exit.then _ _ _ _) ?_; intro w' hb; (try replace hb := below_undrew hb); (try replace hb := below_undrewN hb); obtain ⟨hcell, hfroz⟩ := bcell hb; have hz := hb.size; (try simp at hz); (try (have z6 := Nat.lt_of_lt_of_le z7 hz)); (try (have z7 := Nat.lt_of_lt_of_le z8 hz)); (try (have z8 := Nat.lt_of_lt_of_le z9 hz)); (try (have z9 := Nat.lt_of_lt_of_le (Nat.lt_succ_self _) hz)); (try have z0 : w.heap.size < w'.heap.size := by omega); (try have z1 : w.heap.size + 1 < w'.heap.size := by omega); (try have z2 : w.heap.size + 1 + 1 < w'.heap.size := by omega); (try have z3 : w.heap.size + 1 + 1 + 1 < w'.heap.size := by omega); (try have y1 : w1.heap.size < w'.heap.size := by omega); (try have y4 : w4.heap.size < w'.heap.size := by omega))
      have f1 := S8.a1
      have f2 := S8.w1
      have f3 := S8.a2
      have f4 := S8.w2
      go_wp2
      clear f1 f2 f3 f4
      rw [rounds_succ]
      go_wp2
      go_quiet ((go_at_call 109; (with_reducible exact quiet_same (S9.m _))))
      obtain ⟨w1, rfl⟩ : ∃ v, v = w' := ⟨_, rfl⟩
      (refine name_world (F := Exit.then _ _ _ _) ?_; intro w' hb; (try replace hb := below_undrew hb); (try replace hb := below_undrewN hb); obtain ⟨hcell, hfroz⟩ := bcell hb; have hz := hb.size; (try simp at hz); (try (have z6 := Nat.lt_of_lt_of_le z7 hz)); (try (have z7 := Nat.lt_of_lt_of_le z8 hz)); (try (have z8 := Nat.lt_of_lt_of_le z9 hz)); (try (have z9 := Nat.lt_of_lt_of_le (Nat.lt_succ_self _) hz)); (try have z0 : w.heap.size < w'.heap.size := by omega); (try have z1 : w.heap.size + 1 < w'.heap.size := by omega); (try have z2 : w.heap.size + 1 + 1 < w'.heap.size := by omega); (try have z3 : w.heap.size + 1 + 1 + 1 < w'.heap.size := by omega); (try have y1 : w1.heap.size < w'.heap.size := by omega); (try have y4 : w4.heap.size < w'.heap.size := by omega))
      have f1 := S9.a1
      have f2 := S9.w1
      have f3 := S9.a2
      have f4 := S9.w2
      go_wp2
      clear f1 f2 f3 f4
      rw [rounds_succ]
      by_cases hk : 0 < k9
      focus
        have fa : ∀ w, (callFunc 309 #[.int .u64 0, .int .u64 k9, .int .u64 0]).run Tryz.prog w = .ok (.value (.tuple #[.int .u64 k9, .int .u64 0])) w := add64_zero _ (KU.out.2.2.1)
        go_wp2
        refine wp_loop_rounds 2 ?_
        rw [rounds_succ]
        go_wp2
        rw [rounds_succ]
        go_wp2
        clear fa
        refine name_rel (F := Code.rounds _ _ _ _ _) (fun wx => Below w4.heap.size w4 wx ∧ w4.heap.size < wx.heap.size ∧ (∀ o, wx.frozen? ⟨w4.heap.size, o, none⟩ = false) ∧ wx.cell? ⟨w4.heap.size, 0, none⟩ = some (.int .u64 0) ∧ wx.cell? ⟨w4.heap.size, 1, none⟩ = some (.int .u64 k9) ∧ wx.cell? ⟨w4.heap.size, 2, none⟩ = some (.int .u64 s9) ∧ wx.cell? ⟨w4.heap.size, 3, none⟩ = some (.int .u64 s8) ∧ wx.cell? ⟨w4.heap.size, 4, none⟩ = some (.int .u64 s7) ∧ wx.cell? ⟨w4.heap.size, 5, none⟩ = some (.int .u64 s6)) ?_ ?_
        · refine ⟨by (repeat (first | exact Below.refl _ _ | refine bl_drewN ?_ | refine bl_drew ?_ | refine bl_alloc ?_ _ | refine Below.setCell ?_ (by (first | (simp; done) | (simp; omega) | omega)) _ | refine bl_step (by assumption) ?_)), ?_, ?_, ?_, ?_, ?_, ?_, ?_, ?_⟩
          all_goals first | (simp [go_sem, *]; done)
      rotate_left
      focus
        have h0 := hidden (show k9 = 0 by have := KU.out.2.2.1; omega)
        have hd : decide (0 < k9) = false := by simpa using hk
        go_wp2
        refine wp_loop_rounds 2 ?_
        rw [rounds_succ]
        go_wp2
        refine name_rel (F := Code.rounds _ _ _ _ _) (fun wx => Below w4.heap.size w4 wx ∧ w4.heap.size < wx.heap.size ∧ (∀ o, wx.frozen? ⟨w4.heap.size, o, none⟩ = false) ∧ wx.cell? ⟨w4.heap.size, 0, none⟩ = some (.int .u64 0) ∧ wx.cell? ⟨w4.heap.size, 1, none⟩ = some (.int .u64 k9) ∧ wx.cell? ⟨w4.heap.size, 2, none⟩ = some (.int .u64 s9) ∧ wx.cell? ⟨w4.heap.size, 3, none⟩ = some (.int .u64 s8) ∧ wx.cell? ⟨w4.heap.size, 4, none⟩ = some (.int .u64 s7) ∧ wx.cell? ⟨w4.heap.size, 5, none⟩ = some (.int .u64 s6)) ?_ ?_
        · refine ⟨by (repeat (first | exact Below.refl _ _ | refine bl_drewN ?_ | refine bl_drew ?_ | refine bl_alloc ?_ _ | refine Below.setCell ?_ (by (first | (simp; done) | (simp; omega) | omega)) _ | refine bl_step (by assumption) ?_)), ?_, ?_, ?_, ?_, ?_, ?_, ?_, ?_⟩
          all_goals first | (simp [go_sem, *]; done) | (rw [h0.out]; simp [go_sem, *]; done)
        clear hd h0
      all_goals
        clear hk
        intro w' ⟨hb, z, fz, g0, g1, g2, g3, g4, g5⟩
        (try replace hb := below_undrew hb); (try replace hb := below_undrewN hb); obtain ⟨hcell, hfroz⟩ := bcell hb; have hz := hb.size; (try simp at hz); (try (have z6 := Nat.lt_of_lt_of_le z7 hz)); (try (have z7 := Nat.lt_of_lt_of_le z8 hz)); (try (have z8 := Nat.lt_of_lt_of_le z9 hz)); (try (have z9 := Nat.lt_of_lt_of_le (Nat.lt_succ_self _) hz)); (try have z0 : w.heap.size < w'.heap.size := by omega); (try have z1 : w.heap.size + 1 < w'.heap.size := by omega); (try have z2 : w.heap.size + 1 + 1 < w'.heap.size := by omega); (try have z3 : w.heap.size + 1 + 1 + 1 < w'.heap.size := by omega); (try have y1 : w1.heap.size < w'.heap.size := by omega); (try have y4 : w4.heap.size < w'.heap.size := by omega); (try have x1 : w1.heap.size + 1 < w'.heap.size := by omega); (try have x4 : w4.heap.size + 1 < w'.heap.size := by omega)
        rw [rounds_succ]
        go_wp2
        refine wp_loop_rounds 5 ?_
        rw [rounds_succ]
        go_wp2
        go_quiet ((go_at_call 109; (with_reducible exact quiet_same (S10.m _))))
        obtain ⟨w1, rfl⟩ : ∃ v, v = w' := ⟨_, rfl⟩
        (refine name_world (F := Exit.then _ _ _ _) ?_; intro w' hb; (try replace hb := below_undrew hb); (try replace hb := below_undrewN hb); obtain ⟨hcell, hfroz⟩ := bcell hb; have hz := hb.size; (try simp at hz); (try (have z6 := Nat.lt_of_lt_of_le z7 hz)); (try (have z7 := Nat.lt_of_lt_of_le z8 hz)); (try (have z8 := Nat.lt_of_lt_of_le z9 hz)); (try (have z9 := Nat.lt_of_lt_of_le (Nat.lt_succ_self _) hz)); (try have z0 : w.heap.size < w'.heap.size := by omega); (try have z1 : w.heap.size + 1 < w'.heap.size := by omega); (try have z2 : w.heap.size + 1 + 1 < w'.heap.size := by omega); (try have z3 : w.heap.size + 1 + 1 + 1 < w'.heap.size := by omega); (try have y1 : w1.heap.size < w'.heap.size := by omega); (try have y4 : w4.heap.size < w'.heap.size := by omega))
        have f1 := S10.a1
        have f2 := S10.w1
        have f3 := S10.a2
        have f4 := S10.w2
        go_wp2
        clear f1 f2 f3 f4
        rw [rounds_succ]
        go_wp2
        go_quiet ((go_at_call 109; (with_reducible exact quiet_same (S11.m _))))
        obtain ⟨w1, rfl⟩ : ∃ v, v = w' := ⟨_, rfl⟩
        (refine name_world (F := Exit.then _ _ _ _) ?_; intro w' hb; (try replace hb := below_undrew hb); (try replace hb := below_undrewN hb); obtain ⟨hcell, hfroz⟩ := bcell hb; have hz := hb.size; (try simp at hz); (try (have z6 := Nat.lt_of_lt_of_le z7 hz)); (try (have z7 := Nat.lt_of_lt_of_le z8 hz)); (try (have z8 := Nat.lt_of_lt_of_le z9 hz)); (try (have z9 := Nat.lt_of_lt_of_le (Nat.lt_succ_self _) hz)); (try have z0 : w.heap.size < w'.heap.size := by omega); (try have z1 : w.heap.size + 1 < w'.heap.size := by omega); (try have z2 : w.heap.size + 1 + 1 < w'.heap.size := by omega); (try have z3 : w.heap.size + 1 + 1 + 1 < w'.heap.size := by omega); (try have y1 : w1.heap.size < w'.heap.size := by omega); (try have y4 : w4.heap.size < w'.heap.size := by omega))
        have f1 := S11.a1
        have f2 := S11.w1
        have f3 := S11.a2
        have f4 := S11.w2
        go_wp2
        clear f1 f2 f3 f4
        rw [rounds_succ]
        go_wp2
        go_quiet ((go_at_call 109; (with_reducible exact quiet_same (S12.m _))))
        obtain ⟨w1, rfl⟩ : ∃ v, v = w' := ⟨_, rfl⟩
        (refine name_world (F := Exit.then _ _ _ _) ?_; intro w' hb; (try replace hb := below_undrew hb); (try replace hb := below_undrewN hb); obtain ⟨hcell, hfroz⟩ := bcell hb; have hz := hb.size; (try simp at hz); (try (have z6 := Nat.lt_of_lt_of_le z7 hz)); (try (have z7 := Nat.lt_of_lt_of_le z8 hz)); (try (have z8 := Nat.lt_of_lt_of_le z9 hz)); (try (have z9 := Nat.lt_of_lt_of_le (Nat.lt_succ_self _) hz)); (try have z0 : w.heap.size < w'.heap.size := by omega); (try have z1 : w.heap.size + 1 < w'.heap.size := by omega); (try have z2 : w.heap.size + 1 + 1 < w'.heap.size := by omega); (try have z3 : w.heap.size + 1 + 1 + 1 < w'.heap.size := by omega); (try have y1 : w1.heap.size < w'.heap.size := by omega); (try have y4 : w4.heap.size < w'.heap.size := by omega))
        have f1 := S12.a1
        have f2 := S12.w1
        have f3 := S12.a2
        have f4 := S12.w2
        go_wp2
        clear f1 f2 f3 f4
        rw [rounds_succ]
        go_wp2
        go_quiet ((go_at_call 109; (with_reducible exact quiet_same (S13.m _))))
        obtain ⟨w1, rfl⟩ : ∃ v, v = w' := ⟨_, rfl⟩
        (refine name_world (F := Exit.then _ _ _ _) ?_; intro w' hb; (try replace hb := below_undrew hb); (try replace hb := below_undrewN hb); obtain ⟨hcell, hfroz⟩ := bcell hb; have hz := hb.size; (try simp at hz); (try (have z6 := Nat.lt_of_lt_of_le z7 hz)); (try (have z7 := Nat.lt_of_lt_of_le z8 hz)); (try (have z8 := Nat.lt_of_lt_of_le z9 hz)); (try (have z9 := Nat.lt_of_lt_of_le (Nat.lt_succ_self _) hz)); (try have z0 : w.heap.size < w'.heap.size := by omega); (try have z1 : w.heap.size + 1 < w'.heap.size := by omega); (try have z2 : w.heap.size + 1 + 1 < w'.heap.size := by omega); (try have z3 : w.heap.size + 1 + 1 + 1 < w'.heap.size := by omega); (try have y1 : w1.heap.size < w'.heap.size := by omega); (try have y4 : w4.heap.size < w'.heap.size := by omega))
        have f1 := S13.a1
        have f2 := S13.w1
        have f3 := S13.a2
        have f4 := S13.w2
        go_wp2
        clear f1 f2 f3 f4
        rw [rounds_succ]
        by_cases hk : 0 < k13
        focus
          have fa : ∀ w, (callFunc 309 #[.int .u64 0, .int .u64 k13, .int .u64 0]).run Tryz.prog w = .ok (.value (.tuple #[.int .u64 k13, .int .u64 0])) w := add64_zero _ (KU.out.2.2.2)
          go_wp2
          refine wp_loop_rounds 2 ?_
          rw [rounds_succ]
          go_wp2
          rw [rounds_succ]
          go_wp2
          clear fa
          refine name_rel (F := Code.rounds _ _ _ _ _) (fun wx => Below w4.heap.size w4 wx ∧ w4.heap.size < wx.heap.size ∧ (∀ o, wx.frozen? ⟨w4.heap.size, o, none⟩ = false) ∧ wx.cell? ⟨w4.heap.size, 0, none⟩ = some (.int .u64 k13) ∧ wx.cell? ⟨w4.heap.size, 1, none⟩ = some (.int .u64 s13) ∧ wx.cell? ⟨w4.heap.size, 2, none⟩ = some (.int .u64 s12) ∧ wx.cell? ⟨w4.heap.size, 3, none⟩ = some (.int .u64 s11) ∧ wx.cell? ⟨w4.heap.size, 4, none⟩ = some (.int .u64 s10) ∧ wx.cell? ⟨w4.heap.size, 5, none⟩ = some (.int .u64 s6)) ?_ ?_
          · refine ⟨by (repeat (first | exact Below.refl _ _ | refine bl_drewN ?_ | refine bl_drew ?_ | refine bl_alloc ?_ _ | refine Below.setCell ?_ (by (first | (simp; done) | (simp; omega) | omega)) _ | refine bl_step (by assumption) ?_)), ?_, ?_, ?_, ?_, ?_, ?_, ?_, ?_⟩
            all_goals first | (simp [go_sem, *]; done)
        rotate_left
        focus
          have h0 := hidden (show k13 = 0 by have := KU.out.2.2.2; omega)
          have hd : decide (0 < k13) = false := by simpa using hk
          go_wp2
          refine wp_loop_rounds 2 ?_
          rw [rounds_succ]
          go_wp2
          refine name_rel (F := Code.rounds _ _ _ _ _) (fun wx => Below w4.heap.size w4 wx ∧ w4.heap.size < wx.heap.size ∧ (∀ o, wx.frozen? ⟨w4.heap.size, o, none⟩ = false) ∧ wx.cell? ⟨w4.heap.size, 0, none⟩ = some (.int .u64 k13) ∧ wx.cell? ⟨w4.heap.size, 1, none⟩ = some (.int .u64 s13) ∧ wx.cell? ⟨w4.heap.size, 2, none⟩ = some (.int .u64 s12) ∧ wx.cell? ⟨w4.heap.size, 3, none⟩ = some (.int .u64 s11) ∧ wx.cell? ⟨w4.heap.size, 4, none⟩ = some (.int .u64 s10) ∧ wx.cell? ⟨w4.heap.size, 5, none⟩ = some (.int .u64 s6)) ?_ ?_
          · refine ⟨by (repeat (first | exact Below.refl _ _ | refine bl_drewN ?_ | refine bl_drew ?_ | refine bl_alloc ?_ _ | refine Below.setCell ?_ (by (first | (simp; done) | (simp; omega) | omega)) _ | refine bl_step (by assumption) ?_)), ?_, ?_, ?_, ?_, ?_, ?_, ?_, ?_⟩
            all_goals first | (simp [go_sem, *]; done) | (rw [h0.out]; simp [go_sem, *]; done)
          clear hd h0
        all_goals
          clear hk
          intro w' ⟨hb, z, fz, g0, g1, g2, g3, g4, g5⟩
          (try replace hb := below_undrew hb); (try replace hb := below_undrewN hb); obtain ⟨hcell, hfroz⟩ := bcell hb; have hz := hb.size; (try simp at hz); (try (have z6 := Nat.lt_of_lt_of_le z7 hz)); (try (have z7 := Nat.lt_of_lt_of_le z8 hz)); (try (have z8 := Nat.lt_of_lt_of_le z9 hz)); (try (have z9 := Nat.lt_of_lt_of_le (Nat.lt_succ_self _) hz)); (try have z0 : w.heap.size < w'.heap.size := by omega); (try have z1 : w.heap.size + 1 < w'.heap.size := by omega); (try have z2 : w.heap.size + 1 + 1 < w'.heap.size := by omega); (try have z3 : w.heap.size + 1 + 1 + 1 < w'.heap.size := by omega); (try have y1 : w1.heap.size < w'.heap.size := by omega); (try have y4 : w4.heap.size < w'.heap.size := by omega); (try have x1 : w1.heap.size + 1 < w'.heap.size := by omega); (try have x4 : w4.heap.size + 1 < w'.heap.size := by omega)
          have arr := fun w => array_run ⟨w4.heap.size, 0, none⟩ w
          rw [rounds_succ]
          go_wp2
          exact bodyPost_ret (v := .agg #[.int .u64 k13, .int .u64 s13, .int .u64 s12, .int .u64 s11]) (by first | (simp only [results, Tryz.results339]; go_simp; done) | simp [results, Tryz.results339, go_sem, *]) rfl ⟨rfl, by (repeat (first | exact Below.refl _ _ | refine bl_drewN ?_ | refine bl_drew ?_ | refine bl_alloc ?_ _ | refine Below.setCell ?_ (by (first | (simp; done) | (simp; omega) | omega)) _ | refine bl_step (by assumption) ?_))⟩
/-- the products of words that count, as a number of six words -/
def prodW (a0 a1 a2 a3 b0 b1 b2 b3 : Int) : Int :=
  (((a0 * b0 * 18446744073709551616 + (a0 * b1 + a1 * b0)) * 18446744073709551616 + (a0 * b2 + a1 * b1 + a2 * b0)) * 18446744073709551616 + (a0 * b3 + a1 * b2 + a2 * b1 + a3 * b0)) * 18446744073709551616 + (a1 * b3 + a2 * b2 + a3 * b1)
def mulV (A B : Int) : Int :=
  prodW (A / (W64 * W64 * W64)) (A / (W64 * W64) % W64) (A / W64 % W64) (A % W64) (B / (W64 * W64 * W64)) (B / (W64 * W64) % W64) (B / W64 % W64) (B % W64) / (W64 * W64)
theorem mul_word (x y o k : Int) (hx : word x) (hy : word y) (ho : word o) (hk : word k) : ∃ s k2 hi lo s1 c1 h1 c2, MStep x y o k s k2 hi lo s1 c1 h1 c2 ∧ word s ∧ word k2 ∧ k2 * 18446744073709551616 + s = o + x * y + k := by
  have p0 : 0 ≤ x * y := Int.mul_nonneg hx.1 hy.1
  have p1 : x * y ≤ 18446744073709551615 * 18446744073709551615 := Int.mul_le_mul hx.2 hy.2 hy.1 (by omega)
  have M := fun w => mul64_any x y w hx.1 hx.2 hy.1 hy.2
  generalize x * y = P at *
  unfold word at *
  refine ⟨((o + P % 18446744073709551616 + 0) % 18446744073709551616 + k + 0) % 18446744073709551616, P / 18446744073709551616 + (o + P % 18446744073709551616 + 0) / 18446744073709551616 + ((o + P % 18446744073709551616 + 0) % 18446744073709551616 + k + 0) / 18446744073709551616,
    P / 18446744073709551616, P % 18446744073709551616, (o + P % 18446744073709551616 + 0) % 18446744073709551616, (o + P % 18446744073709551616 + 0) / 18446744073709551616, P / 18446744073709551616 + (o + P % 18446744073709551616 + 0) / 18446744073709551616,
    ((o + P % 18446744073709551616 + 0) % 18446744073709551616 + k + 0) / 18446744073709551616, ⟨M, ?_, ?_, ?_, ?_⟩, by omega, by omega, by omega⟩
  · exact fun w => add64_run o _ 0 (by omega) (by omega) (by omega) (by omega) w
  · rw [IntKind.wrap_u64]; omega
  · exact fun w => add64_run _ k 0 (by omega) (by omega) (by omega) (by omega) w
  · rw [IntKind.wrap_u64]; omega
theorem mulV_near (A B : Int) (a0 : 0 ≤ A) (a1 : A < W256) (b0 : 0 ≤ B) (b1 : B < W256) : 0 ≤ mulV A B ∧ mulV A B < W256 ∧ mulV A B * W256 ≤ A * B ∧ A * B < mulV A B * W256 + 2 * W256 := by
  obtain ⟨a, b, c, d, ha, hb, hc, hd, eA, nA⟩ := NUM_words A a0 a1
  obtain ⟨p, q, r, s, hp, hq, hr, hs, eB, nB⟩ := NUM_words B b0 b1
  have dA := nv_digits a b c d ha hb hc hd
  have dB := nv_digits p q r s hp hq hr hs
  have hm : mulV A B = prodW a b c d p q r s / (W64 * W64) := by
    unfold mulV
    rw [eA, eB, dA.1, dA.2.1, dA.2.2.1, dA.2.2.2.1, dB.1, dB.2.1, dB.2.2.1, dB.2.2.2.1]
  have hAB : A * B = prodW a b c d p q r s * (W64 * W64) + ((c * s + d * r) * 18446744073709551616 + d * s) := by
    rw [eA, eB]; unfold prodW nv W64; grind
  have m1 := Int.mul_nonneg hc.1 hs.1
  have m2 := Int.mul_nonneg hd.1 hr.1
  have m3 := Int.mul_nonneg hd.1 hs.1
  have n1 : c * s ≤ 18446744073709551615 * 18446744073709551615 := Int.mul_le_mul hc.2 hs.2 hs.1 (by omega)
  have n2 : d * r ≤ 18446744073709551615 * 18446744073709551615 := Int.mul_le_mul hd.2 hr.2 hr.1 (by omega)
  have n3 : d * s ≤ 18446744073709551615 * 18446744073709551615 := Int.mul_le_mul hd.2 hs.2 hs.1 (by omega)
  have P0 : 0 ≤ prodW a b c d p q r s := by
    have f : ∀ x y : Int, word x → word y → 0 ≤ x * y := fun x y hx hy => Int.mul_nonneg hx.1 hy.1
    have := f a p ha hp; have := f a q ha hq; have := f b p hb hp; have := f a r ha hr; have := f b q hb hq; have := f c p hc hp
    have := f a s ha hs; have := f b r hb hr; have := f c q hc hq; have := f d p hd hp; have := f b s hb hs; have := f c r hc hr; have := f d q hd hq
    unfold prodW; omega
  have AB1 : A * B ≤ (W256 - 1) * (W256 - 1) := Int.mul_le_mul (by omega) (by omega) b0 (by omega)
  have W0 : (W256 - 1) * (W256 - 1) < W256 * W256 := by unfold W256 W64; omega
  have AB2 : A * B < W256 * W256 := by omega
  rw [hm]
  clear AB1 W0 dA dB eA eB nA nB a0 a1 b0 b1
  generalize prodW a b c d p q r s = P at *
  generalize A * B = T at *
  generalize c * s = x1 at *
  generalize d * r = x2 at *
  generalize d * s = x3 at *
  clear hm ha hb hc hd hp hq hr hs
  unfold W256 W64 at *
  refine ⟨by omega, by omega, by omega, by omega⟩
theorem mulV_bd (A B : Int) (a0 : 0 ≤ A) (a1 : A < W256) (b0 : 0 ≤ B) (b1 : B < W256) : 0 ≤ mulV A B ∧ mulV A B < W256 := ⟨(mulV_near A B a0 a1 b0 b1).1, (mulV_near A B a0 a1 b0 b1).2.1⟩
theorem nmul_any (A B : Int) (w : World) (a0 : 0 ≤ A) (a1 : A < W256) (b0 : 0 ≤ B) (b1 : B < W256) :
    Calls Tryz.prog 339 #[NUM A, NUM B] w fun e w' => e = .returned (NUM (mulV A B)) ∧ Below w.heap.size w w' ∧ 0 ≤ mulV A B ∧ mulV A B < W256 ∧ mulV A B * W256 ≤ A * B ∧ A * B < mulV A B * W256 + 2 * W256 := by
  obtain ⟨a, b, c, d, ha, hb, hc, hd, eA, nA⟩ := NUM_words A a0 a1
  obtain ⟨p, q, r, s, hp, hq, hr, hs, eB, nB⟩ := NUM_words B b0 b1
  have z : word 0 := ⟨by omega, by omega⟩
  obtain ⟨s1, k1, hi1, lo1, p1, c1, h1, e1, S1, ws1, wk1, E1⟩ := mul_word d q 0 0 hd hq z z
  obtain ⟨s2, k2, hi2, lo2, p2, c2, h2, e2, S2, ws2, wk2, E2⟩ := mul_word d p 0 k1 hd hp z wk1
  obtain ⟨s3, k3, hi3, lo3, p3, c3, h3, e3, S3, ws3, wk3, E3⟩ := mul_word c r s1 0 hc hr ws1 z
  obtain ⟨s4, k4, hi4, lo4, p4, c4, h4, e4, S4, ws4, wk4, E4⟩ := mul_word c q s2 k3 hc hq ws2 wk3
  obtain ⟨s5, k5, hi5, lo5, p5, c5, h5, e5, S5, ws5, wk5, E5⟩ := mul_word c p k2 k4 hc hp wk2 wk4
  obtain ⟨s6, k6, hi6, lo6, p6, c6, h6, e6, S6, ws6, wk6, E6⟩ := mul_word b s s3 0 hb hs ws3 z
  obtain ⟨s7, k7, hi7, lo7, p7, c7, h7, e7, S7, ws7, wk7, E7⟩ := mul_word b r s4 k6 hb hr ws4 wk6
  obtain ⟨s8, k8, hi8, lo8, p8, c8, h8, e8, S8, ws8, wk8, E8⟩ := mul_word b q s5 k7 hb hq ws5 wk7
  obtain ⟨s9, k9, hi9, lo9, p9, c9, h9, e9, S9, ws9, wk9, E9⟩ := mul_word b p k5 k8 hb hp wk5 wk8
  obtain ⟨s10, k10, hi10, lo10, p10, c10, h10, e10, S10, ws10, wk10, E10⟩ := mul_word a s s7 0 ha hs ws7 z
  obtain ⟨s11, k11, hi11, lo11, p11, c11, h11, e11, S11, ws11, wk11, E11⟩ := mul_word a r s8 k10 ha hr ws8 wk10
  obtain ⟨s12, k12, hi12, lo12, p12, c12, h12, e12, S12, ws12, wk12, E12⟩ := mul_word a q s9 k11 ha hq ws9 wk11
  obtain ⟨s13, k13, hi13, lo13, p13, c13, h13, e13, S13, ws13, wk13, E13⟩ := mul_word a p k9 k12 ha hp wk9 wk12
  have h := nmul_walk a b c d p q r s _ _ _ _ _ _ _ _ _ _ _ _ _ _ _ _ _ _ _ _ _ _ _ _ _ _ _ _ _ _ _ _ _ _ _ _ _ _ _ _ _ _ _ _ _ _ _ _ _ _ _ _ _ _ _ _ _ _ _ _ _ _ _ _ _ _ _ _ _ _ _ _ _ _ _ _ _ _ _ _ _ _ _ _ _ _ _ _ _ _ _ _ _ _ _ _ _ _ _ _ _ _ _ _ w S1 S2 S3 S4 S5 S6 S7 S8 S9 S10 S11 S12 S13 (hidden ⟨⟨wk2.1, wk2.2⟩, ⟨wk5.1, wk5.2⟩, ⟨wk9.1, wk9.2⟩, ⟨wk13.1, wk13.2⟩⟩) (hidden ⟨wk2.1, wk5.1, wk9.1, wk13.1⟩)
  have k := nv_digits k13 s13 s12 s11 wk13 ws13 ws12 ws11
  have total : prodW a b c d p q r s = nv k13 s13 s12 s11 * (W64 * W64) + (s10 * 18446744073709551616 + s6) := by
    unfold prodW nv W64
    omega
  have dA := nv_digits a b c d ha hb hc hd
  have dB := nv_digits p q r s hp hq hr hs
  have hm : mulV A B = nv k13 s13 s12 s11 := by
    unfold mulV
    rw [eA, eB, dA.1, dA.2.1, dA.2.2.1, dA.2.2.2.1, dB.1, dB.2.1, dB.2.2.1, dB.2.2.2.1, total]
    generalize nv k13 s13 s12 s11 = N at *
    unfold word at ws10 ws6
    unfold W64
    omega
  have hAB : A * B = prodW a b c d p q r s * (W64 * W64) + ((c * s + d * r) * 18446744073709551616 + d * s) := by
    rw [eA, eB]; unfold prodW nv W64; grind
  have m1 := Int.mul_nonneg hc.1 hs.1
  have m2 := Int.mul_nonneg hd.1 hr.1
  have m3 := Int.mul_nonneg hd.1 hs.1
  have n1 : c * s ≤ 18446744073709551615 * 18446744073709551615 := Int.mul_le_mul hc.2 hs.2 hs.1 (by omega)
  have n2 : d * r ≤ 18446744073709551615 * 18446744073709551615 := Int.mul_le_mul hd.2 hr.2 hr.1 (by omega)
  have n3 : d * s ≤ 18446744073709551615 * 18446744073709551615 := Int.mul_le_mul hd.2 hs.2 hs.1 (by omega)
  rw [nA, nB]
  rw [total] at hAB
  rw [hm]
  refine h.mono fun _ _ ⟨he, hw⟩ => ⟨?_, hw, k.2.2.2.2.1, k.2.2.2.2.2, ?_, ?_⟩
  · rw [he, NUM_nv k13 s13 s12 s11 wk13 ws13 ws12 ws11]
  · rw [hAB]
    generalize nv k13 s13 s12 s11 = N at *
    unfold word at ws10 ws6
    unfold W256 W64
    omega
  · rw [hAB]
    generalize nv k13 s13 s12 s11 = N at *
    unfold word at ws10 ws6
    unfold W256 W64
    omega
end Go.Proofs.YtdhbeoahpfimbaaGreat
