/- The product of two numbers of four words, as a walk. -/
import Derived.Test.YtjceofmhodcefaaGreatNum2
import Derived.Deep.Cut
import Derived.Deep.DeepCutAuto
import Derived.Deep.CutRange
import Derived.Deep.CutBlock
namespace Go.Proofs.YtjceofmhodcefaaGreat
open Go.RowKit

/-- one step of a row: a place o of the sum, a product x y and what is carried, k, make the place s and what is carried further, k2 -/
structure MStep (x y o k s k2 hi lo s1 c1 h1 c2 : Int) : Prop where
  m : ∀ w, Calls Tryz.prog 67 #[.int .u64 x, .int .u64 y] w fun e w' => e = .returned (.tuple #[.int .u64 hi, .int .u64 lo]) ∧ w = w'
  a1 : ∀ w, (callFunc 110 #[.int .u64 o, .int .u64 lo, .int .u64 0]).run Tryz.prog w = .ok (.value (.tuple #[.int .u64 s1, .int .u64 c1])) w
  w1 : IntKind.u64.wrap (hi + c1) = h1
  a2 : ∀ w, (callFunc 110 #[.int .u64 s1, .int .u64 k, .int .u64 0]).run Tryz.prog w = .ok (.value (.tuple #[.int .u64 s, .int .u64 c2])) w
  w2 : IntKind.u64.wrap (h1 + c2) = k2

theorem array_run (A : Addr) (w : World) : (Instr.arrayAt 126 (.slice (some A) 4 6)).run Tryz.prog w = .ok (.pointer (some A)) w := by kernel_rfl

theorem name_rel {F : World → Prop} {W : World} (R : World → Prop) (hR : R W) (h : ∀ w', R w' → F w') : F W := h W hR

theorem add64_zero (k : Int) (h : 0 ≤ k ∧ k ≤ 18446744073709551615) (w : World) : (callFunc 110 #[.int .u64 0, .int .u64 k, .int .u64 0]).run Tryz.prog w = .ok (.value (.tuple #[.int .u64 k, .int .u64 0])) w := by
  have := add64_run 0 k 0 (by omega) h.1 (by omega) (by omega) w
  rw [show (0 + k + 0) % 18446744073709551616 = k by omega, show (0 + k + 0) / 18446744073709551616 = 0 by omega] at this
  exact this

set_option maxRecDepth 100000 in
set_option maxHeartbeats 8000000 in
theorem nmul_walk (a0 a1 a2 a3 b0 b1 b2 b3 s1 k1 hi1 lo1 p1 c1 h1 e1 s2 k2 hi2 lo2 p2 c2 h2 e2 s3 k3 hi3 lo3 p3 c3 h3 e3 s4 k4 hi4 lo4 p4 c4 h4 e4 s5 k5 hi5 lo5 p5 c5 h5 e5 s6 k6 hi6 lo6 p6 c6 h6 e6 s7 k7 hi7 lo7 p7 c7 h7 e7 s8 k8 hi8 lo8 p8 c8 h8 e8 s9 k9 hi9 lo9 p9 c9 h9 e9 s10 k10 hi10 lo10 p10 c10 h10 e10 s11 k11 hi11 lo11 p11 c11 h11 e11 s12 k12 hi12 lo12 p12 c12 h12 e12 s13 k13 hi13 lo13 p13 c13 h13 e13 : Int) (w : World)
    (S1 : MStep a3 b1 0 0 s1 k1 hi1 lo1 p1 c1 h1 e1)
    (S2 : MStep a3 b0 0 k1 s2 k2 hi2 lo2 p2 c2 h2 e2)
    (S3 : MStep a2 b2 s1 0 s3 k3 hi3 lo3 p3 c3 h3 e3)
    (S4 : MStep a2 b1 s2 k3 s4 k4 hi4 lo4 p4 c4 h4 e4)
    (S5 : MStep a2 b0 k2 k4 s5 k5 hi5 lo5 p5 c5 h5 e5)
    (S6 : MStep a1 b3 s3 0 s6 k6 hi6 lo6 p6 c6 h6 e6)
    (S7 : MStep a1 b2 s4 k6 s7 k7 hi7 lo7 p7 c7 h7 e7)
    (S8 : MStep a1 b1 s5 k7 s8 k8 hi8 lo8 p8 c8 h8 e8)
    (S9 : MStep a1 b0 k5 k8 s9 k9 hi9 lo9 p9 c9 h9 e9)
    (S10 : MStep a0 b3 s7 0 s10 k10 hi10 lo10 p10 c10 h10 e10)
    (S11 : MStep a0 b2 s8 k10 s11 k11 hi11 lo11 p11 c11 h11 e11)
    (S12 : MStep a0 b1 s9 k11 s12 k12 hi12 lo12 p12 c12 h12 e12)
    (S13 : MStep a0 b0 k9 k12 s13 k13 hi13 lo13 p13 c13 h13 e13)
    (KU : Hid ((0 ≤ k2 ∧ k2 ≤ 18446744073709551615) ∧ (0 ≤ k5 ∧ k5 ≤ 18446744073709551615) ∧ (0 ≤ k9 ∧ k9 ≤ 18446744073709551615) ∧ (0 ≤ k13 ∧ k13 ≤ 18446744073709551615)))
    (KB : Hid (0 ≤ k2 ∧ 0 ≤ k5 ∧ 0 ≤ k9 ∧ 0 ≤ k13)) :
    Calls Tryz.prog 105 #[.agg #[.int .u64 a0, .int .u64 a1, .int .u64 a2, .int .u64 a3], .agg #[.int .u64 b0, .int .u64 b1, .int .u64 b2, .int .u64 b3]] w fun e w' => e = .returned (.agg #[.int .u64 k13, .int .u64 s13, .int .u64 s12, .int .u64 s11]) ∧ Below w.heap.size w w' := by
  go_enter Tryz.func105, Tryz.ntmps105
  go_upto_region 1 with fail
  (refine name_code ?_; intro w' hb; (try replace hb := below_undrew hb); (try replace hb := below_undrewN hb); obtain ⟨hcell, hfroz⟩ := bcell hb; have hz := hb.size; (try simp at hz); (try (have z6 := Nat.lt_of_lt_of_le z7 hz)); (try (have z7 := Nat.lt_of_lt_of_le z8 hz)); (try (have z8 := Nat.lt_of_lt_of_le z9 hz)); (try (have z9 := Nat.lt_of_lt_of_le (Nat.lt_succ_self _) hz)); (try (have z0 : w.heap.size < w'.heap.size := by omega)); (try (have z1 : w.heap.size + 1 < w'.heap.size := by omega)); (try (have z2 : w.heap.size + 1 + 1 < w'.heap.size := by omega)); (try (have z3 : w.heap.size + 1 + 1 + 1 < w'.heap.size := by omega)); (try (have y1 : w1.heap.size < w'.heap.size := by omega)); (try (have y4 : w4.heap.size < w'.heap.size := by omega)))
  obtain ⟨w4, rfl⟩ : ∃ v, v = w' := ⟨_, rfl⟩
  go_wp2
  (refine name_code ?_; intro w' hb; (try replace hb := below_undrew hb); (try replace hb := below_undrewN hb); obtain ⟨hcell, hfroz⟩ := bcell hb; have hz := hb.size; (try simp at hz); (try (have z6 := Nat.lt_of_lt_of_le z7 hz)); (try (have z7 := Nat.lt_of_lt_of_le z8 hz)); (try (have z8 := Nat.lt_of_lt_of_le z9 hz)); (try (have z9 := Nat.lt_of_lt_of_le (Nat.lt_succ_self _) hz)); (try (have z0 : w.heap.size < w'.heap.size := by omega)); (try (have z1 : w.heap.size + 1 < w'.heap.size := by omega)); (try (have z2 : w.heap.size + 1 + 1 < w'.heap.size := by omega)); (try (have z3 : w.heap.size + 1 + 1 + 1 < w'.heap.size := by omega)); (try (have y1 : w1.heap.size < w'.heap.size := by omega)); (try (have y4 : w4.heap.size < w'.heap.size := by omega)))
  (try (have y4 : w4.heap.size < w'.heap.size := by omega))
  refine wp_loop_rounds 5 ?_
  rw [rounds_succ]
  go_wp2
  refine wp_loop_rounds 5 ?_
  rw [rounds_succ]
  go_wp2
  rw [rounds_succ]
  go_wp2
  rw [rounds_succ]
  go_wp2
  go_quiet ((go_at_call 67; (with_reducible exact quiet_same (S1.m _))))
  obtain ⟨w1, rfl⟩ : ∃ v, v = w' := ⟨_, rfl⟩
  (refine name_world (F := Exit.then _ _ _ _) ?_; intro w' hb; (try replace hb := below_undrew hb); (try replace hb := below_undrewN hb); obtain ⟨hcell, hfroz⟩ := bcell hb; have hz := hb.size; (try simp at hz); (try (have z6 := Nat.lt_of_lt_of_le z7 hz)); (try (have z7 := Nat.lt_of_lt_of_le z8 hz)); (try (have z8 := Nat.lt_of_lt_of_le z9 hz)); (try (have z9 := Nat.lt_of_lt_of_le (Nat.lt_succ_self _) hz)); (try (have z0 : w.heap.size < w'.heap.size := by omega)); (try (have z1 : w.heap.size + 1 < w'.heap.size := by omega)); (try (have z2 : w.heap.size + 1 + 1 < w'.heap.size := by omega)); (try (have z3 : w.heap.size + 1 + 1 + 1 < w'.heap.size := by omega)); (try (have y1 : w1.heap.size < w'.heap.size := by omega)); (try (have y4 : w4.heap.size < w'.heap.size := by omega)))
  have f1 := S1.a1
  have f2 := S1.w1
  have f3 := S1.a2
  have f4 := S1.w2
  go_wp2
  clear f1 f2 f3 f4
  rw [rounds_succ]
  go_wp2
  go_quiet ((go_at_call 67; (with_reducible exact quiet_same (S2.m _))))
  obtain ⟨w1, rfl⟩ : ∃ v, v = w' := ⟨_, rfl⟩
  (refine name_world (F := Exit.then _ _ _ _) ?_; intro w' hb; (try replace hb := below_undrew hb); (try replace hb := below_undrewN hb); obtain ⟨hcell, hfroz⟩ := bcell hb; have hz := hb.size; (try simp at hz); (try (have z6 := Nat.lt_of_lt_of_le z7 hz)); (try (have z7 := Nat.lt_of_lt_of_le z8 hz)); (try (have z8 := Nat.lt_of_lt_of_le z9 hz)); (try (have z9 := Nat.lt_of_lt_of_le (Nat.lt_succ_self _) hz)); (try (have z0 : w.heap.size < w'.heap.size := by omega)); (try (have z1 : w.heap.size + 1 < w'.heap.size := by omega)); (try (have z2 : w.heap.size + 1 + 1 < w'.heap.size := by omega)); (try (have z3 : w.heap.size + 1 + 1 + 1 < w'.heap.size := by omega)); (try (have y1 : w1.heap.size < w'.heap.size := by omega)); (try (have y4 : w4.heap.size < w'.heap.size := by omega)))
  have f1 := S2.a1
  have f2 := S2.w1
  have f3 := S2.a2
  have f4 := S2.w2
  go_wp2
  clear f1 f2 f3 f4
  rw [rounds_succ]
  by_cases hk : 0 < k2
  · have fa : ∀ w, (callFunc 110 #[.int .u64 0, .int .u64 k2, .int .u64 0]).run Tryz.prog w = .ok (.value (.tuple #[.int .u64 k2, .int .u64 0])) w := add64_zero _ (KU.out.1)
    go_wp2
    refine wp_loop_rounds 2 ?_
    rw [rounds_succ]
    go_wp2
    rw [rounds_succ]
    go_wp2
    clear fa
    refine name_rel (F := Code.rounds _ _ _ _ _) (fun wx => Below w4.heap.size w4 wx ∧ w4.heap.size < wx.heap.size ∧ (∀ o, wx.frozen? ⟨w4.heap.size, o, none⟩ = false) ∧ wx.cell? ⟨w4.heap.size, 0, none⟩ = some (.int .u64 0) ∧ wx.cell? ⟨w4.heap.size, 1, none⟩ = some (.int .u64 0) ∧ wx.cell? ⟨w4.heap.size, 2, none⟩ = some (.int .u64 0) ∧ wx.cell? ⟨w4.heap.size, 3, none⟩ = some (.int .u64 k2) ∧ wx.cell? ⟨w4.heap.size, 4, none⟩ = some (.int .u64 s2) ∧ wx.cell? ⟨w4.heap.size, 5, none⟩ = some (.int .u64 s1)) ?_ ?_
    · refine ⟨by (repeat (first | exact Below.refl _ _ | refine bl_drewN ?_ | refine bl_drew ?_ | refine bl_alloc ?_ _ | refine Below.setCell ?_ (by (first | (simp; done) | (simp; omega) | omega)) _ | refine bl_step (by assumption) ?_)), ?_, ?_, ?_, ?_, ?_, ?_, ?_, ?_⟩
      all_goals (simp [go_sem, *]; done)
    intro w' ⟨hb, z, fz, g0, g1, g2, g3, g4, g5⟩
    (try replace hb := below_undrew hb); (try replace hb := below_undrewN hb); obtain ⟨hcell, hfroz⟩ := bcell hb; have hz := hb.size; (try simp at hz); (try (have z6 := Nat.lt_of_lt_of_le z7 hz)); (try (have z7 := Nat.lt_of_lt_of_le z8 hz)); (try (have z8 := Nat.lt_of_lt_of_le z9 hz)); (try (have z9 := Nat.lt_of_lt_of_le (Nat.lt_succ_self _) hz)); (try (have z0 : w.heap.size < w'.heap.size := by omega)); (try (have z1 : w.heap.size + 1 < w'.heap.size := by omega)); (try (have z2 : w.heap.size + 1 + 1 < w'.heap.size := by omega)); (try (have z3 : w.heap.size + 1 + 1 + 1 < w'.heap.size := by omega)); (try (have y1 : w1.heap.size < w'.heap.size := by omega)); (try (have y4 : w4.heap.size < w'.heap.size := by omega)); (try (have x1 : w1.heap.size + 1 < w'.heap.size := by omega)); (try (have x4 : w4.heap.size + 1 < w'.heap.size := by omega))
    rw [rounds_succ]
    go_wp2
    refine wp_loop_rounds 5 ?_
    rw [rounds_succ]
    go_wp2
    rw [rounds_succ]
    go_wp2
    go_quiet ((go_at_call 67; (with_reducible exact quiet_same (S3.m _))))
    obtain ⟨w1, rfl⟩ : ∃ v, v = w' := ⟨_, rfl⟩
    (refine name_world (F := Exit.then _ _ _ _) ?_; intro w' hb; (try replace hb := below_undrew hb); (try replace hb := below_undrewN hb); obtain ⟨hcell, hfroz⟩ := bcell hb; have hz := hb.size; (try simp at hz); (try (have z6 := Nat.lt_of_lt_of_le z7 hz)); (try (have z7 := Nat.lt_of_lt_of_le z8 hz)); (try (have z8 := Nat.lt_of_lt_of_le z9 hz)); (try (have z9 := Nat.lt_of_lt_of_le (Nat.lt_succ_self _) hz)); (try (have z0 : w.heap.size < w'.heap.size := by omega)); (try (have z1 : w.heap.size + 1 < w'.heap.size := by omega)); (try (have z2 : w.heap.size + 1 + 1 < w'.heap.size := by omega)); (try (have z3 : w.heap.size + 1 + 1 + 1 < w'.heap.size := by omega)); (try (have y1 : w1.heap.size < w'.heap.size := by omega)); (try (have y4 : w4.heap.size < w'.heap.size := by omega)))
    have f1 := S3.a1
    have f2 := S3.w1
    have f3 := S3.a2
    have f4 := S3.w2
    go_wp2
    clear f1 f2 f3 f4
    rw [rounds_succ]
    go_wp2
    go_quiet ((go_at_call 67; (with_reducible exact quiet_same (S4.m _))))
    obtain ⟨w1, rfl⟩ : ∃ v, v = w' := ⟨_, rfl⟩
    (refine name_world (F := Exit.then _ _ _ _) ?_; intro w' hb; (try replace hb := below_undrew hb); (try replace hb := below_undrewN hb); obtain ⟨hcell, hfroz⟩ := bcell hb; have hz := hb.size; (try simp at hz); (try (have z6 := Nat.lt_of_lt_of_le z7 hz)); (try (have z7 := Nat.lt_of_lt_of_le z8 hz)); (try (have z8 := Nat.lt_of_lt_of_le z9 hz)); (try (have z9 := Nat.lt_of_lt_of_le (Nat.lt_succ_self _) hz)); (try (have z0 : w.heap.size < w'.heap.size := by omega)); (try (have z1 : w.heap.size + 1 < w'.heap.size := by omega)); (try (have z2 : w.heap.size + 1 + 1 < w'.heap.size := by omega)); (try (have z3 : w.heap.size + 1 + 1 + 1 < w'.heap.size := by omega)); (try (have y1 : w1.heap.size < w'.heap.size := by omega)); (try (have y4 : w4.heap.size < w'.heap.size := by omega)))
    have f1 := S4.a1
    have f2 := S4.w1
    have f3 := S4.a2
    have f4 := S4.w2
    go_wp2
    clear f1 f2 f3 f4
    rw [rounds_succ]
    go_wp2
    go_quiet ((go_at_call 67; (with_reducible exact quiet_same (S5.m _))))
    obtain ⟨w1, rfl⟩ : ∃ v, v = w' := ⟨_, rfl⟩
    (refine name_world (F := Exit.then _ _ _ _) ?_; intro w' hb; (try replace hb := below_undrew hb); (try replace hb := below_undrewN hb); obtain ⟨hcell, hfroz⟩ := bcell hb; have hz := hb.size; (try simp at hz); (try (have z6 := Nat.lt_of_lt_of_le z7 hz)); (try (have z7 := Nat.lt_of_lt_of_le z8 hz)); (try (have z8 := Nat.lt_of_lt_of_le z9 hz)); (try (have z9 := Nat.lt_of_lt_of_le (Nat.lt_succ_self _) hz)); (try (have z0 : w.heap.size < w'.heap.size := by omega)); (try (have z1 : w.heap.size + 1 < w'.heap.size := by omega)); (try (have z2 : w.heap.size + 1 + 1 < w'.heap.size := by omega)); (try (have z3 : w.heap.size + 1 + 1 + 1 < w'.heap.size := by omega)); (try (have y1 : w1.heap.size < w'.heap.size := by omega)); (try (have y4 : w4.heap.size < w'.heap.size := by omega)))
    have f1 := S5.a1
    have f2 := S5.w1
    have f3 := S5.a2
    have f4 := S5.w2
    go_wp2
    clear f1 f2 f3 f4
    rw [rounds_succ]
    by_cases hk : 0 < k5
    · have fa : ∀ w, (callFunc 110 #[.int .u64 0, .int .u64 k5, .int .u64 0]).run Tryz.prog w = .ok (.value (.tuple #[.int .u64 k5, .int .u64 0])) w := add64_zero _ (KU.out.2.1)
      go_wp2
      refine wp_loop_rounds 2 ?_
      rw [rounds_succ]
      go_wp2
      rw [rounds_succ]
      go_wp2
      clear fa
      refine name_rel (F := Code.rounds _ _ _ _ _) (fun wx => Below w4.heap.size w4 wx ∧ w4.heap.size < wx.heap.size ∧ (∀ o, wx.frozen? ⟨w4.heap.size, o, none⟩ = false) ∧ wx.cell? ⟨w4.heap.size, 0, none⟩ = some (.int .u64 0) ∧ wx.cell? ⟨w4.heap.size, 1, none⟩ = some (.int .u64 0) ∧ wx.cell? ⟨w4.heap.size, 2, none⟩ = some (.int .u64 k5) ∧ wx.cell? ⟨w4.heap.size, 3, none⟩ = some (.int .u64 s5) ∧ wx.cell? ⟨w4.heap.size, 4, none⟩ = some (.int .u64 s4) ∧ wx.cell? ⟨w4.heap.size, 5, none⟩ = some (.int .u64 s3)) ?_ ?_
      · refine ⟨by (repeat (first | exact Below.refl _ _ | refine bl_drewN ?_ | refine bl_drew ?_ | refine bl_alloc ?_ _ | refine Below.setCell ?_ (by (first | (simp; done) | (simp; omega) | omega)) _ | refine bl_step (by assumption) ?_)), ?_, ?_, ?_, ?_, ?_, ?_, ?_, ?_⟩
        all_goals (simp [go_sem, *]; done)
      intro w' ⟨hb, z, fz, g0, g1, g2, g3, g4, g5⟩
      (try replace hb := below_undrew hb); (try replace hb := below_undrewN hb); obtain ⟨hcell, hfroz⟩ := bcell hb; have hz := hb.size; (try simp at hz); (try (have z6 := Nat.lt_of_lt_of_le z7 hz)); (try (have z7 := Nat.lt_of_lt_of_le z8 hz)); (try (have z8 := Nat.lt_of_lt_of_le z9 hz)); (try (have z9 := Nat.lt_of_lt_of_le (Nat.lt_succ_self _) hz)); (try (have z0 : w.heap.size < w'.heap.size := by omega)); (try (have z1 : w.heap.size + 1 < w'.heap.size := by omega)); (try (have z2 : w.heap.size + 1 + 1 < w'.heap.size := by omega)); (try (have z3 : w.heap.size + 1 + 1 + 1 < w'.heap.size := by omega)); (try (have y1 : w1.heap.size < w'.heap.size := by omega)); (try (have y4 : w4.heap.size < w'.heap.size := by omega)); (try (have x1 : w1.heap.size + 1 < w'.heap.size := by omega)); (try (have x4 : w4.heap.size + 1 < w'.heap.size := by omega))
      rw [rounds_succ]
      go_wp2
      refine wp_loop_rounds 5 ?_
      rw [rounds_succ]
      go_wp2
      go_quiet ((go_at_call 67; (with_reducible exact quiet_same (S6.m _))))
      obtain ⟨w1, rfl⟩ : ∃ v, v = w' := ⟨_, rfl⟩
      (refine name_world (F := Exit.then _ _ _ _) ?_; intro w' hb; (try replace hb := below_undrew hb); (try replace hb := below_undrewN hb); obtain ⟨hcell, hfroz⟩ := bcell hb; have hz := hb.size; (try simp at hz); (try (have z6 := Nat.lt_of_lt_of_le z7 hz)); (try (have z7 := Nat.lt_of_lt_of_le z8 hz)); (try (have z8 := Nat.lt_of_lt_of_le z9 hz)); (try (have z9 := Nat.lt_of_lt_of_le (Nat.lt_succ_self _) hz)); (try (have z0 : w.heap.size < w'.heap.size := by omega)); (try (have z1 : w.heap.size + 1 < w'.heap.size := by omega)); (try (have z2 : w.heap.size + 1 + 1 < w'.heap.size := by omega)); (try (have z3 : w.heap.size + 1 + 1 + 1 < w'.heap.size := by omega)); (try (have y1 : w1.heap.size < w'.heap.size := by omega)); (try (have y4 : w4.heap.size < w'.heap.size := by omega)))
      have f1 := S6.a1
      have f2 := S6.w1
      have f3 := S6.a2
      have f4 := S6.w2
      go_wp2
      clear f1 f2 f3 f4
      rw [rounds_succ]
      go_wp2
      go_quiet ((go_at_call 67; (with_reducible exact quiet_same (S7.m _))))
      obtain ⟨w1, rfl⟩ : ∃ v, v = w' := ⟨_, rfl⟩
      (refine name_world (F := Exit.then _ _ _ _) ?_; intro w' hb; (try replace hb := below_undrew hb); (try replace hb := below_undrewN hb); obtain ⟨hcell, hfroz⟩ := bcell hb; have hz := hb.size; (try simp at hz); (try (have z6 := Nat.lt_of_lt_of_le z7 hz)); (try (have z7 := Nat.lt_of_lt_of_le z8 hz)); (try (have z8 := Nat.lt_of_lt_of_le z9 hz)); (try (have z9 := Nat.lt_of_lt_of_le (Nat.lt_succ_self _) hz)); (try (have z0 : w.heap.size < w'.heap.size := by omega)); (try (have z1 : w.heap.size + 1 < w'.heap.size := by omega)); (try (have z2 : w.heap.size + 1 + 1 < w'.heap.size := by omega)); (try (have z3 : w.heap.size + 1 + 1 + 1 < w'.heap.size := by omega)); (try (have y1 : w1.heap.size < w'.heap.size := by omega)); (try (have y4 : w4.heap.size < w'.heap.size := by omega)))
      have f1 := S7.a1
      have f2 := S7.w1
      have f3 := S7.a2
      have f4 := S7.w2
      go_wp2
      clear f1 f2 f3 f4
      rw [rounds_succ]
      go_wp2
      go_quiet ((go_at_call 67; (with_reducible exact quiet_same (S8.m _))))
      obtain ⟨w1, rfl⟩ : ∃ v, v = w' := ⟨_, rfl⟩
      (refine name_world (F := Exit.then _ _ _ _) ?_; intro w' hb; (try replace hb := below_undrew hb); (try replace hb := below_undrewN hb); obtain ⟨hcell, hfroz⟩ := bcell hb; have hz := hb.size; (try simp at hz); (try (have z6 := Nat.lt_of_lt_of_le z7 hz)); (try (have z7 := Nat.lt_of_lt_of_le z8 hz)); (try (have z8 := Nat.lt_of_lt_of_le z9 hz)); (try (have z9 := Nat.lt_of_lt_of_le (Nat.lt_succ_self _) hz)); (try (have z0 : w.heap.size < w'.heap.size := by omega)); (try (have z1 : w.heap.size + 1 < w'.heap.size := by omega)); (try (have z2 : w.heap.size + 1 + 1 < w'.heap.size := by omega)); (try (have z3 : w.heap.size + 1 + 1 + 1 < w'.heap.size := by omega)); (try (have y1 : w1.heap.size < w'.heap.size := by omega)); (try (have y4 : w4.heap.size < w'.heap.size := by omega)))
      have f1 := S8.a1
      have f2 := S8.w1
      have f3 := S8.a2
      have f4 := S8.w2
      go_wp2
      clear f1 f2 f3 f4
      rw [rounds_succ]
      go_wp2
      go_quiet ((go_at_call 67; (with_reducible exact quiet_same (S9.m _))))
      obtain ⟨w1, rfl⟩ : ∃ v, v = w' := ⟨_, rfl⟩
      (refine name_world (F := Exit.then _ _ _ _) ?_; intro w' hb; (try replace hb := below_undrew hb); (try replace hb := below_undrewN hb); obtain ⟨hcell, hfroz⟩ := bcell hb; have hz := hb.size; (try simp at hz); (try (have z6 := Nat.lt_of_lt_of_le z7 hz)); (try (have z7 := Nat.lt_of_lt_of_le z8 hz)); (try (have z8 := Nat.lt_of_lt_of_le z9 hz)); (try (have z9 := Nat.lt_of_lt_of_le (Nat.lt_succ_self _) hz)); (try (have z0 : w.heap.size < w'.heap.size := by omega)); (try (have z1 : w.heap.size + 1 < w'.heap.size := by omega)); (try (have z2 : w.heap.size + 1 + 1 < w'.heap.size := by omega)); (try (have z3 : w.heap.size + 1 + 1 + 1 < w'.heap.size := by omega)); (try (have y1 : w1.heap.size < w'.heap.size := by omega)); (try (have y4 : w4.heap.size < w'.heap.size := by omega)))
      have f1 := S9.a1
      have f2 := S9.w1
      have f3 := S9.a2
      have f4 := S9.w2
      go_wp2
      clear f1 f2 f3 f4
      rw [rounds_succ]
      by_cases hk : 0 < k9
      · have fa : ∀ w, (callFunc 110 #[.int .u64 0, .int .u64 k9, .int .u64 0]).run Tryz.prog w = .ok (.value (.tuple #[.int .u64 k9, .int .u64 0])) w := add64_zero _ (KU.out.2.2.1)
        go_wp2
        refine wp_loop_rounds 2 ?_
        rw [rounds_succ]
        go_wp2
        rw [rounds_succ]
        go_wp2
        clear fa
        refine name_rel (F := Code.rounds _ _ _ _ _) (fun wx => Below w4.heap.size w4 wx ∧ w4.heap.size < wx.heap.size ∧ (∀ o, wx.frozen? ⟨w4.heap.size, o, none⟩ = false) ∧ wx.cell? ⟨w4.heap.size, 0, none⟩ = some (.int .u64 0) ∧ wx.cell? ⟨w4.heap.size, 1, none⟩ = some (.int .u64 k9) ∧ wx.cell? ⟨w4.heap.size, 2, none⟩ = some (.int .u64 s9) ∧ wx.cell? ⟨w4.heap.size, 3, none⟩ = some (.int .u64 s8) ∧ wx.cell? ⟨w4.heap.size, 4, none⟩ = some (.int .u64 s7) ∧ wx.cell? ⟨w4.heap.size, 5, none⟩ = some (.int .u64 s6)) ?_ ?_
        · refine ⟨by (repeat (first | exact Below.refl _ _ | refine bl_drewN ?_ | refine bl_drew ?_ | refine bl_alloc ?_ _ | refine Below.setCell ?_ (by (first | (simp; done) | (simp; omega) | omega)) _ | refine bl_step (by assumption) ?_)), ?_, ?_, ?_, ?_, ?_, ?_, ?_, ?_⟩
          all_goals (simp [go_sem, *]; done)
        intro w' ⟨hb, z, fz, g0, g1, g2, g3, g4, g5⟩
        (try replace hb := below_undrew hb); (try replace hb := below_undrewN hb); obtain ⟨hcell, hfroz⟩ := bcell hb; have hz := hb.size; (try simp at hz); (try (have z6 := Nat.lt_of_lt_of_le z7 hz)); (try (have z7 := Nat.lt_of_lt_of_le z8 hz)); (try (have z8 := Nat.lt_of_lt_of_le z9 hz)); (try (have z9 := Nat.lt_of_lt_of_le (Nat.lt_succ_self _) hz)); (try (have z0 : w.heap.size < w'.heap.size := by omega)); (try (have z1 : w.heap.size + 1 < w'.heap.size := by omega)); (try (have z2 : w.heap.size + 1 + 1 < w'.heap.size := by omega)); (try (have z3 : w.heap.size + 1 + 1 + 1 < w'.heap.size := by omega)); (try (have y1 : w1.heap.size < w'.heap.size := by omega)); (try (have y4 : w4.heap.size < w'.heap.size := by omega)); (try (have x1 : w1.heap.size + 1 < w'.heap.size := by omega)); (try (have x4 : w4.heap.size + 1 < w'.heap.size := by omega))
        rw [rounds_succ]
        go_wp2
        refine wp_loop_rounds 5 ?_
        rw [rounds_succ]
        go_wp2
        go_quiet ((go_at_call 67; (with_reducible exact quiet_same (S10.m _))))
        obtain ⟨w1, rfl⟩ : ∃ v, v = w' := ⟨_, rfl⟩
        (refine name_world (F := Exit.then _ _ _ _) ?_; intro w' hb; (try replace hb := below_undrew hb); (try replace hb := below_undrewN hb); obtain ⟨hcell, hfroz⟩ := bcell hb; have hz := hb.size; (try simp at hz); (try (have z6 := Nat.lt_of_lt_of_le z7 hz)); (try (have z7 := Nat.lt_of_lt_of_le z8 hz)); (try (have z8 := Nat.lt_of_lt_of_le z9 hz)); (try (have z9 := Nat.lt_of_lt_of_le (Nat.lt_succ_self _) hz)); (try (have z0 : w.heap.size < w'.heap.size := by omega)); (try (have z1 : w.heap.size + 1 < w'.heap.size := by omega)); (try (have z2 : w.heap.size + 1 + 1 < w'.heap.size := by omega)); (try (have z3 : w.heap.size + 1 + 1 + 1 < w'.heap.size := by omega)); (try (have y1 : w1.heap.size < w'.heap.size := by omega)); (try (have y4 : w4.heap.size < w'.heap.size := by omega)))
        have f1 := S10.a1
        have f2 := S10.w1
        have f3 := S10.a2
        have f4 := S10.w2
        go_wp2
        clear f1 f2 f3 f4
        rw [rounds_succ]
        go_wp2
        go_quiet ((go_at_call 67; (with_reducible exact quiet_same (S11.m _))))
        obtain ⟨w1, rfl⟩ : ∃ v, v = w' := ⟨_, rfl⟩
        (refine name_world (F := Exit.then _ _ _ _) ?_; intro w' hb; (try replace hb := below_undrew hb); (try replace hb := below_undrewN hb); obtain ⟨hcell, hfroz⟩ := bcell hb; have hz := hb.size; (try simp at hz); (try (have z6 := Nat.lt_of_lt_of_le z7 hz)); (try (have z7 := Nat.lt_of_lt_of_le z8 hz)); (try (have z8 := Nat.lt_of_lt_of_le z9 hz)); (try (have z9 := Nat.lt_of_lt_of_le (Nat.lt_succ_self _) hz)); (try (have z0 : w.heap.size < w'.heap.size := by omega)); (try (have z1 : w.heap.size + 1 < w'.heap.size := by omega)); (try (have z2 : w.heap.size + 1 + 1 < w'.heap.size := by omega)); (try (have z3 : w.heap.size + 1 + 1 + 1 < w'.heap.size := by omega)); (try (have y1 : w1.heap.size < w'.heap.size := by omega)); (try (have y4 : w4.heap.size < w'.heap.size := by omega)))
        have f1 := S11.a1
        have f2 := S11.w1
        have f3 := S11.a2
        have f4 := S11.w2
        go_wp2
        clear f1 f2 f3 f4
        rw [rounds_succ]
        go_wp2
        go_quiet ((go_at_call 67; (with_reducible exact quiet_same (S12.m _))))
        obtain ⟨w1, rfl⟩ : ∃ v, v = w' := ⟨_, rfl⟩
        (refine name_world (F := Exit.then _ _ _ _) ?_; intro w' hb; (try replace hb := below_undrew hb); (try replace hb := below_undrewN hb); obtain ⟨hcell, hfroz⟩ := bcell hb; have hz := hb.size; (try simp at hz); (try (have z6 := Nat.lt_of_lt_of_le z7 hz)); (try (have z7 := Nat.lt_of_lt_of_le z8 hz)); (try (have z8 := Nat.lt_of_lt_of_le z9 hz)); (try (have z9 := Nat.lt_of_lt_of_le (Nat.lt_succ_self _) hz)); (try (have z0 : w.heap.size < w'.heap.size := by omega)); (try (have z1 : w.heap.size + 1 < w'.heap.size := by omega)); (try (have z2 : w.heap.size + 1 + 1 < w'.heap.size := by omega)); (try (have z3 : w.heap.size + 1 + 1 + 1 < w'.heap.size := by omega)); (try (have y1 : w1.heap.size < w'.heap.size := by omega)); (try (have y4 : w4.heap.size < w'.heap.size := by omega)))
        have f1 := S12.a1
        have f2 := S12.w1
        have f3 := S12.a2
        have f4 := S12.w2
        go_wp2
        clear f1 f2 f3 f4
        rw [rounds_succ]
        go_wp2
        go_quiet ((go_at_call 67; (with_reducible exact quiet_same (S13.m _))))
        obtain ⟨w1, rfl⟩ : ∃ v, v = w' := ⟨_, rfl⟩
        (refine name_world (F := Exit.then _ _ _ _) ?_; intro w' hb; (try replace hb := below_undrew hb); (try replace hb := below_undrewN hb); obtain ⟨hcell, hfroz⟩ := bcell hb; have hz := hb.size; (try simp at hz); (try (have z6 := Nat.lt_of_lt_of_le z7 hz)); (try (have z7 := Nat.lt_of_lt_of_le z8 hz)); (try (have z8 := Nat.lt_of_lt_of_le z9 hz)); (try (have z9 := Nat.lt_of_lt_of_le (Nat.lt_succ_self _) hz)); (try (have z0 : w.heap.size < w'.heap.size := by omega)); (try (have z1 : w.heap.size + 1 < w'.heap.size := by omega)); (try (have z2 : w.heap.size + 1 + 1 < w'.heap.size := by omega)); (try (have z3 : w.heap.size + 1 + 1 + 1 < w'.heap.size := by omega)); (try (have y1 : w1.heap.size < w'.heap.size := by omega)); (try (have y4 : w4.heap.size < w'.heap.size := by omega)))
        have f1 := S13.a1
        have f2 := S13.w1
        have f3 := S13.a2
        have f4 := S13.w2
        go_wp2
        clear f1 f2 f3 f4
        rw [rounds_succ]
        by_cases hk : 0 < k13
        · have fa : ∀ w, (callFunc 110 #[.int .u64 0, .int .u64 k13, .int .u64 0]).run Tryz.prog w = .ok (.value (.tuple #[.int .u64 k13, .int .u64 0])) w := add64_zero _ (KU.out.2.2.2)
          go_wp2
          refine wp_loop_rounds 2 ?_
          rw [rounds_succ]
          go_wp2
          rw [rounds_succ]
          go_wp2
          clear fa
          refine name_rel (F := Code.rounds _ _ _ _ _) (fun wx => Below w4.heap.size w4 wx ∧ w4.heap.size < wx.heap.size ∧ (∀ o, wx.frozen? ⟨w4.heap.size, o, none⟩ = false) ∧ wx.cell? ⟨w4.heap.size, 0, none⟩ = some (.int .u64 k13) ∧ wx.cell? ⟨w4.heap.size, 1, none⟩ = some (.int .u64 s13) ∧ wx.cell? ⟨w4.heap.size, 2, none⟩ = some (.int .u64 s12) ∧ wx.cell? ⟨w4.heap.size, 3, none⟩ = some (.int .u64 s11) ∧ wx.cell? ⟨w4.heap.size, 4, none⟩ = some (.int .u64 s10) ∧ wx.cell? ⟨w4.heap.size, 5, none⟩ = some (.int .u64 s6)) ?_ ?_
          · refine ⟨by (repeat (first | exact Below.refl _ _ | refine bl_drewN ?_ | refine bl_drew ?_ | refine bl_alloc ?_ _ | refine Below.setCell ?_ (by (first | (simp; done) | (simp; omega) | omega)) _ | refine bl_step (by assumption) ?_)), ?_, ?_, ?_, ?_, ?_, ?_, ?_, ?_⟩
            all_goals (simp [go_sem, *]; done)
          intro w' ⟨hb, z, fz, g0, g1, g2, g3, g4, g5⟩
          (try replace hb := below_undrew hb); (try replace hb := below_undrewN hb); obtain ⟨hcell, hfroz⟩ := bcell hb; have hz := hb.size; (try simp at hz); (try (have z6 := Nat.lt_of_lt_of_le z7 hz)); (try (have z7 := Nat.lt_of_lt_of_le z8 hz)); (try (have z8 := Nat.lt_of_lt_of_le z9 hz)); (try (have z9 := Nat.lt_of_lt_of_le (Nat.lt_succ_self _) hz)); (try (have z0 : w.heap.size < w'.heap.size := by omega)); (try (have z1 : w.heap.size + 1 < w'.heap.size := by omega)); (try (have z2 : w.heap.size + 1 + 1 < w'.heap.size := by omega)); (try (have z3 : w.heap.size + 1 + 1 + 1 < w'.heap.size := by omega)); (try (have y1 : w1.heap.size < w'.heap.size := by omega)); (try (have y4 : w4.heap.size < w'.heap.size := by omega)); (try (have x1 : w1.heap.size + 1 < w'.heap.size := by omega)); (try (have x4 : w4.heap.size + 1 < w'.heap.size := by omega))
          have arr := fun w => array_run ⟨w4.heap.size, 0, none⟩ w
          rw [rounds_succ]
          go_wp2
          exact bodyPost_ret (v := .agg #[.int .u64 k13, .int .u64 s13, .int .u64 s12, .int .u64 s11]) (by first | (simp only [results, Tryz.results105]; go_simp; done) | simp [results, Tryz.results105, go_sem, *]) rfl ⟨rfl, by (repeat (first | exact Below.refl _ _ | refine bl_drewN ?_ | refine bl_drew ?_ | refine bl_alloc ?_ _ | refine Below.setCell ?_ (by (first | (simp; done) | (simp; omega) | omega)) _ | refine bl_step (by assumption) ?_))⟩
        · obtain rfl : 0 = k13 := by have := KU.out.2.2.2; omega
          go_wp2
          refine wp_loop_rounds 2 ?_
          rw [rounds_succ]
          go_wp2
          refine name_rel (F := Code.rounds _ _ _ _ _) (fun wx => Below w4.heap.size w4 wx ∧ w4.heap.size < wx.heap.size ∧ (∀ o, wx.frozen? ⟨w4.heap.size, o, none⟩ = false) ∧ wx.cell? ⟨w4.heap.size, 0, none⟩ = some (.int .u64 0) ∧ wx.cell? ⟨w4.heap.size, 1, none⟩ = some (.int .u64 s13) ∧ wx.cell? ⟨w4.heap.size, 2, none⟩ = some (.int .u64 s12) ∧ wx.cell? ⟨w4.heap.size, 3, none⟩ = some (.int .u64 s11) ∧ wx.cell? ⟨w4.heap.size, 4, none⟩ = some (.int .u64 s10) ∧ wx.cell? ⟨w4.heap.size, 5, none⟩ = some (.int .u64 s6)) ?_ ?_
          · refine ⟨by (repeat (first | exact Below.refl _ _ | refine bl_drewN ?_ | refine bl_drew ?_ | refine bl_alloc ?_ _ | refine Below.setCell ?_ (by (first | (simp; done) | (simp; omega) | omega)) _ | refine bl_step (by assumption) ?_)), ?_, ?_, ?_, ?_, ?_, ?_, ?_, ?_⟩
            all_goals (simp [go_sem, *]; done)
          intro w' ⟨hb, z, fz, g0, g1, g2, g3, g4, g5⟩
          (try replace hb := below_undrew hb); (try replace hb := below_undrewN hb); obtain ⟨hcell, hfroz⟩ := bcell hb; have hz := hb.size; (try simp at hz); (try (have z6 := Nat.lt_of_lt_of_le z7 hz)); (try (have z7 := Nat.lt_of_lt_of_le z8 hz)); (try (have z8 := Nat.lt_of_lt_of_le z9 hz)); (try (have z9 := Nat.lt_of_lt_of_le (Nat.lt_succ_self _) hz)); (try (have z0 : w.heap.size < w'.heap.size := by omega)); (try (have z1 : w.heap.size + 1 < w'.heap.size := by omega)); (try (have z2 : w.heap.size + 1 + 1 < w'.heap.size := by omega)); (try (have z3 : w.heap.size + 1 + 1 + 1 < w'.heap.size := by omega)); (try (have y1 : w1.heap.size < w'.heap.size := by omega)); (try (have y4 : w4.heap.size < w'.heap.size := by omega)); (try (have x1 : w1.heap.size + 1 < w'.heap.size := by omega)); (try (have x4 : w4.heap.size + 1 < w'.heap.size := by omega))
          have arr := fun w => array_run ⟨w4.heap.size, 0, none⟩ w
          rw [rounds_succ]
          go_wp2
          exact bodyPost_ret (v := .agg #[.int .u64 0, .int .u64 s13, .int .u64 s12, .int .u64 s11]) (by first | (simp only [results, Tryz.results105]; go_simp; done) | simp [results, Tryz.results105, go_sem, *]) rfl ⟨rfl, by (repeat (first | exact Below.refl _ _ | refine bl_drewN ?_ | refine bl_drew ?_ | refine bl_alloc ?_ _ | refine Below.setCell ?_ (by (first | (simp; done) | (simp; omega) | omega)) _ | refine bl_step (by assumption) ?_))⟩
      · obtain rfl : 0 = k9 := by have := KU.out.2.2.1; omega
        go_wp2
        refine wp_loop_rounds 2 ?_
        rw [rounds_succ]
        go_wp2
        refine name_rel (F := Code.rounds _ _ _ _ _) (fun wx => Below w4.heap.size w4 wx ∧ w4.heap.size < wx.heap.size ∧ (∀ o, wx.frozen? ⟨w4.heap.size, o, none⟩ = false) ∧ wx.cell? ⟨w4.heap.size, 0, none⟩ = some (.int .u64 0) ∧ wx.cell? ⟨w4.heap.size, 1, none⟩ = some (.int .u64 0) ∧ wx.cell? ⟨w4.heap.size, 2, none⟩ = some (.int .u64 s9) ∧ wx.cell? ⟨w4.heap.size, 3, none⟩ = some (.int .u64 s8) ∧ wx.cell? ⟨w4.heap.size, 4, none⟩ = some (.int .u64 s7) ∧ wx.cell? ⟨w4.heap.size, 5, none⟩ = some (.int .u64 s6)) ?_ ?_
        · refine ⟨by (repeat (first | exact Below.refl _ _ | refine bl_drewN ?_ | refine bl_drew ?_ | refine bl_alloc ?_ _ | refine Below.setCell ?_ (by (first | (simp; done) | (simp; omega) | omega)) _ | refine bl_step (by assumption) ?_)), ?_, ?_, ?_, ?_, ?_, ?_, ?_, ?_⟩
          all_goals (simp [go_sem, *]; done)
        intro w' ⟨hb, z, fz, g0, g1, g2, g3, g4, g5⟩
        (try replace hb := below_undrew hb); (try replace hb := below_undrewN hb); obtain ⟨hcell, hfroz⟩ := bcell hb; have hz := hb.size; (try simp at hz); (try (have z6 := Nat.lt_of_lt_of_le z7 hz)); (try (have z7 := Nat.lt_of_lt_of_le z8 hz)); (try (have z8 := Nat.lt_of_lt_of_le z9 hz)); (try (have z9 := Nat.lt_of_lt_of_le (Nat.lt_succ_self _) hz)); (try (have z0 : w.heap.size < w'.heap.size := by omega)); (try (have z1 : w.heap.size + 1 < w'.heap.size := by omega)); (try (have z2 : w.heap.size + 1 + 1 < w'.heap.size := by omega)); (try (have z3 : w.heap.size + 1 + 1 + 1 < w'.heap.size := by omega)); (try (have y1 : w1.heap.size < w'.heap.size := by omega)); (try (have y4 : w4.heap.size < w'.heap.size := by omega)); (try (have x1 : w1.heap.size + 1 < w'.heap.size := by omega)); (try (have x4 : w4.heap.size + 1 < w'.heap.size := by omega))
        rw [rounds_succ]
        go_wp2
        refine wp_loop_rounds 5 ?_
        rw [rounds_succ]
        go_wp2
        go_quiet ((go_at_call 67; (with_reducible exact quiet_same (S10.m _))))
        obtain ⟨w1, rfl⟩ : ∃ v, v = w' := ⟨_, rfl⟩
        (refine name_world (F := Exit.then _ _ _ _) ?_; intro w' hb; (try replace hb := below_undrew hb); (try replace hb := below_undrewN hb); obtain ⟨hcell, hfroz⟩ := bcell hb; have hz := hb.size; (try simp at hz); (try (have z6 := Nat.lt_of_lt_of_le z7 hz)); (try (have z7 := Nat.lt_of_lt_of_le z8 hz)); (try (have z8 := Nat.lt_of_lt_of_le z9 hz)); (try (have z9 := Nat.lt_of_lt_of_le (Nat.lt_succ_self _) hz)); (try (have z0 : w.heap.size < w'.heap.size := by omega)); (try (have z1 : w.heap.size + 1 < w'.heap.size := by omega)); (try (have z2 : w.heap.size + 1 + 1 < w'.heap.size := by omega)); (try (have z3 : w.heap.size + 1 + 1 + 1 < w'.heap.size := by omega)); (try (have y1 : w1.heap.size < w'.heap.size := by omega)); (try (have y4 : w4.heap.size < w'.heap.size := by omega)))
        have f1 := S10.a1
        have f2 := S10.w1
        have f3 := S10.a2
        have f4 := S10.w2
        go_wp2
        clear f1 f2 f3 f4
        rw [rounds_succ]
        go_wp2
        go_quiet ((go_at_call 67; (with_reducible exact quiet_same (S11.m _))))
        obtain ⟨w1, rfl⟩ : ∃ v, v = w' := ⟨_, rfl⟩
        (refine name_world (F := Exit.then _ _ _ _) ?_; intro w' hb; (try replace hb := below_undrew hb); (try replace hb := below_undrewN hb); obtain ⟨hcell, hfroz⟩ := bcell hb; have hz := hb.size; (try simp at hz); (try (have z6 := Nat.lt_of_lt_of_le z7 hz)); (try (have z7 := Nat.lt_of_lt_of_le z8 hz)); (try (have z8 := Nat.lt_of_lt_of_le z9 hz)); (try (have z9 := Nat.lt_of_lt_of_le (Nat.lt_succ_self _) hz)); (try (have z0 : w.heap.size < w'.heap.size := by omega)); (try (have z1 : w.heap.size + 1 < w'.heap.size := by omega)); (try (have z2 : w.heap.size + 1 + 1 < w'.heap.size := by omega)); (try (have z3 : w.heap.size + 1 + 1 + 1 < w'.heap.size := by omega)); (try (have y1 : w1.heap.size < w'.heap.size := by omega)); (try (have y4 : w4.heap.size < w'.heap.size := by omega)))
        have f1 := S11.a1
        have f2 := S11.w1
        have f3 := S11.a2
        have f4 := S11.w2
        go_wp2
        clear f1 f2 f3 f4
        rw [rounds_succ]
        go_wp2
        go_quiet ((go_at_call 67; (with_reducible exact quiet_same (S12.m _))))
        obtain ⟨w1, rfl⟩ : ∃ v, v = w' := ⟨_, rfl⟩
        (refine name_world (F := Exit.then _ _ _ _) ?_; intro w' hb; (try replace hb := below_undrew hb); (try replace hb := below_undrewN hb); obtain ⟨hcell, hfroz⟩ := bcell hb; have hz := hb.size; (try simp at hz); (try (have z6 := Nat.lt_of_lt_of_le z7 hz)); (try (have z7 := Nat.lt_of_lt_of_le z8 hz)); (try (have z8 := Nat.lt_of_lt_of_le z9 hz)); (try (have z9 := Nat.lt_of_lt_of_le (Nat.lt_succ_self _) hz)); (try (have z0 : w.heap.size < w'.heap.size := by omega)); (try (have z1 : w.heap.size + 1 < w'.heap.size := by omega)); (try (have z2 : w.heap.size + 1 + 1 < w'.heap.size := by omega)); (try (have z3 : w.heap.size + 1 + 1 + 1 < w'.heap.size := by omega)); (try (have y1 : w1.heap.size < w'.heap.size := by omega)); (try (have y4 : w4.heap.size < w'.heap.size := by omega)))
        have f1 := S12.a1
        have f2 := S12.w1
        have f3 := S12.a2
        have f4 := S12.w2
        go_wp2
        clear f1 f2 f3 f4
        rw [rounds_succ]
        go_wp2
        go_quiet ((go_at_call 67; (with_reducible exact quiet_same (S13.m _))))
        obtain ⟨w1, rfl⟩ : ∃ v, v = w' := ⟨_, rfl⟩
        (refine name_world (F := Exit.then _ _ _ _) ?_; intro w' hb; (try replace hb := below_undrew hb); (try replace hb := below_undrewN hb); obtain ⟨hcell, hfroz⟩ := bcell hb; have hz := hb.size; (try simp at hz); (try (have z6 := Nat.lt_of_lt_of_le z7 hz)); (try (have z7 := Nat.lt_of_lt_of_le z8 hz)); (try (have z8 := Nat.lt_of_lt_of_le z9 hz)); (try (have z9 := Nat.lt_of_lt_of_le (Nat.lt_succ_self _) hz)); (try (have z0 : w.heap.size < w'.heap.size := by omega)); (try (have z1 : w.heap.size + 1 < w'.heap.size := by omega)); (try (have z2 : w.heap.size + 1 + 1 < w'.heap.size := by omega)); (try (have z3 : w.heap.size + 1 + 1 + 1 < w'.heap.size := by omega)); (try (have y1 : w1.heap.size < w'.heap.size := by omega)); (try (have y4 : w4.heap.size < w'.heap.size := by omega)))
        have f1 := S13.a1
        have f2 := S13.w1
        have f3 := S13.a2
        have f4 := S13.w2
        go_wp2
        clear f1 f2 f3 f4
        rw [rounds_succ]
        by_cases hk : 0 < k13
        · have fa : ∀ w, (callFunc 110 #[.int .u64 0, .int .u64 k13, .int .u64 0]).run Tryz.prog w = .ok (.value (.tuple #[.int .u64 k13, .int .u64 0])) w := add64_zero _ (KU.out.2.2.2)
          go_wp2
          refine wp_loop_rounds 2 ?_
          rw [rounds_succ]
          go_wp2
          rw [rounds_succ]
          go_wp2
          clear fa
          refine name_rel (F := Code.rounds _ _ _ _ _) (fun wx => Below w4.heap.size w4 wx ∧ w4.heap.size < wx.heap.size ∧ (∀ o, wx.frozen? ⟨w4.heap.size, o, none⟩ = false) ∧ wx.cell? ⟨w4.heap.size, 0, none⟩ = some (.int .u64 k13) ∧ wx.cell? ⟨w4.heap.size, 1, none⟩ = some (.int .u64 s13) ∧ wx.cell? ⟨w4.heap.size, 2, none⟩ = some (.int .u64 s12) ∧ wx.cell? ⟨w4.heap.size, 3, none⟩ = some (.int .u64 s11) ∧ wx.cell? ⟨w4.heap.size, 4, none⟩ = some (.int .u64 s10) ∧ wx.cell? ⟨w4.heap.size, 5, none⟩ = some (.int .u64 s6)) ?_ ?_
          · refine ⟨by (repeat (first | exact Below.refl _ _ | refine bl_drewN ?_ | refine bl_drew ?_ | refine bl_alloc ?_ _ | refine Below.setCell ?_ (by (first | (simp; done) | (simp; omega) | omega)) _ | refine bl_step (by assumption) ?_)), ?_, ?_, ?_, ?_, ?_, ?_, ?_, ?_⟩
            all_goals (simp [go_sem, *]; done)
          intro w' ⟨hb, z, fz, g0, g1, g2, g3, g4, g5⟩
          (try replace hb := below_undrew hb); (try replace hb := below_undrewN hb); obtain ⟨hcell, hfroz⟩ := bcell hb; have hz := hb.size; (try simp at hz); (try (have z6 := Nat.lt_of_lt_of_le z7 hz)); (try (have z7 := Nat.lt_of_lt_of_le z8 hz)); (try (have z8 := Nat.lt_of_lt_of_le z9 hz)); (try (have z9 := Nat.lt_of_lt_of_le (Nat.lt_succ_self _) hz)); (try (have z0 : w.heap.size < w'.heap.size := by omega)); (try (have z1 : w.heap.size + 1 < w'.heap.size := by omega)); (try (have z2 : w.heap.size + 1 + 1 < w'.heap.size := by omega)); (try (have z3 : w.heap.size + 1 + 1 + 1 < w'.heap.size := by omega)); (try (have y1 : w1.heap.size < w'.heap.size := by omega)); (try (have y4 : w4.heap.size < w'.heap.size := by omega)); (try (have x1 : w1.heap.size + 1 < w'.heap.size := by omega)); (try (have x4 : w4.heap.size + 1 < w'.heap.size := by omega))
          have arr := fun w => array_run ⟨w4.heap.size, 0, none⟩ w
          rw [rounds_succ]
          go_wp2
          exact bodyPost_ret (v := .agg #[.int .u64 k13, .int .u64 s13, .int .u64 s12, .int .u64 s11]) (by first | (simp only [results, Tryz.results105]; go_simp; done) | simp [results, Tryz.results105, go_sem, *]) rfl ⟨rfl, by (repeat (first | exact Below.refl _ _ | refine bl_drewN ?_ | refine bl_drew ?_ | refine bl_alloc ?_ _ | refine Below.setCell ?_ (by (first | (simp; done) | (simp; omega) | omega)) _ | refine bl_step (by assumption) ?_))⟩
        · obtain rfl : 0 = k13 := by have := KU.out.2.2.2; omega
          go_wp2
          refine wp_loop_rounds 2 ?_
          rw [rounds_succ]
          go_wp2
          refine name_rel (F := Code.rounds _ _ _ _ _) (fun wx => Below w4.heap.size w4 wx ∧ w4.heap.size < wx.heap.size ∧ (∀ o, wx.frozen? ⟨w4.heap.size, o, none⟩ = false) ∧ wx.cell? ⟨w4.heap.size, 0, none⟩ = some (.int .u64 0) ∧ wx.cell? ⟨w4.heap.size, 1, none⟩ = some (.int .u64 s13) ∧ wx.cell? ⟨w4.heap.size, 2, none⟩ = some (.int .u64 s12) ∧ wx.cell? ⟨w4.heap.size, 3, none⟩ = some (.int .u64 s11) ∧ wx.cell? ⟨w4.heap.size, 4, none⟩ = some (.int .u64 s10) ∧ wx.cell? ⟨w4.heap.size, 5, none⟩ = some (.int .u64 s6)) ?_ ?_
          · refine ⟨by (repeat (first | exact Below.refl _ _ | refine bl_drewN ?_ | refine bl_drew ?_ | refine bl_alloc ?_ _ | refine Below.setCell ?_ (by (first | (simp; done) | (simp; omega) | omega)) _ | refine bl_step (by assumption) ?_)), ?_, ?_, ?_, ?_, ?_, ?_, ?_, ?_⟩
            all_goals (simp [go_sem, *]; done)
          intro w' ⟨hb, z, fz, g0, g1, g2, g3, g4, g5⟩
          (try replace hb := below_undrew hb); (try replace hb := below_undrewN hb); obtain ⟨hcell, hfroz⟩ := bcell hb; have hz := hb.size; (try simp at hz); (try (have z6 := Nat.lt_of_lt_of_le z7 hz)); (try (have z7 := Nat.lt_of_lt_of_le z8 hz)); (try (have z8 := Nat.lt_of_lt_of_le z9 hz)); (try (have z9 := Nat.lt_of_lt_of_le (Nat.lt_succ_self _) hz)); (try (have z0 : w.heap.size < w'.heap.size := by omega)); (try (have z1 : w.heap.size + 1 < w'.heap.size := by omega)); (try (have z2 : w.heap.size + 1 + 1 < w'.heap.size := by omega)); (try (have z3 : w.heap.size + 1 + 1 + 1 < w'.heap.size := by omega)); (try (have y1 : w1.heap.size < w'.heap.size := by omega)); (try (have y4 : w4.heap.size < w'.heap.size := by omega)); (try (have x1 : w1.heap.size + 1 < w'.heap.size := by omega)); (try (have x4 : w4.heap.size + 1 < w'.heap.size := by omega))
          have arr := fun w => array_run ⟨w4.heap.size, 0, none⟩ w
          rw [rounds_succ]
          go_wp2
          exact bodyPost_ret (v := .agg #[.int .u64 0, .int .u64 s13, .int .u64 s12, .int .u64 s11]) (by first | (simp only [results, Tryz.results105]; go_simp; done) | simp [results, Tryz.results105, go_sem, *]) rfl ⟨rfl, by (repeat (first | exact Below.refl _ _ | refine bl_drewN ?_ | refine bl_drew ?_ | refine bl_alloc ?_ _ | refine Below.setCell ?_ (by (first | (simp; done) | (simp; omega) | omega)) _ | refine bl_step (by assumption) ?_))⟩
    · obtain rfl : 0 = k5 := by have := KU.out.2.1; omega
      go_wp2
      refine wp_loop_rounds 2 ?_
      rw [rounds_succ]
      go_wp2
      refine name_rel (F := Code.rounds _ _ _ _ _) (fun wx => Below w4.heap.size w4 wx ∧ w4.heap.size < wx.heap.size ∧ (∀ o, wx.frozen? ⟨w4.heap.size, o, none⟩ = false) ∧ wx.cell? ⟨w4.heap.size, 0, none⟩ = some (.int .u64 0) ∧ wx.cell? ⟨w4.heap.size, 1, none⟩ = some (.int .u64 0) ∧ wx.cell? ⟨w4.heap.size, 2, none⟩ = some (.int .u64 0) ∧ wx.cell? ⟨w4.heap.size, 3, none⟩ = some (.int .u64 s5) ∧ wx.cell? ⟨w4.heap.size, 4, none⟩ = some (.int .u64 s4) ∧ wx.cell? ⟨w4.heap.size, 5, none⟩ = some (.int .u64 s3)) ?_ ?_
      · refine ⟨by (repeat (first | exact Below.refl _ _ | refine bl_drewN ?_ | refine bl_drew ?_ | refine bl_alloc ?_ _ | refine Below.setCell ?_ (by (first | (simp; done) | (simp; omega) | omega)) _ | refine bl_step (by assumption) ?_)), ?_, ?_, ?_, ?_, ?_, ?_, ?_, ?_⟩
        all_goals (simp [go_sem, *]; done)
      intro w' ⟨hb, z, fz, g0, g1, g2, g3, g4, g5⟩
      (try replace hb := below_undrew hb); (try replace hb := below_undrewN hb); obtain ⟨hcell, hfroz⟩ := bcell hb; have hz := hb.size; (try simp at hz); (try (have z6 := Nat.lt_of_lt_of_le z7 hz)); (try (have z7 := Nat.lt_of_lt_of_le z8 hz)); (try (have z8 := Nat.lt_of_lt_of_le z9 hz)); (try (have z9 := Nat.lt_of_lt_of_le (Nat.lt_succ_self _) hz)); (try (have z0 : w.heap.size < w'.heap.size := by omega)); (try (have z1 : w.heap.size + 1 < w'.heap.size := by omega)); (try (have z2 : w.heap.size + 1 + 1 < w'.heap.size := by omega)); (try (have z3 : w.heap.size + 1 + 1 + 1 < w'.heap.size := by omega)); (try (have y1 : w1.heap.size < w'.heap.size := by omega)); (try (have y4 : w4.heap.size < w'.heap.size := by omega)); (try (have x1 : w1.heap.size + 1 < w'.heap.size := by omega)); (try (have x4 : w4.heap.size + 1 < w'.heap.size := by omega))
      rw [rounds_succ]
      go_wp2
      refine wp_loop_rounds 5 ?_
      rw [rounds_succ]
      go_wp2
      go_quiet ((go_at_call 67; (with_reducible exact quiet_same (S6.m _))))
      obtain ⟨w1, rfl⟩ : ∃ v, v = w' := ⟨_, rfl⟩
      (refine name_world (F := Exit.then _ _ _ _) ?_; intro w' hb; (try replace hb := below_undrew hb); (try replace hb := below_undrewN hb); obtain ⟨hcell, hfroz⟩ := bcell hb; have hz := hb.size; (try simp at hz); (try (have z6 := Nat.lt_of_lt_of_le z7 hz)); (try (have z7 := Nat.lt_of_lt_of_le z8 hz)); (try (have z8 := Nat.lt_of_lt_of_le z9 hz)); (try (have z9 := Nat.lt_of_lt_of_le (Nat.lt_succ_self _) hz)); (try (have z0 : w.heap.size < w'.heap.size := by omega)); (try (have z1 : w.heap.size + 1 < w'.heap.size := by omega)); (try (have z2 : w.heap.size + 1 + 1 < w'.heap.size := by omega)); (try (have z3 : w.heap.size + 1 + 1 + 1 < w'.heap.size := by omega)); (try (have y1 : w1.heap.size < w'.heap.size := by omega)); (try (have y4 : w4.heap.size < w'.heap.size := by omega)))
      have f1 := S6.a1
      have f2 := S6.w1
      have f3 := S6.a2
      have f4 := S6.w2
      go_wp2
      clear f1 f2 f3 f4
      rw [rounds_succ]
      go_wp2
      go_quiet ((go_at_call 67; (with_reducible exact quiet_same (S7.m _))))
      obtain ⟨w1, rfl⟩ : ∃ v, v = w' := ⟨_, rfl⟩
      (refine name_world (F := Exit.then _ _ _ _) ?_; intro w' hb; (try replace hb := below_undrew hb); (try replace hb := below_undrewN hb); obtain ⟨hcell, hfroz⟩ := bcell hb; have hz := hb.size; (try simp at hz); (try (have z6 := Nat.lt_of_lt_of_le z7 hz)); (try (have z7 := Nat.lt_of_lt_of_le z8 hz)); (try (have z8 := Nat.lt_of_lt_of_le z9 hz)); (try (have z9 := Nat.lt_of_lt_of_le (Nat.lt_succ_self _) hz)); (try (have z0 : w.heap.size < w'.heap.size := by omega)); (try (have z1 : w.heap.size + 1 < w'.heap.size := by omega)); (try (have z2 : w.heap.size + 1 + 1 < w'.heap.size := by omega)); (try (have z3 : w.heap.size + 1 + 1 + 1 < w'.heap.size := by omega)); (try (have y1 : w1.heap.size < w'.heap.size := by omega)); (try (have y4 : w4.heap.size < w'.heap.size := by omega)))
      have f1 := S7.a1
      have f2 := S7.w1
      have f3 := S7.a2
      have f4 := S7.w2
      go_wp2
      clear f1 f2 f3 f4
      rw [rounds_succ]
      go_wp2
      go_quiet ((go_at_call 67; (with_reducible exact quiet_same (S8.m _))))
      obtain ⟨w1, rfl⟩ : ∃ v, v = w' := ⟨_, rfl⟩
      (refine name_world (F := Exit.then _ _ _ _) ?_; intro w' hb; (try replace hb := below_undrew hb); (try replace hb := below_undrewN hb); obtain ⟨hcell, hfroz⟩ := bcell hb; have hz := hb.size; (try simp at hz); (try (have z6 := Nat.lt_of_lt_of_le z7 hz)); (try (have z7 := Nat.lt_of_lt_of_le z8 hz)); (try (have z8 := Nat.lt_of_lt_of_le z9 hz)); (try (have z9 := Nat.lt_of_lt_of_le (Nat.lt_succ_self _) hz)); (try (have z0 : w.heap.size < w'.heap.size := by omega)); (try (have z1 : w.heap.size + 1 < w'.heap.size := by omega)); (try (have z2 : w.heap.size + 1 + 1 < w'.heap.size := by omega)); (try (have z3 : w.heap.size + 1 + 1 + 1 < w'.heap.size := by omega)); (try (have y1 : w1.heap.size < w'.heap.size := by omega)); (try (have y4 : w4.heap.size < w'.heap.size := by omega)))
      have f1 := S8.a1
      have f2 := S8.w1
      have f3 := S8.a2
      have f4 := S8.w2
      go_wp2
      clear f1 f2 f3 f4
      rw [rounds_succ]
      go_wp2
      go_quiet ((go_at_call 67; (with_reducible exact quiet_same (S9.m _))))
      obtain ⟨w1, rfl⟩ : ∃ v, v = w' := ⟨_, rfl⟩
      (refine name_world (F := Exit.then _ _ _ _) ?_; intro w' hb; (try replace hb := below_undrew hb); (try replace hb := below_undrewN hb); obtain ⟨hcell, hfroz⟩ := bcell hb; have hz := hb.size; (try simp at hz); (try (have z6 := Nat.lt_of_lt_of_le z7 hz)); (try (have z7 := Nat.lt_of_lt_of_le z8 hz)); (try (have z8 := Nat.lt_of_lt_of_le z9 hz)); (try (have z9 := Nat.lt_of_lt_of_le (Nat.lt_succ_self _) hz)); (try (have z0 : w.heap.size < w'.heap.size := by omega)); (try (have z1 : w.heap.size + 1 < w'.heap.size := by omega)); (try (have z2 : w.heap.size + 1 + 1 < w'.heap.size := by omega)); (try (have z3 : w.heap.size + 1 + 1 + 1 < w'.heap.size := by omega)); (try (have y1 : w1.heap.size < w'.heap.size := by omega)); (try (have y4 : w4.heap.size < w'.heap.size := by omega)))
      have f1 := S9.a1
      have f2 := S9.w1
      have f3 := S9.a2
      have f4 := S9.w2
      go_wp2
      clear f1 f2 f3 f4
      rw [rounds_succ]
      by_cases hk : 0 < k9
      · have fa : ∀ w, (callFunc 110 #[.int .u64 0, .int .u64 k9, .int .u64 0]).run Tryz.prog w = .ok (.value (.tuple #[.int .u64 k9, .int .u64 0])) w := add64_zero _ (KU.out.2.2.1)
        go_wp2
        refine wp_loop_rounds 2 ?_
        rw [rounds_succ]
        go_wp2
        rw [rounds_succ]
        go_wp2
        clear fa
        refine name_rel (F := Code.rounds _ _ _ _ _) (fun wx => Below w4.heap.size w4 wx ∧ w4.heap.size < wx.heap.size ∧ (∀ o, wx.frozen? ⟨w4.heap.size, o, none⟩ = false) ∧ wx.cell? ⟨w4.heap.size, 0, none⟩ = some (.int .u64 0) ∧ wx.cell? ⟨w4.heap.size, 1, none⟩ = some (.int .u64 k9) ∧ wx.cell? ⟨w4.heap.size, 2, none⟩ = some (.int .u64 s9) ∧ wx.cell? ⟨w4.heap.size, 3, none⟩ = some (.int .u64 s8) ∧ wx.cell? ⟨w4.heap.size, 4, none⟩ = some (.int .u64 s7) ∧ wx.cell? ⟨w4.heap.size, 5, none⟩ = some (.int .u64 s6)) ?_ ?_
        · refine ⟨by (repeat (first | exact Below.refl _ _ | refine bl_drewN ?_ | refine bl_drew ?_ | refine bl_alloc ?_ _ | refine Below.setCell ?_ (by (first | (simp; done) | (simp; omega) | omega)) _ | refine bl_step (by assumption) ?_)), ?_, ?_, ?_, ?_, ?_, ?_, ?_, ?_⟩
          all_goals (simp [go_sem, *]; done)
        intro w' ⟨hb, z, fz, g0, g1, g2, g3, g4, g5⟩
        (try replace hb := below_undrew hb); (try replace hb := below_undrewN hb); obtain ⟨hcell, hfroz⟩ := bcell hb; have hz := hb.size; (try simp at hz); (try (have z6 := Nat.lt_of_lt_of_le z7 hz)); (try (have z7 := Nat.lt_of_lt_of_le z8 hz)); (try (have z8 := Nat.lt_of_lt_of_le z9 hz)); (try (have z9 := Nat.lt_of_lt_of_le (Nat.lt_succ_self _) hz)); (try (have z0 : w.heap.size < w'.heap.size := by omega)); (try (have z1 : w.heap.size + 1 < w'.heap.size := by omega)); (try (have z2 : w.heap.size + 1 + 1 < w'.heap.size := by omega)); (try (have z3 : w.heap.size + 1 + 1 + 1 < w'.heap.size := by omega)); (try (have y1 : w1.heap.size < w'.heap.size := by omega)); (try (have y4 : w4.heap.size < w'.heap.size := by omega)); (try (have x1 : w1.heap.size + 1 < w'.heap.size := by omega)); (try (have x4 : w4.heap.size + 1 < w'.heap.size := by omega))
        rw [rounds_succ]
        go_wp2
        refine wp_loop_rounds 5 ?_
        rw [rounds_succ]
        go_wp2
        go_quiet ((go_at_call 67; (with_reducible exact quiet_same (S10.m _))))
        obtain ⟨w1, rfl⟩ : ∃ v, v = w' := ⟨_, rfl⟩
        (refine name_world (F := Exit.then _ _ _ _) ?_; intro w' hb; (try replace hb := below_undrew hb); (try replace hb := below_undrewN hb); obtain ⟨hcell, hfroz⟩ := bcell hb; have hz := hb.size; (try simp at hz); (try (have z6 := Nat.lt_of_lt_of_le z7 hz)); (try (have z7 := Nat.lt_of_lt_of_le z8 hz)); (try (have z8 := Nat.lt_of_lt_of_le z9 hz)); (try (have z9 := Nat.lt_of_lt_of_le (Nat.lt_succ_self _) hz)); (try (have z0 : w.heap.size < w'.heap.size := by omega)); (try (have z1 : w.heap.size + 1 < w'.heap.size := by omega)); (try (have z2 : w.heap.size + 1 + 1 < w'.heap.size := by omega)); (try (have z3 : w.heap.size + 1 + 1 + 1 < w'.heap.size := by omega)); (try (have y1 : w1.heap.size < w'.heap.size := by omega)); (try (have y4 : w4.heap.size < w'.heap.size := by omega)))
        have f1 := S10.a1
        have f2 := S10.w1
        have f3 := S10.a2
        have f4 := S10.w2
        go_wp2
        clear f1 f2 f3 f4
        rw [rounds_succ]
        go_wp2
        go_quiet ((go_at_call 67; (with_reducible exact quiet_same (S11.m _))))
        obtain ⟨w1, rfl⟩ : ∃ v, v = w' := ⟨_, rfl⟩
        (refine name_world (F := Exit.then _ _ _ _) ?_; intro w' hb; (try replace hb := below_undrew hb); (try replace hb := below_undrewN hb); obtain ⟨hcell, hfroz⟩ := bcell hb; have hz := hb.size; (try simp at hz); (try (have z6 := Nat.lt_of_lt_of_le z7 hz)); (try (have z7 := Nat.lt_of_lt_of_le z8 hz)); (try (have z8 := Nat.lt_of_lt_of_le z9 hz)); (try (have z9 := Nat.lt_of_lt_of_le (Nat.lt_succ_self _) hz)); (try (have z0 : w.heap.size < w'.heap.size := by omega)); (try (have z1 : w.heap.size + 1 < w'.heap.size := by omega)); (try (have z2 : w.heap.size + 1 + 1 < w'.heap.size := by omega)); (try (have z3 : w.heap.size + 1 + 1 + 1 < w'.heap.size := by omega)); (try (have y1 : w1.heap.size < w'.heap.size := by omega)); (try (have y4 : w4.heap.size < w'.heap.size := by omega)))
        have f1 := S11.a1
        have f2 := S11.w1
        have f3 := S11.a2
        have f4 := S11.w2
        go_wp2
        clear f1 f2 f3 f4
        rw [rounds_succ]
        go_wp2
        go_quiet ((go_at_call 67; (with_reducible exact quiet_same (S12.m _))))
        obtain ⟨w1, rfl⟩ : ∃ v, v = w' := ⟨_, rfl⟩
        (refine name_world (F := Exit.then _ _ _ _) ?_; intro w' hb; (try replace hb := below_undrew hb); (try replace hb := below_undrewN hb); obtain ⟨hcell, hfroz⟩ := bcell hb; have hz := hb.size; (try simp at hz); (try (have z6 := Nat.lt_of_lt_of_le z7 hz)); (try (have z7 := Nat.lt_of_lt_of_le z8 hz)); (try (have z8 := Nat.lt_of_lt_of_le z9 hz)); (try (have z9 := Nat.lt_of_lt_of_le (Nat.lt_succ_self _) hz)); (try (have z0 : w.heap.size < w'.heap.size := by omega)); (try (have z1 : w.heap.size + 1 < w'.heap.size := by omega)); (try (have z2 : w.heap.size + 1 + 1 < w'.heap.size := by omega)); (try (have z3 : w.heap.size + 1 + 1 + 1 < w'.heap.size := by omega)); (try (have y1 : w1.heap.size < w'.heap.size := by omega)); (try (have y4 : w4.heap.size < w'.heap.size := by omega)))
        have f1 := S12.a1
        have f2 := S12.w1
        have f3 := S12.a2
        have f4 := S12.w2
        go_wp2
        clear f1 f2 f3 f4
        rw [rounds_succ]
        go_wp2
        go_quiet ((go_at_call 67; (with_reducible exact quiet_same (S13.m _))))
        obtain ⟨w1, rfl⟩ : ∃ v, v = w' := ⟨_, rfl⟩
        (refine name_world (F := Exit.then _ _ _ _) ?_; intro w' hb; (try replace hb := below_undrew hb); (try replace hb := below_undrewN hb); obtain ⟨hcell, hfroz⟩ := bcell hb; have hz := hb.size; (try simp at hz); (try (have z6 := Nat.lt_of_lt_of_le z7 hz)); (try (have z7 := Nat.lt_of_lt_of_le z8 hz)); (try (have z8 := Nat.lt_of_lt_of_le z9 hz)); (try (have z9 := Nat.lt_of_lt_of_le (Nat.lt_succ_self _) hz)); (try (have z0 : w.heap.size < w'.heap.size := by omega)); (try (have z1 : w.heap.size + 1 < w'.heap.size := by omega)); (try (have z2 : w.heap.size + 1 + 1 < w'.heap.size := by omega)); (try (have z3 : w.heap.size + 1 + 1 + 1 < w'.heap.size := by omega)); (try (have y1 : w1.heap.size < w'.heap.size := by omega)); (try (have y4 : w4.heap.size < w'.heap.size := by omega)))
        have f1 := S13.a1
        have f2 := S13.w1
        have f3 := S13.a2
        have f4 := S13.w2
        go_wp2
        clear f1 f2 f3 f4
        rw [rounds_succ]
        by_cases hk : 0 < k13
        · have fa : ∀ w, (callFunc 110 #[.int .u64 0, .int .u64 k13, .int .u64 0]).run Tryz.prog w = .ok (.value (.tuple #[.int .u64 k13, .int .u64 0])) w := add64_zero _ (KU.out.2.2.2)
          go_wp2
          refine wp_loop_rounds 2 ?_
          rw [rounds_succ]
          go_wp2
          rw [rounds_succ]
          go_wp2
          clear fa
          refine name_rel (F := Code.rounds _ _ _ _ _) (fun wx => Below w4.heap.size w4 wx ∧ w4.heap.size < wx.heap.size ∧ (∀ o, wx.frozen? ⟨w4.heap.size, o, none⟩ = false) ∧ wx.cell? ⟨w4.heap.size, 0, none⟩ = some (.int .u64 k13) ∧ wx.cell? ⟨w4.heap.size, 1, none⟩ = some (.int .u64 s13) ∧ wx.cell? ⟨w4.heap.size, 2, none⟩ = some (.int .u64 s12) ∧ wx.cell? ⟨w4.heap.size, 3, none⟩ = some (.int .u64 s11) ∧ wx.cell? ⟨w4.heap.size, 4, none⟩ = some (.int .u64 s10) ∧ wx.cell? ⟨w4.heap.size, 5, none⟩ = some (.int .u64 s6)) ?_ ?_
          · refine ⟨by (repeat (first | exact Below.refl _ _ | refine bl_drewN ?_ | refine bl_drew ?_ | refine bl_alloc ?_ _ | refine Below.setCell ?_ (by (first | (simp; done) | (simp; omega) | omega)) _ | refine bl_step (by assumption) ?_)), ?_, ?_, ?_, ?_, ?_, ?_, ?_, ?_⟩
            all_goals (simp [go_sem, *]; done)
          intro w' ⟨hb, z, fz, g0, g1, g2, g3, g4, g5⟩
          (try replace hb := below_undrew hb); (try replace hb := below_undrewN hb); obtain ⟨hcell, hfroz⟩ := bcell hb; have hz := hb.size; (try simp at hz); (try (have z6 := Nat.lt_of_lt_of_le z7 hz)); (try (have z7 := Nat.lt_of_lt_of_le z8 hz)); (try (have z8 := Nat.lt_of_lt_of_le z9 hz)); (try (have z9 := Nat.lt_of_lt_of_le (Nat.lt_succ_self _) hz)); (try (have z0 : w.heap.size < w'.heap.size := by omega)); (try (have z1 : w.heap.size + 1 < w'.heap.size := by omega)); (try (have z2 : w.heap.size + 1 + 1 < w'.heap.size := by omega)); (try (have z3 : w.heap.size + 1 + 1 + 1 < w'.heap.size := by omega)); (try (have y1 : w1.heap.size < w'.heap.size := by omega)); (try (have y4 : w4.heap.size < w'.heap.size := by omega)); (try (have x1 : w1.heap.size + 1 < w'.heap.size := by omega)); (try (have x4 : w4.heap.size + 1 < w'.heap.size := by omega))
          have arr := fun w => array_run ⟨w4.heap.size, 0, none⟩ w
          rw [rounds_succ]
          go_wp2
          exact bodyPost_ret (v := .agg #[.int .u64 k13, .int .u64 s13, .int .u64 s12, .int .u64 s11]) (by first | (simp only [results, Tryz.results105]; go_simp; done) | simp [results, Tryz.results105, go_sem, *]) rfl ⟨rfl, by (repeat (first | exact Below.refl _ _ | refine bl_drewN ?_ | refine bl_drew ?_ | refine bl_alloc ?_ _ | refine Below.setCell ?_ (by (first | (simp; done) | (simp; omega) | omega)) _ | refine bl_step (by assumption) ?_))⟩
        · obtain rfl : 0 = k13 := by have := KU.out.2.2.2; omega
          go_wp2
          refine wp_loop_rounds 2 ?_
          rw [rounds_succ]
          go_wp2
          refine name_rel (F := Code.rounds _ _ _ _ _) (fun wx => Below w4.heap.size w4 wx ∧ w4.heap.size < wx.heap.size ∧ (∀ o, wx.frozen? ⟨w4.heap.size, o, none⟩ = false) ∧ wx.cell? ⟨w4.heap.size, 0, none⟩ = some (.int .u64 0) ∧ wx.cell? ⟨w4.heap.size, 1, none⟩ = some (.int .u64 s13) ∧ wx.cell? ⟨w4.heap.size, 2, none⟩ = some (.int .u64 s12) ∧ wx.cell? ⟨w4.heap.size, 3, none⟩ = some (.int .u64 s11) ∧ wx.cell? ⟨w4.heap.size, 4, none⟩ = some (.int .u64 s10) ∧ wx.cell? ⟨w4.heap.size, 5, none⟩ = some (.int .u64 s6)) ?_ ?_
          · refine ⟨by (repeat (first | exact Below.refl _ _ | refine bl_drewN ?_ | refine bl_drew ?_ | refine bl_alloc ?_ _ | refine Below.setCell ?_ (by (first | (simp; done) | (simp; omega) | omega)) _ | refine bl_step (by assumption) ?_)), ?_, ?_, ?_, ?_, ?_, ?_, ?_, ?_⟩
            all_goals (simp [go_sem, *]; done)
          intro w' ⟨hb, z, fz, g0, g1, g2, g3, g4, g5⟩
          (try replace hb := below_undrew hb); (try replace hb := below_undrewN hb); obtain ⟨hcell, hfroz⟩ := bcell hb; have hz := hb.size; (try simp at hz); (try (have z6 := Nat.lt_of_lt_of_le z7 hz)); (try (have z7 := Nat.lt_of_lt_of_le z8 hz)); (try (have z8 := Nat.lt_of_lt_of_le z9 hz)); (try (have z9 := Nat.lt_of_lt_of_le (Nat.lt_succ_self _) hz)); (try (have z0 : w.heap.size < w'.heap.size := by omega)); (try (have z1 : w.heap.size + 1 < w'.heap.size := by omega)); (try (have z2 : w.heap.size + 1 + 1 < w'.heap.size := by omega)); (try (have z3 : w.heap.size + 1 + 1 + 1 < w'.heap.size := by omega)); (try (have y1 : w1.heap.size < w'.heap.size := by omega)); (try (have y4 : w4.heap.size < w'.heap.size := by omega)); (try (have x1 : w1.heap.size + 1 < w'.heap.size := by omega)); (try (have x4 : w4.heap.size + 1 < w'.heap.size := by omega))
          have arr := fun w => array_run ⟨w4.heap.size, 0, none⟩ w
          rw [rounds_succ]
          go_wp2
          exact bodyPost_ret (v := .agg #[.int .u64 0, .int .u64 s13, .int .u64 s12, .int .u64 s11]) (by first | (simp only [results, Tryz.results105]; go_simp; done) | simp [results, Tryz.results105, go_sem, *]) rfl ⟨rfl, by (repeat (first | exact Below.refl _ _ | refine bl_drewN ?_ | refine bl_drew ?_ | refine bl_alloc ?_ _ | refine Below.setCell ?_ (by (first | (simp; done) | (simp; omega) | omega)) _ | refine bl_step (by assumption) ?_))⟩
      · obtain rfl : 0 = k9 := by have := KU.out.2.2.1; omega
        go_wp2
        refine wp_loop_rounds 2 ?_
        rw [rounds_succ]
        go_wp2
        refine name_rel (F := Code.rounds _ _ _ _ _) (fun wx => Below w4.heap.size w4 wx ∧ w4.heap.size < wx.heap.size ∧ (∀ o, wx.frozen? ⟨w4.heap.size, o, none⟩ = false) ∧ wx.cell? ⟨w4.heap.size, 0, none⟩ = some (.int .u64 0) ∧ wx.cell? ⟨w4.heap.size, 1, none⟩ = some (.int .u64 0) ∧ wx.cell? ⟨w4.heap.size, 2, none⟩ = some (.int .u64 s9) ∧ wx.cell? ⟨w4.heap.size, 3, none⟩ = some (.int .u64 s8) ∧ wx.cell? ⟨w4.heap.size, 4, none⟩ = some (.int .u64 s7) ∧ wx.cell? ⟨w4.heap.size, 5, none⟩ = some (.int .u64 s6)) ?_ ?_
        · refine ⟨by (repeat (first | exact Below.refl _ _ | refine bl_drewN ?_ | refine bl_drew ?_ | refine bl_alloc ?_ _ | refine Below.setCell ?_ (by (first | (simp; done) | (simp; omega) | omega)) _ | refine bl_step (by assumption) ?_)), ?_, ?_, ?_, ?_, ?_, ?_, ?_, ?_⟩
          all_goals (simp [go_sem, *]; done)
        intro w' ⟨hb, z, fz, g0, g1, g2, g3, g4, g5⟩
        (try replace hb := below_undrew hb); (try replace hb := below_undrewN hb); obtain ⟨hcell, hfroz⟩ := bcell hb; have hz := hb.size; (try simp at hz); (try (have z6 := Nat.lt_of_lt_of_le z7 hz)); (try (have z7 := Nat.lt_of_lt_of_le z8 hz)); (try (have z8 := Nat.lt_of_lt_of_le z9 hz)); (try (have z9 := Nat.lt_of_lt_of_le (Nat.lt_succ_self _) hz)); (try (have z0 : w.heap.size < w'.heap.size := by omega)); (try (have z1 : w.heap.size + 1 < w'.heap.size := by omega)); (try (have z2 : w.heap.size + 1 + 1 < w'.heap.size := by omega)); (try (have z3 : w.heap.size + 1 + 1 + 1 < w'.heap.size := by omega)); (try (have y1 : w1.heap.size < w'.heap.size := by omega)); (try (have y4 : w4.heap.size < w'.heap.size := by omega)); (try (have x1 : w1.heap.size + 1 < w'.heap.size := by omega)); (try (have x4 : w4.heap.size + 1 < w'.heap.size := by omega))
        rw [rounds_succ]
        go_wp2
        refine wp_loop_rounds 5 ?_
        rw [rounds_succ]
        go_wp2
        go_quiet ((go_at_call 67; (with_reducible exact quiet_same (S10.m _))))
        obtain ⟨w1, rfl⟩ : ∃ v, v = w' := ⟨_, rfl⟩
        (refine name_world (F := Exit.then _ _ _ _) ?_; intro w' hb; (try replace hb := below_undrew hb); (try replace hb := below_undrewN hb); obtain ⟨hcell, hfroz⟩ := bcell hb; have hz := hb.size; (try simp at hz); (try (have z6 := Nat.lt_of_lt_of_le z7 hz)); (try (have z7 := Nat.lt_of_lt_of_le z8 hz)); (try (have z8 := Nat.lt_of_lt_of_le z9 hz)); (try (have z9 := Nat.lt_of_lt_of_le (Nat.lt_succ_self _) hz)); (try (have z0 : w.heap.size < w'.heap.size := by omega)); (try (have z1 : w.heap.size + 1 < w'.heap.size := by omega)); (try (have z2 : w.heap.size + 1 + 1 < w'.heap.size := by omega)); (try (have z3 : w.heap.size + 1 + 1 + 1 < w'.heap.size := by omega)); (try (have y1 : w1.heap.size < w'.heap.size := by omega)); (try (have y4 : w4.heap.size < w'.heap.size := by omega)))
        have f1 := S10.a1
        have f2 := S10.w1
        have f3 := S10.a2
        have f4 := S10.w2
        go_wp2
        clear f1 f2 f3 f4
        rw [rounds_succ]
        go_wp2
        go_quiet ((go_at_call 67; (with_reducible exact quiet_same (S11.m _))))
        obtain ⟨w1, rfl⟩ : ∃ v, v = w' := ⟨_, rfl⟩
        (refine name_world (F := Exit.then _ _ _ _) ?_; intro w' hb; (try replace hb := below_undrew hb); (try replace hb := below_undrewN hb); obtain ⟨hcell, hfroz⟩ := bcell hb; have hz := hb.size; (try simp at hz); (try (have z6 := Nat.lt_of_lt_of_le z7 hz)); (try (have z7 := Nat.lt_of_lt_of_le z8 hz)); (try (have z8 := Nat.lt_of_lt_of_le z9 hz)); (try (have z9 := Nat.lt_of_lt_of_le (Nat.lt_succ_self _) hz)); (try (have z0 : w.heap.size < w'.heap.size := by omega)); (try (have z1 : w.heap.size + 1 < w'.heap.size := by omega)); (try (have z2 : w.heap.size + 1 + 1 < w'.heap.size := by omega)); (try (have z3 : w.heap.size + 1 + 1 + 1 < w'.heap.size := by omega)); (try (have y1 : w1.heap.size < w'.heap.size := by omega)); (try (have y4 : w4.heap.size < w'.heap.size := by omega)))
        have f1 := S11.a1
        have f2 := S11.w1
        have f3 := S11.a2
        have f4 := S11.w2
        go_wp2
        clear f1 f2 f3 f4
        rw [rounds_succ]
        go_wp2
        go_quiet ((go_at_call 67; (with_reducible exact quiet_same (S12.m _))))
        obtain ⟨w1, rfl⟩ : ∃ v, v = w' := ⟨_, rfl⟩
        (refine name_world (F := Exit.then _ _ _ _) ?_; intro w' hb; (try replace hb := below_undrew hb); (try replace hb := below_undrewN hb); obtain ⟨hcell, hfroz⟩ := bcell hb; have hz := hb.size; (try simp at hz); (try (have z6 := Nat.lt_of_lt_of_le z7 hz)); (try (have z7 := Nat.lt_of_lt_of_le z8 hz)); (try (have z8 := Nat.lt_of_lt_of_le z9 hz)); (try (have z9 := Nat.lt_of_lt_of_le (Nat.lt_succ_self _) hz)); (try (have z0 : w.heap.size < w'.heap.size := by omega)); (try (have z1 : w.heap.size + 1 < w'.heap.size := by omega)); (try (have z2 : w.heap.size + 1 + 1 < w'.heap.size := by omega)); (try (have z3 : w.heap.size + 1 + 1 + 1 < w'.heap.size := by omega)); (try (have y1 : w1.heap.size < w'.heap.size := by omega)); (try (have y4 : w4.heap.size < w'.heap.size := by omega)))
        have f1 := S12.a1
        have f2 := S12.w1
        have f3 := S12.a2
        have f4 := S12.w2
        go_wp2
        clear f1 f2 f3 f4
        rw [rounds_succ]
        go_wp2
        go_quiet ((go_at_call 67; (with_reducible exact quiet_same (S13.m _))))
        obtain ⟨w1, rfl⟩ : ∃ v, v = w' := ⟨_, rfl⟩
        (refine name_world (F := Exit.then _ _ _ _) ?_; intro w' hb; (try replace hb := below_undrew hb); (try replace hb := below_undrewN hb); obtain ⟨hcell, hfroz⟩ := bcell hb; have hz := hb.size; (try simp at hz); (try (have z6 := Nat.lt_of_lt_of_le z7 hz)); (try (have z7 := Nat.lt_of_lt_of_le z8 hz)); (try (have z8 := Nat.lt_of_lt_of_le z9 hz)); (try (have z9 := Nat.lt_of_lt_of_le (Nat.lt_succ_self _) hz)); (try (have z0 : w.heap.size < w'.heap.size := by omega)); (try (have z1 : w.heap.size + 1 < w'.heap.size := by omega)); (try (have z2 : w.heap.size + 1 + 1 < w'.heap.size := by omega)); (try (have z3 : w.heap.size + 1 + 1 + 1 < w'.heap.size := by omega)); (try (have y1 : w1.heap.size < w'.heap.size := by omega)); (try (have y4 : w4.heap.size < w'.heap.size := by omega)))
        have f1 := S13.a1
        have f2 := S13.w1
        have f3 := S13.a2
        have f4 := S13.w2
        go_wp2
        clear f1 f2 f3 f4
        rw [rounds_succ]
        by_cases hk : 0 < k13
        · have fa : ∀ w, (callFunc 110 #[.int .u64 0, .int .u64 k13, .int .u64 0]).run Tryz.prog w = .ok (.value (.tuple #[.int .u64 k13, .int .u64 0])) w := add64_zero _ (KU.out.2.2.2)
          go_wp2
          refine wp_loop_rounds 2 ?_
          rw [rounds_succ]
          go_wp2
          rw [rounds_succ]
          go_wp2
          clear fa
          refine name_rel (F := Code.rounds _ _ _ _ _) (fun wx => Below w4.heap.size w4 wx ∧ w4.heap.size < wx.heap.size ∧ (∀ o, wx.frozen? ⟨w4.heap.size, o, none⟩ = false) ∧ wx.cell? ⟨w4.heap.size, 0, none⟩ = some (.int .u64 k13) ∧ wx.cell? ⟨w4.heap.size, 1, none⟩ = some (.int .u64 s13) ∧ wx.cell? ⟨w4.heap.size, 2, none⟩ = some (.int .u64 s12) ∧ wx.cell? ⟨w4.heap.size, 3, none⟩ = some (.int .u64 s11) ∧ wx.cell? ⟨w4.heap.size, 4, none⟩ = some (.int .u64 s10) ∧ wx.cell? ⟨w4.heap.size, 5, none⟩ = some (.int .u64 s6)) ?_ ?_
          · refine ⟨by (repeat (first | exact Below.refl _ _ | refine bl_drewN ?_ | refine bl_drew ?_ | refine bl_alloc ?_ _ | refine Below.setCell ?_ (by (first | (simp; done) | (simp; omega) | omega)) _ | refine bl_step (by assumption) ?_)), ?_, ?_, ?_, ?_, ?_, ?_, ?_, ?_⟩
            all_goals (simp [go_sem, *]; done)
          intro w' ⟨hb, z, fz, g0, g1, g2, g3, g4, g5⟩
          (try replace hb := below_undrew hb); (try replace hb := below_undrewN hb); obtain ⟨hcell, hfroz⟩ := bcell hb; have hz := hb.size; (try simp at hz); (try (have z6 := Nat.lt_of_lt_of_le z7 hz)); (try (have z7 := Nat.lt_of_lt_of_le z8 hz)); (try (have z8 := Nat.lt_of_lt_of_le z9 hz)); (try (have z9 := Nat.lt_of_lt_of_le (Nat.lt_succ_self _) hz)); (try (have z0 : w.heap.size < w'.heap.size := by omega)); (try (have z1 : w.heap.size + 1 < w'.heap.size := by omega)); (try (have z2 : w.heap.size + 1 + 1 < w'.heap.size := by omega)); (try (have z3 : w.heap.size + 1 + 1 + 1 < w'.heap.size := by omega)); (try (have y1 : w1.heap.size < w'.heap.size := by omega)); (try (have y4 : w4.heap.size < w'.heap.size := by omega)); (try (have x1 : w1.heap.size + 1 < w'.heap.size := by omega)); (try (have x4 : w4.heap.size + 1 < w'.heap.size := by omega))
          have arr := fun w => array_run ⟨w4.heap.size, 0, none⟩ w
          rw [rounds_succ]
          go_wp2
          exact bodyPost_ret (v := .agg #[.int .u64 k13, .int .u64 s13, .int .u64 s12, .int .u64 s11]) (by first | (simp only [results, Tryz.results105]; go_simp; done) | simp [results, Tryz.results105, go_sem, *]) rfl ⟨rfl, by (repeat (first | exact Below.refl _ _ | refine bl_drewN ?_ | refine bl_drew ?_ | refine bl_alloc ?_ _ | refine Below.setCell ?_ (by (first | (simp; done) | (simp; omega) | omega)) _ | refine bl_step (by assumption) ?_))⟩
        · obtain rfl : 0 = k13 := by have := KU.out.2.2.2; omega
          go_wp2
          refine wp_loop_rounds 2 ?_
          rw [rounds_succ]
          go_wp2
          refine name_rel (F := Code.rounds _ _ _ _ _) (fun wx => Below w4.heap.size w4 wx ∧ w4.heap.size < wx.heap.size ∧ (∀ o, wx.frozen? ⟨w4.heap.size, o, none⟩ = false) ∧ wx.cell? ⟨w4.heap.size, 0, none⟩ = some (.int .u64 0) ∧ wx.cell? ⟨w4.heap.size, 1, none⟩ = some (.int .u64 s13) ∧ wx.cell? ⟨w4.heap.size, 2, none⟩ = some (.int .u64 s12) ∧ wx.cell? ⟨w4.heap.size, 3, none⟩ = some (.int .u64 s11) ∧ wx.cell? ⟨w4.heap.size, 4, none⟩ = some (.int .u64 s10) ∧ wx.cell? ⟨w4.heap.size, 5, none⟩ = some (.int .u64 s6)) ?_ ?_
          · refine ⟨by (repeat (first | exact Below.refl _ _ | refine bl_drewN ?_ | refine bl_drew ?_ | refine bl_alloc ?_ _ | refine Below.setCell ?_ (by (first | (simp; done) | (simp; omega) | omega)) _ | refine bl_step (by assumption) ?_)), ?_, ?_, ?_, ?_, ?_, ?_, ?_, ?_⟩
            all_goals (simp [go_sem, *]; done)
          intro w' ⟨hb, z, fz, g0, g1, g2, g3, g4, g5⟩
          (try replace hb := below_undrew hb); (try replace hb := below_undrewN hb); obtain ⟨hcell, hfroz⟩ := bcell hb; have hz := hb.size; (try simp at hz); (try (have z6 := Nat.lt_of_lt_of_le z7 hz)); (try (have z7 := Nat.lt_of_lt_of_le z8 hz)); (try (have z8 := Nat.lt_of_lt_of_le z9 hz)); (try (have z9 := Nat.lt_of_lt_of_le (Nat.lt_succ_self _) hz)); (try (have z0 : w.heap.size < w'.heap.size := by omega)); (try (have z1 : w.heap.size + 1 < w'.heap.size := by omega)); (try (have z2 : w.heap.size + 1 + 1 < w'.heap.size := by omega)); (try (have z3 : w.heap.size + 1 + 1 + 1 < w'.heap.size := by omega)); (try (have y1 : w1.heap.size < w'.heap.size := by omega)); (try (have y4 : w4.heap.size < w'.heap.size := by omega)); (try (have x1 : w1.heap.size + 1 < w'.heap.size := by omega)); (try (have x4 : w4.heap.size + 1 < w'.heap.size := by omega))
          have arr := fun w => array_run ⟨w4.heap.size, 0, none⟩ w
          rw [rounds_succ]
          go_wp2
          exact bodyPost_ret (v := .agg #[.int .u64 0, .int .u64 s13, .int .u64 s12, .int .u64 s11]) (by first | (simp only [results, Tryz.results105]; go_simp; done) | simp [results, Tryz.results105, go_sem, *]) rfl ⟨rfl, by (repeat (first | exact Below.refl _ _ | refine bl_drewN ?_ | refine bl_drew ?_ | refine bl_alloc ?_ _ | refine Below.setCell ?_ (by (first | (simp; done) | (simp; omega) | omega)) _ | refine bl_step (by assumption) ?_))⟩
  · obtain rfl : 0 = k2 := by have := KU.out.1; omega
    go_wp2
    refine wp_loop_rounds 2 ?_
    rw [rounds_succ]
    go_wp2
    refine name_rel (F := Code.rounds _ _ _ _ _) (fun wx => Below w4.heap.size w4 wx ∧ w4.heap.size < wx.heap.size ∧ (∀ o, wx.frozen? ⟨w4.heap.size, o, none⟩ = false) ∧ wx.cell? ⟨w4.heap.size, 0, none⟩ = some (.int .u64 0) ∧ wx.cell? ⟨w4.heap.size, 1, none⟩ = some (.int .u64 0) ∧ wx.cell? ⟨w4.heap.size, 2, none⟩ = some (.int .u64 0) ∧ wx.cell? ⟨w4.heap.size, 3, none⟩ = some (.int .u64 0) ∧ wx.cell? ⟨w4.heap.size, 4, none⟩ = some (.int .u64 s2) ∧ wx.cell? ⟨w4.heap.size, 5, none⟩ = some (.int .u64 s1)) ?_ ?_
    · refine ⟨by (repeat (first | exact Below.refl _ _ | refine bl_drewN ?_ | refine bl_drew ?_ | refine bl_alloc ?_ _ | refine Below.setCell ?_ (by (first | (simp; done) | (simp; omega) | omega)) _ | refine bl_step (by assumption) ?_)), ?_, ?_, ?_, ?_, ?_, ?_, ?_, ?_⟩
      all_goals (simp [go_sem, *]; done)
    intro w' ⟨hb, z, fz, g0, g1, g2, g3, g4, g5⟩
    (try replace hb := below_undrew hb); (try replace hb := below_undrewN hb); obtain ⟨hcell, hfroz⟩ := bcell hb; have hz := hb.size; (try simp at hz); (try (have z6 := Nat.lt_of_lt_of_le z7 hz)); (try (have z7 := Nat.lt_of_lt_of_le z8 hz)); (try (have z8 := Nat.lt_of_lt_of_le z9 hz)); (try (have z9 := Nat.lt_of_lt_of_le (Nat.lt_succ_self _) hz)); (try (have z0 : w.heap.size < w'.heap.size := by omega)); (try (have z1 : w.heap.size + 1 < w'.heap.size := by omega)); (try (have z2 : w.heap.size + 1 + 1 < w'.heap.size := by omega)); (try (have z3 : w.heap.size + 1 + 1 + 1 < w'.heap.size := by omega)); (try (have y1 : w1.heap.size < w'.heap.size := by omega)); (try (have y4 : w4.heap.size < w'.heap.size := by omega)); (try (have x1 : w1.heap.size + 1 < w'.heap.size := by omega)); (try (have x4 : w4.heap.size + 1 < w'.heap.size := by omega))
    rw [rounds_succ]
    go_wp2
    refine wp_loop_rounds 5 ?_
    rw [rounds_succ]
    go_wp2
    rw [rounds_succ]
    go_wp2
    go_quiet ((go_at_call 67; (with_reducible exact quiet_same (S3.m _))))
    obtain ⟨w1, rfl⟩ : ∃ v, v = w' := ⟨_, rfl⟩
    (refine name_world (F := Exit.then _ _ _ _) ?_; intro w' hb; (try replace hb := below_undrew hb); (try replace hb := below_undrewN hb); obtain ⟨hcell, hfroz⟩ := bcell hb; have hz := hb.size; (try simp at hz); (try (have z6 := Nat.lt_of_lt_of_le z7 hz)); (try (have z7 := Nat.lt_of_lt_of_le z8 hz)); (try (have z8 := Nat.lt_of_lt_of_le z9 hz)); (try (have z9 := Nat.lt_of_lt_of_le (Nat.lt_succ_self _) hz)); (try (have z0 : w.heap.size < w'.heap.size := by omega)); (try (have z1 : w.heap.size + 1 < w'.heap.size := by omega)); (try (have z2 : w.heap.size + 1 + 1 < w'.heap.size := by omega)); (try (have z3 : w.heap.size + 1 + 1 + 1 < w'.heap.size := by omega)); (try (have y1 : w1.heap.size < w'.heap.size := by omega)); (try (have y4 : w4.heap.size < w'.heap.size := by omega)))
    have f1 := S3.a1
    have f2 := S3.w1
    have f3 := S3.a2
    have f4 := S3.w2
    go_wp2
    clear f1 f2 f3 f4
    rw [rounds_succ]
    go_wp2
    go_quiet ((go_at_call 67; (with_reducible exact quiet_same (S4.m _))))
    obtain ⟨w1, rfl⟩ : ∃ v, v = w' := ⟨_, rfl⟩
    (refine name_world (F := Exit.then _ _ _ _) ?_; intro w' hb; (try replace hb := below_undrew hb); (try replace hb := below_undrewN hb); obtain ⟨hcell, hfroz⟩ := bcell hb; have hz := hb.size; (try simp at hz); (try (have z6 := Nat.lt_of_lt_of_le z7 hz)); (try (have z7 := Nat.lt_of_lt_of_le z8 hz)); (try (have z8 := Nat.lt_of_lt_of_le z9 hz)); (try (have z9 := Nat.lt_of_lt_of_le (Nat.lt_succ_self _) hz)); (try (have z0 : w.heap.size < w'.heap.size := by omega)); (try (have z1 : w.heap.size + 1 < w'.heap.size := by omega)); (try (have z2 : w.heap.size + 1 + 1 < w'.heap.size := by omega)); (try (have z3 : w.heap.size + 1 + 1 + 1 < w'.heap.size := by omega)); (try (have y1 : w1.heap.size < w'.heap.size := by omega)); (try (have y4 : w4.heap.size < w'.heap.size := by omega)))
    have f1 := S4.a1
    have f2 := S4.w1
    have f3 := S4.a2
    have f4 := S4.w2
    go_wp2
    clear f1 f2 f3 f4
    rw [rounds_succ]
    go_wp2
    go_quiet ((go_at_call 67; (with_reducible exact quiet_same (S5.m _))))
    obtain ⟨w1, rfl⟩ : ∃ v, v = w' := ⟨_, rfl⟩
    (refine name_world (F := Exit.then _ _ _ _) ?_; intro w' hb; (try replace hb := below_undrew hb); (try replace hb := below_undrewN hb); obtain ⟨hcell, hfroz⟩ := bcell hb; have hz := hb.size; (try simp at hz); (try (have z6 := Nat.lt_of_lt_of_le z7 hz)); (try (have z7 := Nat.lt_of_lt_of_le z8 hz)); (try (have z8 := Nat.lt_of_lt_of_le z9 hz)); (try (have z9 := Nat.lt_of_lt_of_le (Nat.lt_succ_self _) hz)); (try (have z0 : w.heap.size < w'.heap.size := by omega)); (try (have z1 : w.heap.size + 1 < w'.heap.size := by omega)); (try (have z2 : w.heap.size + 1 + 1 < w'.heap.size := by omega)); (try (have z3 : w.heap.size + 1 + 1 + 1 < w'.heap.size := by omega)); (try (have y1 : w1.heap.size < w'.heap.size := by omega)); (try (have y4 : w4.heap.size < w'.heap.size := by omega)))
    have f1 := S5.a1
    have f2 := S5.w1
    have f3 := S5.a2
    have f4 := S5.w2
    go_wp2
    clear f1 f2 f3 f4
    rw [rounds_succ]
    by_cases hk : 0 < k5
    · have fa : ∀ w, (callFunc 110 #[.int .u64 0, .int .u64 k5, .int .u64 0]).run Tryz.prog w = .ok (.value (.tuple #[.int .u64 k5, .int .u64 0])) w := add64_zero _ (KU.out.2.1)
      go_wp2
      refine wp_loop_rounds 2 ?_
      rw [rounds_succ]
      go_wp2
      rw [rounds_succ]
      go_wp2
      clear fa
      refine name_rel (F := Code.rounds _ _ _ _ _) (fun wx => Below w4.heap.size w4 wx ∧ w4.heap.size < wx.heap.size ∧ (∀ o, wx.frozen? ⟨w4.heap.size, o, none⟩ = false) ∧ wx.cell? ⟨w4.heap.size, 0, none⟩ = some (.int .u64 0) ∧ wx.cell? ⟨w4.heap.size, 1, none⟩ = some (.int .u64 0) ∧ wx.cell? ⟨w4.heap.size, 2, none⟩ = some (.int .u64 k5) ∧ wx.cell? ⟨w4.heap.size, 3, none⟩ = some (.int .u64 s5) ∧ wx.cell? ⟨w4.heap.size, 4, none⟩ = some (.int .u64 s4) ∧ wx.cell? ⟨w4.heap.size, 5, none⟩ = some (.int .u64 s3)) ?_ ?_
      · refine ⟨by (repeat (first | exact Below.refl _ _ | refine bl_drewN ?_ | refine bl_drew ?_ | refine bl_alloc ?_ _ | refine Below.setCell ?_ (by (first | (simp; done) | (simp; omega) | omega)) _ | refine bl_step (by assumption) ?_)), ?_, ?_, ?_, ?_, ?_, ?_, ?_, ?_⟩
        all_goals (simp [go_sem, *]; done)
      intro w' ⟨hb, z, fz, g0, g1, g2, g3, g4, g5⟩
      (try replace hb := below_undrew hb); (try replace hb := below_undrewN hb); obtain ⟨hcell, hfroz⟩ := bcell hb; have hz := hb.size; (try simp at hz); (try (have z6 := Nat.lt_of_lt_of_le z7 hz)); (try (have z7 := Nat.lt_of_lt_of_le z8 hz)); (try (have z8 := Nat.lt_of_lt_of_le z9 hz)); (try (have z9 := Nat.lt_of_lt_of_le (Nat.lt_succ_self _) hz)); (try (have z0 : w.heap.size < w'.heap.size := by omega)); (try (have z1 : w.heap.size + 1 < w'.heap.size := by omega)); (try (have z2 : w.heap.size + 1 + 1 < w'.heap.size := by omega)); (try (have z3 : w.heap.size + 1 + 1 + 1 < w'.heap.size := by omega)); (try (have y1 : w1.heap.size < w'.heap.size := by omega)); (try (have y4 : w4.heap.size < w'.heap.size := by omega)); (try (have x1 : w1.heap.size + 1 < w'.heap.size := by omega)); (try (have x4 : w4.heap.size + 1 < w'.heap.size := by omega))
      rw [rounds_succ]
      go_wp2
      refine wp_loop_rounds 5 ?_
      rw [rounds_succ]
      go_wp2
      go_quiet ((go_at_call 67; (with_reducible exact quiet_same (S6.m _))))
      obtain ⟨w1, rfl⟩ : ∃ v, v = w' := ⟨_, rfl⟩
      (refine name_world (F := Exit.then _ _ _ _) ?_; intro w' hb; (try replace hb := below_undrew hb); (try replace hb := below_undrewN hb); obtain ⟨hcell, hfroz⟩ := bcell hb; have hz := hb.size; (try simp at hz); (try (have z6 := Nat.lt_of_lt_of_le z7 hz)); (try (have z7 := Nat.lt_of_lt_of_le z8 hz)); (try (have z8 := Nat.lt_of_lt_of_le z9 hz)); (try (have z9 := Nat.lt_of_lt_of_le (Nat.lt_succ_self _) hz)); (try (have z0 : w.heap.size < w'.heap.size := by omega)); (try (have z1 : w.heap.size + 1 < w'.heap.size := by omega)); (try (have z2 : w.heap.size + 1 + 1 < w'.heap.size := by omega)); (try (have z3 : w.heap.size + 1 + 1 + 1 < w'.heap.size := by omega)); (try (have y1 : w1.heap.size < w'.heap.size := by omega)); (try (have y4 : w4.heap.size < w'.heap.size := by omega)))
      have f1 := S6.a1
      have f2 := S6.w1
      have f3 := S6.a2
      have f4 := S6.w2
      go_wp2
      clear f1 f2 f3 f4
      rw [rounds_succ]
      go_wp2
      go_quiet ((go_at_call 67; (with_reducible exact quiet_same (S7.m _))))
      obtain ⟨w1, rfl⟩ : ∃ v, v = w' := ⟨_, rfl⟩
      (refine name_world (F := Exit.then _ _ _ _) ?_; intro w' hb; (try replace hb := below_undrew hb); (try replace hb := below_undrewN hb); obtain ⟨hcell, hfroz⟩ := bcell hb; have hz := hb.size; (try simp at hz); (try (have z6 := Nat.lt_of_lt_of_le z7 hz)); (try (have z7 := Nat.lt_of_lt_of_le z8 hz)); (try (have z8 := Nat.lt_of_lt_of_le z9 hz)); (try (have z9 := Nat.lt_of_lt_of_le (Nat.lt_succ_self _) hz)); (try (have z0 : w.heap.size < w'.heap.size := by omega)); (try (have z1 : w.heap.size + 1 < w'.heap.size := by omega)); (try (have z2 : w.heap.size + 1 + 1 < w'.heap.size := by omega)); (try (have z3 : w.heap.size + 1 + 1 + 1 < w'.heap.size := by omega)); (try (have y1 : w1.heap.size < w'.heap.size := by omega)); (try (have y4 : w4.heap.size < w'.heap.size := by omega)))
      have f1 := S7.a1
      have f2 := S7.w1
      have f3 := S7.a2
      have f4 := S7.w2
      go_wp2
      clear f1 f2 f3 f4
      rw [rounds_succ]
      go_wp2
      go_quiet ((go_at_call 67; (with_reducible exact quiet_same (S8.m _))))
      obtain ⟨w1, rfl⟩ : ∃ v, v = w' := ⟨_, rfl⟩
      (refine name_world (F := Exit.then _ _ _ _) ?_; intro w' hb; (try replace hb := below_undrew hb); (try replace hb := below_undrewN hb); obtain ⟨hcell, hfroz⟩ := bcell hb; have hz := hb.size; (try simp at hz); (try (have z6 := Nat.lt_of_lt_of_le z7 hz)); (try (have z7 := Nat.lt_of_lt_of_le z8 hz)); (try (have z8 := Nat.lt_of_lt_of_le z9 hz)); (try (have z9 := Nat.lt_of_lt_of_le (Nat.lt_succ_self _) hz)); (try (have z0 : w.heap.size < w'.heap.size := by omega)); (try (have z1 : w.heap.size + 1 < w'.heap.size := by omega)); (try (have z2 : w.heap.size + 1 + 1 < w'.heap.size := by omega)); (try (have z3 : w.heap.size + 1 + 1 + 1 < w'.heap.size := by omega)); (try (have y1 : w1.heap.size < w'.heap.size := by omega)); (try (have y4 : w4.heap.size < w'.heap.size := by omega)))
      have f1 := S8.a1
      have f2 := S8.w1
      have f3 := S8.a2
      have f4 := S8.w2
      go_wp2
      clear f1 f2 f3 f4
      rw [rounds_succ]
      go_wp2
      go_quiet ((go_at_call 67; (with_reducible exact quiet_same (S9.m _))))
      obtain ⟨w1, rfl⟩ : ∃ v, v = w' := ⟨_, rfl⟩
      (refine name_world (F := Exit.then _ _ _ _) ?_; intro w' hb; (try replace hb := below_undrew hb); (try replace hb := below_undrewN hb); obtain ⟨hcell, hfroz⟩ := bcell hb; have hz := hb.size; (try simp at hz); (try (have z6 := Nat.lt_of_lt_of_le z7 hz)); (try (have z7 := Nat.lt_of_lt_of_le z8 hz)); (try (have z8 := Nat.lt_of_lt_of_le z9 hz)); (try (have z9 := Nat.lt_of_lt_of_le (Nat.lt_succ_self _) hz)); (try (have z0 : w.heap.size < w'.heap.size := by omega)); (try (have z1 : w.heap.size + 1 < w'.heap.size := by omega)); (try (have z2 : w.heap.size + 1 + 1 < w'.heap.size := by omega)); (try (have z3 : w.heap.size + 1 + 1 + 1 < w'.heap.size := by omega)); (try (have y1 : w1.heap.size < w'.heap.size := by omega)); (try (have y4 : w4.heap.size < w'.heap.size := by omega)))
      have f1 := S9.a1
      have f2 := S9.w1
      have f3 := S9.a2
      have f4 := S9.w2
      go_wp2
      clear f1 f2 f3 f4
      rw [rounds_succ]
      by_cases hk : 0 < k9
      · have fa : ∀ w, (callFunc 110 #[.int .u64 0, .int .u64 k9, .int .u64 0]).run Tryz.prog w = .ok (.value (.tuple #[.int .u64 k9, .int .u64 0])) w := add64_zero _ (KU.out.2.2.1)
        go_wp2
        refine wp_loop_rounds 2 ?_
        rw [rounds_succ]
        go_wp2
        rw [rounds_succ]
        go_wp2
        clear fa
        refine name_rel (F := Code.rounds _ _ _ _ _) (fun wx => Below w4.heap.size w4 wx ∧ w4.heap.size < wx.heap.size ∧ (∀ o, wx.frozen? ⟨w4.heap.size, o, none⟩ = false) ∧ wx.cell? ⟨w4.heap.size, 0, none⟩ = some (.int .u64 0) ∧ wx.cell? ⟨w4.heap.size, 1, none⟩ = some (.int .u64 k9) ∧ wx.cell? ⟨w4.heap.size, 2, none⟩ = some (.int .u64 s9) ∧ wx.cell? ⟨w4.heap.size, 3, none⟩ = some (.int .u64 s8) ∧ wx.cell? ⟨w4.heap.size, 4, none⟩ = some (.int .u64 s7) ∧ wx.cell? ⟨w4.heap.size, 5, none⟩ = some (.int .u64 s6)) ?_ ?_
        · refine ⟨by (repeat (first | exact Below.refl _ _ | refine bl_drewN ?_ | refine bl_drew ?_ | refine bl_alloc ?_ _ | refine Below.setCell ?_ (by (first | (simp; done) | (simp; omega) | omega)) _ | refine bl_step (by assumption) ?_)), ?_, ?_, ?_, ?_, ?_, ?_, ?_, ?_⟩
          all_goals (simp [go_sem, *]; done)
        intro w' ⟨hb, z, fz, g0, g1, g2, g3, g4, g5⟩
        (try replace hb := below_undrew hb); (try replace hb := below_undrewN hb); obtain ⟨hcell, hfroz⟩ := bcell hb; have hz := hb.size; (try simp at hz); (try (have z6 := Nat.lt_of_lt_of_le z7 hz)); (try (have z7 := Nat.lt_of_lt_of_le z8 hz)); (try (have z8 := Nat.lt_of_lt_of_le z9 hz)); (try (have z9 := Nat.lt_of_lt_of_le (Nat.lt_succ_self _) hz)); (try (have z0 : w.heap.size < w'.heap.size := by omega)); (try (have z1 : w.heap.size + 1 < w'.heap.size := by omega)); (try (have z2 : w.heap.size + 1 + 1 < w'.heap.size := by omega)); (try (have z3 : w.heap.size + 1 + 1 + 1 < w'.heap.size := by omega)); (try (have y1 : w1.heap.size < w'.heap.size := by omega)); (try (have y4 : w4.heap.size < w'.heap.size := by omega)); (try (have x1 : w1.heap.size + 1 < w'.heap.size := by omega)); (try (have x4 : w4.heap.size + 1 < w'.heap.size := by omega))
        rw [rounds_succ]
        go_wp2
        refine wp_loop_rounds 5 ?_
        rw [rounds_succ]
        go_wp2
        go_quiet ((go_at_call 67; (with_reducible exact quiet_same (S10.m _))))
        obtain ⟨w1, rfl⟩ : ∃ v, v = w' := ⟨_, rfl⟩
        (refine name_world (F := Exit.then _ _ _ _) ?_; intro w' hb; (try replace hb := below_undrew hb); (try replace hb := below_undrewN hb); obtain ⟨hcell, hfroz⟩ := bcell hb; have hz := hb.size; (try simp at hz); (try (have z6 := Nat.lt_of_lt_of_le z7 hz)); (try (have z7 := Nat.lt_of_lt_of_le z8 hz)); (try (have z8 := Nat.lt_of_lt_of_le z9 hz)); (try (have z9 := Nat.lt_of_lt_of_le (Nat.lt_succ_self _) hz)); (try (have z0 : w.heap.size < w'.heap.size := by omega)); (try (have z1 : w.heap.size + 1 < w'.heap.size := by omega)); (try (have z2 : w.heap.size + 1 + 1 < w'.heap.size := by omega)); (try (have z3 : w.heap.size + 1 + 1 + 1 < w'.heap.size := by omega)); (try (have y1 : w1.heap.size < w'.heap.size := by omega)); (try (have y4 : w4.heap.size < w'.heap.size := by omega)))
        have f1 := S10.a1
        have f2 := S10.w1
        have f3 := S10.a2
        have f4 := S10.w2
        go_wp2
        clear f1 f2 f3 f4
        rw [rounds_succ]
        go_wp2
        go_quiet ((go_at_call 67; (with_reducible exact quiet_same (S11.m _))))
        obtain ⟨w1, rfl⟩ : ∃ v, v = w' := ⟨_, rfl⟩
        (refine name_world (F := Exit.then _ _ _ _) ?_; intro w' hb; (try replace hb := below_undrew hb); (try replace hb := below_undrewN hb); obtain ⟨hcell, hfroz⟩ := bcell hb; have hz := hb.size; (try simp at hz); (try (have z6 := Nat.lt_of_lt_of_le z7 hz)); (try (have z7 := Nat.lt_of_lt_of_le z8 hz)); (try (have z8 := Nat.lt_of_lt_of_le z9 hz)); (try (have z9 := Nat.lt_of_lt_of_le (Nat.lt_succ_self _) hz)); (try (have z0 : w.heap.size < w'.heap.size := by omega)); (try (have z1 : w.heap.size + 1 < w'.heap.size := by omega)); (try (have z2 : w.heap.size + 1 + 1 < w'.heap.size := by omega)); (try (have z3 : w.heap.size + 1 + 1 + 1 < w'.heap.size := by omega)); (try (have y1 : w1.heap.size < w'.heap.size := by omega)); (try (have y4 : w4.heap.size < w'.heap.size := by omega)))
        have f1 := S11.a1
        have f2 := S11.w1
        have f3 := S11.a2
        have f4 := S11.w2
        go_wp2
        clear f1 f2 f3 f4
        rw [rounds_succ]
        go_wp2
        go_quiet ((go_at_call 67; (with_reducible exact quiet_same (S12.m _))))
        obtain ⟨w1, rfl⟩ : ∃ v, v = w' := ⟨_, rfl⟩
        (refine name_world (F := Exit.then _ _ _ _) ?_; intro w' hb; (try replace hb := below_undrew hb); (try replace hb := below_undrewN hb); obtain ⟨hcell, hfroz⟩ := bcell hb; have hz := hb.size; (try simp at hz); (try (have z6 := Nat.lt_of_lt_of_le z7 hz)); (try (have z7 := Nat.lt_of_lt_of_le z8 hz)); (try (have z8 := Nat.lt_of_lt_of_le z9 hz)); (try (have z9 := Nat.lt_of_lt_of_le (Nat.lt_succ_self _) hz)); (try (have z0 : w.heap.size < w'.heap.size := by omega)); (try (have z1 : w.heap.size + 1 < w'.heap.size := by omega)); (try (have z2 : w.heap.size + 1 + 1 < w'.heap.size := by omega)); (try (have z3 : w.heap.size + 1 + 1 + 1 < w'.heap.size := by omega)); (try (have y1 : w1.heap.size < w'.heap.size := by omega)); (try (have y4 : w4.heap.size < w'.heap.size := by omega)))
        have f1 := S12.a1
        have f2 := S12.w1
        have f3 := S12.a2
        have f4 := S12.w2
        go_wp2
        clear f1 f2 f3 f4
        rw [rounds_succ]
        go_wp2
        go_quiet ((go_at_call 67; (with_reducible exact quiet_same (S13.m _))))
        obtain ⟨w1, rfl⟩ : ∃ v, v = w' := ⟨_, rfl⟩
        (refine name_world (F := Exit.then _ _ _ _) ?_; intro w' hb; (try replace hb := below_undrew hb); (try replace hb := below_undrewN hb); obtain ⟨hcell, hfroz⟩ := bcell hb; have hz := hb.size; (try simp at hz); (try (have z6 := Nat.lt_of_lt_of_le z7 hz)); (try (have z7 := Nat.lt_of_lt_of_le z8 hz)); (try (have z8 := Nat.lt_of_lt_of_le z9 hz)); (try (have z9 := Nat.lt_of_lt_of_le (Nat.lt_succ_self _) hz)); (try (have z0 : w.heap.size < w'.heap.size := by omega)); (try (have z1 : w.heap.size + 1 < w'.heap.size := by omega)); (try (have z2 : w.heap.size + 1 + 1 < w'.heap.size := by omega)); (try (have z3 : w.heap.size + 1 + 1 + 1 < w'.heap.size := by omega)); (try (have y1 : w1.heap.size < w'.heap.size := by omega)); (try (have y4 : w4.heap.size < w'.heap.size := by omega)))
        have f1 := S13.a1
        have f2 := S13.w1
        have f3 := S13.a2
        have f4 := S13.w2
        go_wp2
        clear f1 f2 f3 f4
        rw [rounds_succ]
        by_cases hk : 0 < k13
        · have fa : ∀ w, (callFunc 110 #[.int .u64 0, .int .u64 k13, .int .u64 0]).run Tryz.prog w = .ok (.value (.tuple #[.int .u64 k13, .int .u64 0])) w := add64_zero _ (KU.out.2.2.2)
          go_wp2
          refine wp_loop_rounds 2 ?_
          rw [rounds_succ]
          go_wp2
          rw [rounds_succ]
          go_wp2
          clear fa
          refine name_rel (F := Code.rounds _ _ _ _ _) (fun wx => Below w4.heap.size w4 wx ∧ w4.heap.size < wx.heap.size ∧ (∀ o, wx.frozen? ⟨w4.heap.size, o, none⟩ = false) ∧ wx.cell? ⟨w4.heap.size, 0, none⟩ = some (.int .u64 k13) ∧ wx.cell? ⟨w4.heap.size, 1, none⟩ = some (.int .u64 s13) ∧ wx.cell? ⟨w4.heap.size, 2, none⟩ = some (.int .u64 s12) ∧ wx.cell? ⟨w4.heap.size, 3, none⟩ = some (.int .u64 s11) ∧ wx.cell? ⟨w4.heap.size, 4, none⟩ = some (.int .u64 s10) ∧ wx.cell? ⟨w4.heap.size, 5, none⟩ = some (.int .u64 s6)) ?_ ?_
          · refine ⟨by (repeat (first | exact Below.refl _ _ | refine bl_drewN ?_ | refine bl_drew ?_ | refine bl_alloc ?_ _ | refine Below.setCell ?_ (by (first | (simp; done) | (simp; omega) | omega)) _ | refine bl_step (by assumption) ?_)), ?_, ?_, ?_, ?_, ?_, ?_, ?_, ?_⟩
            all_goals (simp [go_sem, *]; done)
          intro w' ⟨hb, z, fz, g0, g1, g2, g3, g4, g5⟩
          (try replace hb := below_undrew hb); (try replace hb := below_undrewN hb); obtain ⟨hcell, hfroz⟩ := bcell hb; have hz := hb.size; (try simp at hz); (try (have z6 := Nat.lt_of_lt_of_le z7 hz)); (try (have z7 := Nat.lt_of_lt_of_le z8 hz)); (try (have z8 := Nat.lt_of_lt_of_le z9 hz)); (try (have z9 := Nat.lt_of_lt_of_le (Nat.lt_succ_self _) hz)); (try (have z0 : w.heap.size < w'.heap.size := by omega)); (try (have z1 : w.heap.size + 1 < w'.heap.size := by omega)); (try (have z2 : w.heap.size + 1 + 1 < w'.heap.size := by omega)); (try (have z3 : w.heap.size + 1 + 1 + 1 < w'.heap.size := by omega)); (try (have y1 : w1.heap.size < w'.heap.size := by omega)); (try (have y4 : w4.heap.size < w'.heap.size := by omega)); (try (have x1 : w1.heap.size + 1 < w'.heap.size := by omega)); (try (have x4 : w4.heap.size + 1 < w'.heap.size := by omega))
          have arr := fun w => array_run ⟨w4.heap.size, 0, none⟩ w
          rw [rounds_succ]
          go_wp2
          exact bodyPost_ret (v := .agg #[.int .u64 k13, .int .u64 s13, .int .u64 s12, .int .u64 s11]) (by first | (simp only [results, Tryz.results105]; go_simp; done) | simp [results, Tryz.results105, go_sem, *]) rfl ⟨rfl, by (repeat (first | exact Below.refl _ _ | refine bl_drewN ?_ | refine bl_drew ?_ | refine bl_alloc ?_ _ | refine Below.setCell ?_ (by (first | (simp; done) | (simp; omega) | omega)) _ | refine bl_step (by assumption) ?_))⟩
        · obtain rfl : 0 = k13 := by have := KU.out.2.2.2; omega
          go_wp2
          refine wp_loop_rounds 2 ?_
          rw [rounds_succ]
          go_wp2
          refine name_rel (F := Code.rounds _ _ _ _ _) (fun wx => Below w4.heap.size w4 wx ∧ w4.heap.size < wx.heap.size ∧ (∀ o, wx.frozen? ⟨w4.heap.size, o, none⟩ = false) ∧ wx.cell? ⟨w4.heap.size, 0, none⟩ = some (.int .u64 0) ∧ wx.cell? ⟨w4.heap.size, 1, none⟩ = some (.int .u64 s13) ∧ wx.cell? ⟨w4.heap.size, 2, none⟩ = some (.int .u64 s12) ∧ wx.cell? ⟨w4.heap.size, 3, none⟩ = some (.int .u64 s11) ∧ wx.cell? ⟨w4.heap.size, 4, none⟩ = some (.int .u64 s10) ∧ wx.cell? ⟨w4.heap.size, 5, none⟩ = some (.int .u64 s6)) ?_ ?_
          · refine ⟨by (repeat (first | exact Below.refl _ _ | refine bl_drewN ?_ | refine bl_drew ?_ | refine bl_alloc ?_ _ | refine Below.setCell ?_ (by (first | (simp; done) | (simp; omega) | omega)) _ | refine bl_step (by assumption) ?_)), ?_, ?_, ?_, ?_, ?_, ?_, ?_, ?_⟩
            all_goals (simp [go_sem, *]; done)
          intro w' ⟨hb, z, fz, g0, g1, g2, g3, g4, g5⟩
          (try replace hb := below_undrew hb); (try replace hb := below_undrewN hb); obtain ⟨hcell, hfroz⟩ := bcell hb; have hz := hb.size; (try simp at hz); (try (have z6 := Nat.lt_of_lt_of_le z7 hz)); (try (have z7 := Nat.lt_of_lt_of_le z8 hz)); (try (have z8 := Nat.lt_of_lt_of_le z9 hz)); (try (have z9 := Nat.lt_of_lt_of_le (Nat.lt_succ_self _) hz)); (try (have z0 : w.heap.size < w'.heap.size := by omega)); (try (have z1 : w.heap.size + 1 < w'.heap.size := by omega)); (try (have z2 : w.heap.size + 1 + 1 < w'.heap.size := by omega)); (try (have z3 : w.heap.size + 1 + 1 + 1 < w'.heap.size := by omega)); (try (have y1 : w1.heap.size < w'.heap.size := by omega)); (try (have y4 : w4.heap.size < w'.heap.size := by omega)); (try (have x1 : w1.heap.size + 1 < w'.heap.size := by omega)); (try (have x4 : w4.heap.size + 1 < w'.heap.size := by omega))
          have arr := fun w => array_run ⟨w4.heap.size, 0, none⟩ w
          rw [rounds_succ]
          go_wp2
          exact bodyPost_ret (v := .agg #[.int .u64 0, .int .u64 s13, .int .u64 s12, .int .u64 s11]) (by first | (simp only [results, Tryz.results105]; go_simp; done) | simp [results, Tryz.results105, go_sem, *]) rfl ⟨rfl, by (repeat (first | exact Below.refl _ _ | refine bl_drewN ?_ | refine bl_drew ?_ | refine bl_alloc ?_ _ | refine Below.setCell ?_ (by (first | (simp; done) | (simp; omega) | omega)) _ | refine bl_step (by assumption) ?_))⟩
      · obtain rfl : 0 = k9 := by have := KU.out.2.2.1; omega
        go_wp2
        refine wp_loop_rounds 2 ?_
        rw [rounds_succ]
        go_wp2
        refine name_rel (F := Code.rounds _ _ _ _ _) (fun wx => Below w4.heap.size w4 wx ∧ w4.heap.size < wx.heap.size ∧ (∀ o, wx.frozen? ⟨w4.heap.size, o, none⟩ = false) ∧ wx.cell? ⟨w4.heap.size, 0, none⟩ = some (.int .u64 0) ∧ wx.cell? ⟨w4.heap.size, 1, none⟩ = some (.int .u64 0) ∧ wx.cell? ⟨w4.heap.size, 2, none⟩ = some (.int .u64 s9) ∧ wx.cell? ⟨w4.heap.size, 3, none⟩ = some (.int .u64 s8) ∧ wx.cell? ⟨w4.heap.size, 4, none⟩ = some (.int .u64 s7) ∧ wx.cell? ⟨w4.heap.size, 5, none⟩ = some (.int .u64 s6)) ?_ ?_
        · refine ⟨by (repeat (first | exact Below.refl _ _ | refine bl_drewN ?_ | refine bl_drew ?_ | refine bl_alloc ?_ _ | refine Below.setCell ?_ (by (first | (simp; done) | (simp; omega) | omega)) _ | refine bl_step (by assumption) ?_)), ?_, ?_, ?_, ?_, ?_, ?_, ?_, ?_⟩
          all_goals (simp [go_sem, *]; done)
        intro w' ⟨hb, z, fz, g0, g1, g2, g3, g4, g5⟩
        (try replace hb := below_undrew hb); (try replace hb := below_undrewN hb); obtain ⟨hcell, hfroz⟩ := bcell hb; have hz := hb.size; (try simp at hz); (try (have z6 := Nat.lt_of_lt_of_le z7 hz)); (try (have z7 := Nat.lt_of_lt_of_le z8 hz)); (try (have z8 := Nat.lt_of_lt_of_le z9 hz)); (try (have z9 := Nat.lt_of_lt_of_le (Nat.lt_succ_self _) hz)); (try (have z0 : w.heap.size < w'.heap.size := by omega)); (try (have z1 : w.heap.size + 1 < w'.heap.size := by omega)); (try (have z2 : w.heap.size + 1 + 1 < w'.heap.size := by omega)); (try (have z3 : w.heap.size + 1 + 1 + 1 < w'.heap.size := by omega)); (try (have y1 : w1.heap.size < w'.heap.size := by omega)); (try (have y4 : w4.heap.size < w'.heap.size := by omega)); (try (have x1 : w1.heap.size + 1 < w'.heap.size := by omega)); (try (have x4 : w4.heap.size + 1 < w'.heap.size := by omega))
        rw [rounds_succ]
        go_wp2
        refine wp_loop_rounds 5 ?_
        rw [rounds_succ]
        go_wp2
        go_quiet ((go_at_call 67; (with_reducible exact quiet_same (S10.m _))))
        obtain ⟨w1, rfl⟩ : ∃ v, v = w' := ⟨_, rfl⟩
        (refine name_world (F := Exit.then _ _ _ _) ?_; intro w' hb; (try replace hb := below_undrew hb); (try replace hb := below_undrewN hb); obtain ⟨hcell, hfroz⟩ := bcell hb; have hz := hb.size; (try simp at hz); (try (have z6 := Nat.lt_of_lt_of_le z7 hz)); (try (have z7 := Nat.lt_of_lt_of_le z8 hz)); (try (have z8 := Nat.lt_of_lt_of_le z9 hz)); (try (have z9 := Nat.lt_of_lt_of_le (Nat.lt_succ_self _) hz)); (try (have z0 : w.heap.size < w'.heap.size := by omega)); (try (have z1 : w.heap.size + 1 < w'.heap.size := by omega)); (try (have z2 : w.heap.size + 1 + 1 < w'.heap.size := by omega)); (try (have z3 : w.heap.size + 1 + 1 + 1 < w'.heap.size := by omega)); (try (have y1 : w1.heap.size < w'.heap.size := by omega)); (try (have y4 : w4.heap.size < w'.heap.size := by omega)))
        have f1 := S10.a1
        have f2 := S10.w1
        have f3 := S10.a2
        have f4 := S10.w2
        go_wp2
        clear f1 f2 f3 f4
        rw [rounds_succ]
        go_wp2
        go_quiet ((go_at_call 67; (with_reducible exact quiet_same (S11.m _))))
        obtain ⟨w1, rfl⟩ : ∃ v, v = w' := ⟨_, rfl⟩
        (refine name_world (F := Exit.then _ _ _ _) ?_; intro w' hb; (try replace hb := below_undrew hb); (try replace hb := below_undrewN hb); obtain ⟨hcell, hfroz⟩ := bcell hb; have hz := hb.size; (try simp at hz); (try (have z6 := Nat.lt_of_lt_of_le z7 hz)); (try (have z7 := Nat.lt_of_lt_of_le z8 hz)); (try (have z8 := Nat.lt_of_lt_of_le z9 hz)); (try (have z9 := Nat.lt_of_lt_of_le (Nat.lt_succ_self _) hz)); (try (have z0 : w.heap.size < w'.heap.size := by omega)); (try (have z1 : w.heap.size + 1 < w'.heap.size := by omega)); (try (have z2 : w.heap.size + 1 + 1 < w'.heap.size := by omega)); (try (have z3 : w.heap.size + 1 + 1 + 1 < w'.heap.size := by omega)); (try (have y1 : w1.heap.size < w'.heap.size := by omega)); (try (have y4 : w4.heap.size < w'.heap.size := by omega)))
        have f1 := S11.a1
        have f2 := S11.w1
        have f3 := S11.a2
        have f4 := S11.w2
        go_wp2
        clear f1 f2 f3 f4
        rw [rounds_succ]
        go_wp2
        go_quiet ((go_at_call 67; (with_reducible exact quiet_same (S12.m _))))
        obtain ⟨w1, rfl⟩ : ∃ v, v = w' := ⟨_, rfl⟩
        (refine name_world (F := Exit.then _ _ _ _) ?_; intro w' hb; (try replace hb := below_undrew hb); (try replace hb := below_undrewN hb); obtain ⟨hcell, hfroz⟩ := bcell hb; have hz := hb.size; (try simp at hz); (try (have z6 := Nat.lt_of_lt_of_le z7 hz)); (try (have z7 := Nat.lt_of_lt_of_le z8 hz)); (try (have z8 := Nat.lt_of_lt_of_le z9 hz)); (try (have z9 := Nat.lt_of_lt_of_le (Nat.lt_succ_self _) hz)); (try (have z0 : w.heap.size < w'.heap.size := by omega)); (try (have z1 : w.heap.size + 1 < w'.heap.size := by omega)); (try (have z2 : w.heap.size + 1 + 1 < w'.heap.size := by omega)); (try (have z3 : w.heap.size + 1 + 1 + 1 < w'.heap.size := by omega)); (try (have y1 : w1.heap.size < w'.heap.size := by omega)); (try (have y4 : w4.heap.size < w'.heap.size := by omega)))
        have f1 := S12.a1
        have f2 := S12.w1
        have f3 := S12.a2
        have f4 := S12.w2
        go_wp2
        clear f1 f2 f3 f4
        rw [rounds_succ]
        go_wp2
        go_quiet ((go_at_call 67; (with_reducible exact quiet_same (S13.m _))))
        obtain ⟨w1, rfl⟩ : ∃ v, v = w' := ⟨_, rfl⟩
        (refine name_world (F := Exit.then _ _ _ _) ?_; intro w' hb; (try replace hb := below_undrew hb); (try replace hb := below_undrewN hb); obtain ⟨hcell, hfroz⟩ := bcell hb; have hz := hb.size; (try simp at hz); (try (have z6 := Nat.lt_of_lt_of_le z7 hz)); (try (have z7 := Nat.lt_of_lt_of_le z8 hz)); (try (have z8 := Nat.lt_of_lt_of_le z9 hz)); (try (have z9 := Nat.lt_of_lt_of_le (Nat.lt_succ_self _) hz)); (try (have z0 : w.heap.size < w'.heap.size := by omega)); (try (have z1 : w.heap.size + 1 < w'.heap.size := by omega)); (try (have z2 : w.heap.size + 1 + 1 < w'.heap.size := by omega)); (try (have z3 : w.heap.size + 1 + 1 + 1 < w'.heap.size := by omega)); (try (have y1 : w1.heap.size < w'.heap.size := by omega)); (try (have y4 : w4.heap.size < w'.heap.size := by omega)))
        have f1 := S13.a1
        have f2 := S13.w1
        have f3 := S13.a2
        have f4 := S13.w2
        go_wp2
        clear f1 f2 f3 f4
        rw [rounds_succ]
        by_cases hk : 0 < k13
        · have fa : ∀ w, (callFunc 110 #[.int .u64 0, .int .u64 k13, .int .u64 0]).run Tryz.prog w = .ok (.value (.tuple #[.int .u64 k13, .int .u64 0])) w := add64_zero _ (KU.out.2.2.2)
          go_wp2
          refine wp_loop_rounds 2 ?_
          rw [rounds_succ]
          go_wp2
          rw [rounds_succ]
          go_wp2
          clear fa
          refine name_rel (F := Code.rounds _ _ _ _ _) (fun wx => Below w4.heap.size w4 wx ∧ w4.heap.size < wx.heap.size ∧ (∀ o, wx.frozen? ⟨w4.heap.size, o, none⟩ = false) ∧ wx.cell? ⟨w4.heap.size, 0, none⟩ = some (.int .u64 k13) ∧ wx.cell? ⟨w4.heap.size, 1, none⟩ = some (.int .u64 s13) ∧ wx.cell? ⟨w4.heap.size, 2, none⟩ = some (.int .u64 s12) ∧ wx.cell? ⟨w4.heap.size, 3, none⟩ = some (.int .u64 s11) ∧ wx.cell? ⟨w4.heap.size, 4, none⟩ = some (.int .u64 s10) ∧ wx.cell? ⟨w4.heap.size, 5, none⟩ = some (.int .u64 s6)) ?_ ?_
          · refine ⟨by (repeat (first | exact Below.refl _ _ | refine bl_drewN ?_ | refine bl_drew ?_ | refine bl_alloc ?_ _ | refine Below.setCell ?_ (by (first | (simp; done) | (simp; omega) | omega)) _ | refine bl_step (by assumption) ?_)), ?_, ?_, ?_, ?_, ?_, ?_, ?_, ?_⟩
            all_goals (simp [go_sem, *]; done)
          intro w' ⟨hb, z, fz, g0, g1, g2, g3, g4, g5⟩
          (try replace hb := below_undrew hb); (try replace hb := below_undrewN hb); obtain ⟨hcell, hfroz⟩ := bcell hb; have hz := hb.size; (try simp at hz); (try (have z6 := Nat.lt_of_lt_of_le z7 hz)); (try (have z7 := Nat.lt_of_lt_of_le z8 hz)); (try (have z8 := Nat.lt_of_lt_of_le z9 hz)); (try (have z9 := Nat.lt_of_lt_of_le (Nat.lt_succ_self _) hz)); (try (have z0 : w.heap.size < w'.heap.size := by omega)); (try (have z1 : w.heap.size + 1 < w'.heap.size := by omega)); (try (have z2 : w.heap.size + 1 + 1 < w'.heap.size := by omega)); (try (have z3 : w.heap.size + 1 + 1 + 1 < w'.heap.size := by omega)); (try (have y1 : w1.heap.size < w'.heap.size := by omega)); (try (have y4 : w4.heap.size < w'.heap.size := by omega)); (try (have x1 : w1.heap.size + 1 < w'.heap.size := by omega)); (try (have x4 : w4.heap.size + 1 < w'.heap.size := by omega))
          have arr := fun w => array_run ⟨w4.heap.size, 0, none⟩ w
          rw [rounds_succ]
          go_wp2
          exact bodyPost_ret (v := .agg #[.int .u64 k13, .int .u64 s13, .int .u64 s12, .int .u64 s11]) (by first | (simp only [results, Tryz.results105]; go_simp; done) | simp [results, Tryz.results105, go_sem, *]) rfl ⟨rfl, by (repeat (first | exact Below.refl _ _ | refine bl_drewN ?_ | refine bl_drew ?_ | refine bl_alloc ?_ _ | refine Below.setCell ?_ (by (first | (simp; done) | (simp; omega) | omega)) _ | refine bl_step (by assumption) ?_))⟩
        · obtain rfl : 0 = k13 := by have := KU.out.2.2.2; omega
          go_wp2
          refine wp_loop_rounds 2 ?_
          rw [rounds_succ]
          go_wp2
          refine name_rel (F := Code.rounds _ _ _ _ _) (fun wx => Below w4.heap.size w4 wx ∧ w4.heap.size < wx.heap.size ∧ (∀ o, wx.frozen? ⟨w4.heap.size, o, none⟩ = false) ∧ wx.cell? ⟨w4.heap.size, 0, none⟩ = some (.int .u64 0) ∧ wx.cell? ⟨w4.heap.size, 1, none⟩ = some (.int .u64 s13) ∧ wx.cell? ⟨w4.heap.size, 2, none⟩ = some (.int .u64 s12) ∧ wx.cell? ⟨w4.heap.size, 3, none⟩ = some (.int .u64 s11) ∧ wx.cell? ⟨w4.heap.size, 4, none⟩ = some (.int .u64 s10) ∧ wx.cell? ⟨w4.heap.size, 5, none⟩ = some (.int .u64 s6)) ?_ ?_
          · refine ⟨by (repeat (first | exact Below.refl _ _ | refine bl_drewN ?_ | refine bl_drew ?_ | refine bl_alloc ?_ _ | refine Below.setCell ?_ (by (first | (simp; done) | (simp; omega) | omega)) _ | refine bl_step (by assumption) ?_)), ?_, ?_, ?_, ?_, ?_, ?_, ?_, ?_⟩
            all_goals (simp [go_sem, *]; done)
          intro w' ⟨hb, z, fz, g0, g1, g2, g3, g4, g5⟩
          (try replace hb := below_undrew hb); (try replace hb := below_undrewN hb); obtain ⟨hcell, hfroz⟩ := bcell hb; have hz := hb.size; (try simp at hz); (try (have z6 := Nat.lt_of_lt_of_le z7 hz)); (try (have z7 := Nat.lt_of_lt_of_le z8 hz)); (try (have z8 := Nat.lt_of_lt_of_le z9 hz)); (try (have z9 := Nat.lt_of_lt_of_le (Nat.lt_succ_self _) hz)); (try (have z0 : w.heap.size < w'.heap.size := by omega)); (try (have z1 : w.heap.size + 1 < w'.heap.size := by omega)); (try (have z2 : w.heap.size + 1 + 1 < w'.heap.size := by omega)); (try (have z3 : w.heap.size + 1 + 1 + 1 < w'.heap.size := by omega)); (try (have y1 : w1.heap.size < w'.heap.size := by omega)); (try (have y4 : w4.heap.size < w'.heap.size := by omega)); (try (have x1 : w1.heap.size + 1 < w'.heap.size := by omega)); (try (have x4 : w4.heap.size + 1 < w'.heap.size := by omega))
          have arr := fun w => array_run ⟨w4.heap.size, 0, none⟩ w
          rw [rounds_succ]
          go_wp2
          exact bodyPost_ret (v := .agg #[.int .u64 0, .int .u64 s13, .int .u64 s12, .int .u64 s11]) (by first | (simp only [results, Tryz.results105]; go_simp; done) | simp [results, Tryz.results105, go_sem, *]) rfl ⟨rfl, by (repeat (first | exact Below.refl _ _ | refine bl_drewN ?_ | refine bl_drew ?_ | refine bl_alloc ?_ _ | refine Below.setCell ?_ (by (first | (simp; done) | (simp; omega) | omega)) _ | refine bl_step (by assumption) ?_))⟩
    · obtain rfl : 0 = k5 := by have := KU.out.2.1; omega
      go_wp2
      refine wp_loop_rounds 2 ?_
      rw [rounds_succ]
      go_wp2
      refine name_rel (F := Code.rounds _ _ _ _ _) (fun wx => Below w4.heap.size w4 wx ∧ w4.heap.size < wx.heap.size ∧ (∀ o, wx.frozen? ⟨w4.heap.size, o, none⟩ = false) ∧ wx.cell? ⟨w4.heap.size, 0, none⟩ = some (.int .u64 0) ∧ wx.cell? ⟨w4.heap.size, 1, none⟩ = some (.int .u64 0) ∧ wx.cell? ⟨w4.heap.size, 2, none⟩ = some (.int .u64 0) ∧ wx.cell? ⟨w4.heap.size, 3, none⟩ = some (.int .u64 s5) ∧ wx.cell? ⟨w4.heap.size, 4, none⟩ = some (.int .u64 s4) ∧ wx.cell? ⟨w4.heap.size, 5, none⟩ = some (.int .u64 s3)) ?_ ?_
      · refine ⟨by (repeat (first | exact Below.refl _ _ | refine bl_drewN ?_ | refine bl_drew ?_ | refine bl_alloc ?_ _ | refine Below.setCell ?_ (by (first | (simp; done) | (simp; omega) | omega)) _ | refine bl_step (by assumption) ?_)), ?_, ?_, ?_, ?_, ?_, ?_, ?_, ?_⟩
        all_goals (simp [go_sem, *]; done)
      intro w' ⟨hb, z, fz, g0, g1, g2, g3, g4, g5⟩
      (try replace hb := below_undrew hb); (try replace hb := below_undrewN hb); obtain ⟨hcell, hfroz⟩ := bcell hb; have hz := hb.size; (try simp at hz); (try (have z6 := Nat.lt_of_lt_of_le z7 hz)); (try (have z7 := Nat.lt_of_lt_of_le z8 hz)); (try (have z8 := Nat.lt_of_lt_of_le z9 hz)); (try (have z9 := Nat.lt_of_lt_of_le (Nat.lt_succ_self _) hz)); (try (have z0 : w.heap.size < w'.heap.size := by omega)); (try (have z1 : w.heap.size + 1 < w'.heap.size := by omega)); (try (have z2 : w.heap.size + 1 + 1 < w'.heap.size := by omega)); (try (have z3 : w.heap.size + 1 + 1 + 1 < w'.heap.size := by omega)); (try (have y1 : w1.heap.size < w'.heap.size := by omega)); (try (have y4 : w4.heap.size < w'.heap.size := by omega)); (try (have x1 : w1.heap.size + 1 < w'.heap.size := by omega)); (try (have x4 : w4.heap.size + 1 < w'.heap.size := by omega))
      rw [rounds_succ]
      go_wp2
      refine wp_loop_rounds 5 ?_
      rw [rounds_succ]
      go_wp2
      go_quiet ((go_at_call 67; (with_reducible exact quiet_same (S6.m _))))
      obtain ⟨w1, rfl⟩ : ∃ v, v = w' := ⟨_, rfl⟩
      (refine name_world (F := Exit.then _ _ _ _) ?_; intro w' hb; (try replace hb := below_undrew hb); (try replace hb := below_undrewN hb); obtain ⟨hcell, hfroz⟩ := bcell hb; have hz := hb.size; (try simp at hz); (try (have z6 := Nat.lt_of_lt_of_le z7 hz)); (try (have z7 := Nat.lt_of_lt_of_le z8 hz)); (try (have z8 := Nat.lt_of_lt_of_le z9 hz)); (try (have z9 := Nat.lt_of_lt_of_le (Nat.lt_succ_self _) hz)); (try (have z0 : w.heap.size < w'.heap.size := by omega)); (try (have z1 : w.heap.size + 1 < w'.heap.size := by omega)); (try (have z2 : w.heap.size + 1 + 1 < w'.heap.size := by omega)); (try (have z3 : w.heap.size + 1 + 1 + 1 < w'.heap.size := by omega)); (try (have y1 : w1.heap.size < w'.heap.size := by omega)); (try (have y4 : w4.heap.size < w'.heap.size := by omega)))
      have f1 := S6.a1
      have f2 := S6.w1
      have f3 := S6.a2
      have f4 := S6.w2
      go_wp2
      clear f1 f2 f3 f4
      rw [rounds_succ]
      go_wp2
      go_quiet ((go_at_call 67; (with_reducible exact quiet_same (S7.m _))))
      obtain ⟨w1, rfl⟩ : ∃ v, v = w' := ⟨_, rfl⟩
      (refine name_world (F := Exit.then _ _ _ _) ?_; intro w' hb; (try replace hb := below_undrew hb); (try replace hb := below_undrewN hb); obtain ⟨hcell, hfroz⟩ := bcell hb; have hz := hb.size; (try simp at hz); (try (have z6 := Nat.lt_of_lt_of_le z7 hz)); (try (have z7 := Nat.lt_of_lt_of_le z8 hz)); (try (have z8 := Nat.lt_of_lt_of_le z9 hz)); (try (have z9 := Nat.lt_of_lt_of_le (Nat.lt_succ_self _) hz)); (try (have z0 : w.heap.size < w'.heap.size := by omega)); (try (have z1 : w.heap.size + 1 < w'.heap.size := by omega)); (try (have z2 : w.heap.size + 1 + 1 < w'.heap.size := by omega)); (try (have z3 : w.heap.size + 1 + 1 + 1 < w'.heap.size := by omega)); (try (have y1 : w1.heap.size < w'.heap.size := by omega)); (try (have y4 : w4.heap.size < w'.heap.size := by omega)))
      have f1 := S7.a1
      have f2 := S7.w1
      have f3 := S7.a2
      have f4 := S7.w2
      go_wp2
      clear f1 f2 f3 f4
      rw [rounds_succ]
      go_wp2
      go_quiet ((go_at_call 67; (with_reducible exact quiet_same (S8.m _))))
      obtain ⟨w1, rfl⟩ : ∃ v, v = w' := ⟨_, rfl⟩
      (refine name_world (F := Exit.then _ _ _ _) ?_; intro w' hb; (try replace hb := below_undrew hb); (try replace hb := below_undrewN hb); obtain ⟨hcell, hfroz⟩ := bcell hb; have hz := hb.size; (try simp at hz); (try (have z6 := Nat.lt_of_lt_of_le z7 hz)); (try (have z7 := Nat.lt_of_lt_of_le z8 hz)); (try (have z8 := Nat.lt_of_lt_of_le z9 hz)); (try (have z9 := Nat.lt_of_lt_of_le (Nat.lt_succ_self _) hz)); (try (have z0 : w.heap.size < w'.heap.size := by omega)); (try (have z1 : w.heap.size + 1 < w'.heap.size := by omega)); (try (have z2 : w.heap.size + 1 + 1 < w'.heap.size := by omega)); (try (have z3 : w.heap.size + 1 + 1 + 1 < w'.heap.size := by omega)); (try (have y1 : w1.heap.size < w'.heap.size := by omega)); (try (have y4 : w4.heap.size < w'.heap.size := by omega)))
      have f1 := S8.a1
      have f2 := S8.w1
      have f3 := S8.a2
      have f4 := S8.w2
      go_wp2
      clear f1 f2 f3 f4
      rw [rounds_succ]
      go_wp2
      go_quiet ((go_at_call 67; (with_reducible exact quiet_same (S9.m _))))
      obtain ⟨w1, rfl⟩ : ∃ v, v = w' := ⟨_, rfl⟩
      (refine name_world (F := Exit.then _ _ _ _) ?_; intro w' hb; (try replace hb := below_undrew hb); (try replace hb := below_undrewN hb); obtain ⟨hcell, hfroz⟩ := bcell hb; have hz := hb.size; (try simp at hz); (try (have z6 := Nat.lt_of_lt_of_le z7 hz)); (try (have z7 := Nat.lt_of_lt_of_le z8 hz)); (try (have z8 := Nat.lt_of_lt_of_le z9 hz)); (try (have z9 := Nat.lt_of_lt_of_le (Nat.lt_succ_self _) hz)); (try (have z0 : w.heap.size < w'.heap.size := by omega)); (try (have z1 : w.heap.size + 1 < w'.heap.size := by omega)); (try (have z2 : w.heap.size + 1 + 1 < w'.heap.size := by omega)); (try (have z3 : w.heap.size + 1 + 1 + 1 < w'.heap.size := by omega)); (try (have y1 : w1.heap.size < w'.heap.size := by omega)); (try (have y4 : w4.heap.size < w'.heap.size := by omega)))
      have f1 := S9.a1
      have f2 := S9.w1
      have f3 := S9.a2
      have f4 := S9.w2
      go_wp2
      clear f1 f2 f3 f4
      rw [rounds_succ]
      by_cases hk : 0 < k9
      · have fa : ∀ w, (callFunc 110 #[.int .u64 0, .int .u64 k9, .int .u64 0]).run Tryz.prog w = .ok (.value (.tuple #[.int .u64 k9, .int .u64 0])) w := add64_zero _ (KU.out.2.2.1)
        go_wp2
        refine wp_loop_rounds 2 ?_
        rw [rounds_succ]
        go_wp2
        rw [rounds_succ]
        go_wp2
        clear fa
        refine name_rel (F := Code.rounds _ _ _ _ _) (fun wx => Below w4.heap.size w4 wx ∧ w4.heap.size < wx.heap.size ∧ (∀ o, wx.frozen? ⟨w4.heap.size, o, none⟩ = false) ∧ wx.cell? ⟨w4.heap.size, 0, none⟩ = some (.int .u64 0) ∧ wx.cell? ⟨w4.heap.size, 1, none⟩ = some (.int .u64 k9) ∧ wx.cell? ⟨w4.heap.size, 2, none⟩ = some (.int .u64 s9) ∧ wx.cell? ⟨w4.heap.size, 3, none⟩ = some (.int .u64 s8) ∧ wx.cell? ⟨w4.heap.size, 4, none⟩ = some (.int .u64 s7) ∧ wx.cell? ⟨w4.heap.size, 5, none⟩ = some (.int .u64 s6)) ?_ ?_
        · refine ⟨by (repeat (first | exact Below.refl _ _ | refine bl_drewN ?_ | refine bl_drew ?_ | refine bl_alloc ?_ _ | refine Below.setCell ?_ (by (first | (simp; done) | (simp; omega) | omega)) _ | refine bl_step (by assumption) ?_)), ?_, ?_, ?_, ?_, ?_, ?_, ?_, ?_⟩
          all_goals (simp [go_sem, *]; done)
        intro w' ⟨hb, z, fz, g0, g1, g2, g3, g4, g5⟩
        (try replace hb := below_undrew hb); (try replace hb := below_undrewN hb); obtain ⟨hcell, hfroz⟩ := bcell hb; have hz := hb.size; (try simp at hz); (try (have z6 := Nat.lt_of_lt_of_le z7 hz)); (try (have z7 := Nat.lt_of_lt_of_le z8 hz)); (try (have z8 := Nat.lt_of_lt_of_le z9 hz)); (try (have z9 := Nat.lt_of_lt_of_le (Nat.lt_succ_self _) hz)); (try (have z0 : w.heap.size < w'.heap.size := by omega)); (try (have z1 : w.heap.size + 1 < w'.heap.size := by omega)); (try (have z2 : w.heap.size + 1 + 1 < w'.heap.size := by omega)); (try (have z3 : w.heap.size + 1 + 1 + 1 < w'.heap.size := by omega)); (try (have y1 : w1.heap.size < w'.heap.size := by omega)); (try (have y4 : w4.heap.size < w'.heap.size := by omega)); (try (have x1 : w1.heap.size + 1 < w'.heap.size := by omega)); (try (have x4 : w4.heap.size + 1 < w'.heap.size := by omega))
        rw [rounds_succ]
        go_wp2
        refine wp_loop_rounds 5 ?_
        rw [rounds_succ]
        go_wp2
        go_quiet ((go_at_call 67; (with_reducible exact quiet_same (S10.m _))))
        obtain ⟨w1, rfl⟩ : ∃ v, v = w' := ⟨_, rfl⟩
        (refine name_world (F := Exit.then _ _ _ _) ?_; intro w' hb; (try replace hb := below_undrew hb); (try replace hb := below_undrewN hb); obtain ⟨hcell, hfroz⟩ := bcell hb; have hz := hb.size; (try simp at hz); (try (have z6 := Nat.lt_of_lt_of_le z7 hz)); (try (have z7 := Nat.lt_of_lt_of_le z8 hz)); (try (have z8 := Nat.lt_of_lt_of_le z9 hz)); (try (have z9 := Nat.lt_of_lt_of_le (Nat.lt_succ_self _) hz)); (try (have z0 : w.heap.size < w'.heap.size := by omega)); (try (have z1 : w.heap.size + 1 < w'.heap.size := by omega)); (try (have z2 : w.heap.size + 1 + 1 < w'.heap.size := by omega)); (try (have z3 : w.heap.size + 1 + 1 + 1 < w'.heap.size := by omega)); (try (have y1 : w1.heap.size < w'.heap.size := by omega)); (try (have y4 : w4.heap.size < w'.heap.size := by omega)))
        have f1 := S10.a1
        have f2 := S10.w1
        have f3 := S10.a2
        have f4 := S10.w2
        go_wp2
        clear f1 f2 f3 f4
        rw [rounds_succ]
        go_wp2
        go_quiet ((go_at_call 67; (with_reducible exact quiet_same (S11.m _))))
        obtain ⟨w1, rfl⟩ : ∃ v, v = w' := ⟨_, rfl⟩
        (refine name_world (F := Exit.then _ _ _ _) ?_; intro w' hb; (try replace hb := below_undrew hb); (try replace hb := below_undrewN hb); obtain ⟨hcell, hfroz⟩ := bcell hb; have hz := hb.size; (try simp at hz); (try (have z6 := Nat.lt_of_lt_of_le z7 hz)); (try (have z7 := Nat.lt_of_lt_of_le z8 hz)); (try (have z8 := Nat.lt_of_lt_of_le z9 hz)); (try (have z9 := Nat.lt_of_lt_of_le (Nat.lt_succ_self _) hz)); (try (have z0 : w.heap.size < w'.heap.size := by omega)); (try (have z1 : w.heap.size + 1 < w'.heap.size := by omega)); (try (have z2 : w.heap.size + 1 + 1 < w'.heap.size := by omega)); (try (have z3 : w.heap.size + 1 + 1 + 1 < w'.heap.size := by omega)); (try (have y1 : w1.heap.size < w'.heap.size := by omega)); (try (have y4 : w4.heap.size < w'.heap.size := by omega)))
        have f1 := S11.a1
        have f2 := S11.w1
        have f3 := S11.a2
        have f4 := S11.w2
        go_wp2
        clear f1 f2 f3 f4
        rw [rounds_succ]
        go_wp2
        go_quiet ((go_at_call 67; (with_reducible exact quiet_same (S12.m _))))
        obtain ⟨w1, rfl⟩ : ∃ v, v = w' := ⟨_, rfl⟩
        (refine name_world (F := Exit.then _ _ _ _) ?_; intro w' hb; (try replace hb := below_undrew hb); (try replace hb := below_undrewN hb); obtain ⟨hcell, hfroz⟩ := bcell hb; have hz := hb.size; (try simp at hz); (try (have z6 := Nat.lt_of_lt_of_le z7 hz)); (try (have z7 := Nat.lt_of_lt_of_le z8 hz)); (try (have z8 := Nat.lt_of_lt_of_le z9 hz)); (try (have z9 := Nat.lt_of_lt_of_le (Nat.lt_succ_self _) hz)); (try (have z0 : w.heap.size < w'.heap.size := by omega)); (try (have z1 : w.heap.size + 1 < w'.heap.size := by omega)); (try (have z2 : w.heap.size + 1 + 1 < w'.heap.size := by omega)); (try (have z3 : w.heap.size + 1 + 1 + 1 < w'.heap.size := by omega)); (try (have y1 : w1.heap.size < w'.heap.size := by omega)); (try (have y4 : w4.heap.size < w'.heap.size := by omega)))
        have f1 := S12.a1
        have f2 := S12.w1
        have f3 := S12.a2
        have f4 := S12.w2
        go_wp2
        clear f1 f2 f3 f4
        rw [rounds_succ]
        go_wp2
        go_quiet ((go_at_call 67; (with_reducible exact quiet_same (S13.m _))))
        obtain ⟨w1, rfl⟩ : ∃ v, v = w' := ⟨_, rfl⟩
        (refine name_world (F := Exit.then _ _ _ _) ?_; intro w' hb; (try replace hb := below_undrew hb); (try replace hb := below_undrewN hb); obtain ⟨hcell, hfroz⟩ := bcell hb; have hz := hb.size; (try simp at hz); (try (have z6 := Nat.lt_of_lt_of_le z7 hz)); (try (have z7 := Nat.lt_of_lt_of_le z8 hz)); (try (have z8 := Nat.lt_of_lt_of_le z9 hz)); (try (have z9 := Nat.lt_of_lt_of_le (Nat.lt_succ_self _) hz)); (try (have z0 : w.heap.size < w'.heap.size := by omega)); (try (have z1 : w.heap.size + 1 < w'.heap.size := by omega)); (try (have z2 : w.heap.size + 1 + 1 < w'.heap.size := by omega)); (try (have z3 : w.heap.size + 1 + 1 + 1 < w'.heap.size := by omega)); (try (have y1 : w1.heap.size < w'.heap.size := by omega)); (try (have y4 : w4.heap.size < w'.heap.size := by omega)))
        have f1 := S13.a1
        have f2 := S13.w1
        have f3 := S13.a2
        have f4 := S13.w2
        go_wp2
        clear f1 f2 f3 f4
        rw [rounds_succ]
        by_cases hk : 0 < k13
        · have fa : ∀ w, (callFunc 110 #[.int .u64 0, .int .u64 k13, .int .u64 0]).run Tryz.prog w = .ok (.value (.tuple #[.int .u64 k13, .int .u64 0])) w := add64_zero _ (KU.out.2.2.2)
          go_wp2
          refine wp_loop_rounds 2 ?_
          rw [rounds_succ]
          go_wp2
          rw [rounds_succ]
          go_wp2
          clear fa
          refine name_rel (F := Code.rounds _ _ _ _ _) (fun wx => Below w4.heap.size w4 wx ∧ w4.heap.size < wx.heap.size ∧ (∀ o, wx.frozen? ⟨w4.heap.size, o, none⟩ = false) ∧ wx.cell? ⟨w4.heap.size, 0, none⟩ = some (.int .u64 k13) ∧ wx.cell? ⟨w4.heap.size, 1, none⟩ = some (.int .u64 s13) ∧ wx.cell? ⟨w4.heap.size, 2, none⟩ = some (.int .u64 s12) ∧ wx.cell? ⟨w4.heap.size, 3, none⟩ = some (.int .u64 s11) ∧ wx.cell? ⟨w4.heap.size, 4, none⟩ = some (.int .u64 s10) ∧ wx.cell? ⟨w4.heap.size, 5, none⟩ = some (.int .u64 s6)) ?_ ?_
          · refine ⟨by (repeat (first | exact Below.refl _ _ | refine bl_drewN ?_ | refine bl_drew ?_ | refine bl_alloc ?_ _ | refine Below.setCell ?_ (by (first | (simp; done) | (simp; omega) | omega)) _ | refine bl_step (by assumption) ?_)), ?_, ?_, ?_, ?_, ?_, ?_, ?_, ?_⟩
            all_goals (simp [go_sem, *]; done)
          intro w' ⟨hb, z, fz, g0, g1, g2, g3, g4, g5⟩
          (try replace hb := below_undrew hb); (try replace hb := below_undrewN hb); obtain ⟨hcell, hfroz⟩ := bcell hb; have hz := hb.size; (try simp at hz); (try (have z6 := Nat.lt_of_lt_of_le z7 hz)); (try (have z7 := Nat.lt_of_lt_of_le z8 hz)); (try (have z8 := Nat.lt_of_lt_of_le z9 hz)); (try (have z9 := Nat.lt_of_lt_of_le (Nat.lt_succ_self _) hz)); (try (have z0 : w.heap.size < w'.heap.size := by omega)); (try (have z1 : w.heap.size + 1 < w'.heap.size := by omega)); (try (have z2 : w.heap.size + 1 + 1 < w'.heap.size := by omega)); (try (have z3 : w.heap.size + 1 + 1 + 1 < w'.heap.size := by omega)); (try (have y1 : w1.heap.size < w'.heap.size := by omega)); (try (have y4 : w4.heap.size < w'.heap.size := by omega)); (try (have x1 : w1.heap.size + 1 < w'.heap.size := by omega)); (try (have x4 : w4.heap.size + 1 < w'.heap.size := by omega))
          have arr := fun w => array_run ⟨w4.heap.size, 0, none⟩ w
          rw [rounds_succ]
          go_wp2
          exact bodyPost_ret (v := .agg #[.int .u64 k13, .int .u64 s13, .int .u64 s12, .int .u64 s11]) (by first | (simp only [results, Tryz.results105]; go_simp; done) | simp [results, Tryz.results105, go_sem, *]) rfl ⟨rfl, by (repeat (first | exact Below.refl _ _ | refine bl_drewN ?_ | refine bl_drew ?_ | refine bl_alloc ?_ _ | refine Below.setCell ?_ (by (first | (simp; done) | (simp; omega) | omega)) _ | refine bl_step (by assumption) ?_))⟩
        · obtain rfl : 0 = k13 := by have := KU.out.2.2.2; omega
          go_wp2
          refine wp_loop_rounds 2 ?_
          rw [rounds_succ]
          go_wp2
          refine name_rel (F := Code.rounds _ _ _ _ _) (fun wx => Below w4.heap.size w4 wx ∧ w4.heap.size < wx.heap.size ∧ (∀ o, wx.frozen? ⟨w4.heap.size, o, none⟩ = false) ∧ wx.cell? ⟨w4.heap.size, 0, none⟩ = some (.int .u64 0) ∧ wx.cell? ⟨w4.heap.size, 1, none⟩ = some (.int .u64 s13) ∧ wx.cell? ⟨w4.heap.size, 2, none⟩ = some (.int .u64 s12) ∧ wx.cell? ⟨w4.heap.size, 3, none⟩ = some (.int .u64 s11) ∧ wx.cell? ⟨w4.heap.size, 4, none⟩ = some (.int .u64 s10) ∧ wx.cell? ⟨w4.heap.size, 5, none⟩ = some (.int .u64 s6)) ?_ ?_
          · refine ⟨by (repeat (first | exact Below.refl _ _ | refine bl_drewN ?_ | refine bl_drew ?_ | refine bl_alloc ?_ _ | refine Below.setCell ?_ (by (first | (simp; done) | (simp; omega) | omega)) _ | refine bl_step (by assumption) ?_)), ?_, ?_, ?_, ?_, ?_, ?_, ?_, ?_⟩
            all_goals (simp [go_sem, *]; done)
          intro w' ⟨hb, z, fz, g0, g1, g2, g3, g4, g5⟩
          (try replace hb := below_undrew hb); (try replace hb := below_undrewN hb); obtain ⟨hcell, hfroz⟩ := bcell hb; have hz := hb.size; (try simp at hz); (try (have z6 := Nat.lt_of_lt_of_le z7 hz)); (try (have z7 := Nat.lt_of_lt_of_le z8 hz)); (try (have z8 := Nat.lt_of_lt_of_le z9 hz)); (try (have z9 := Nat.lt_of_lt_of_le (Nat.lt_succ_self _) hz)); (try (have z0 : w.heap.size < w'.heap.size := by omega)); (try (have z1 : w.heap.size + 1 < w'.heap.size := by omega)); (try (have z2 : w.heap.size + 1 + 1 < w'.heap.size := by omega)); (try (have z3 : w.heap.size + 1 + 1 + 1 < w'.heap.size := by omega)); (try (have y1 : w1.heap.size < w'.heap.size := by omega)); (try (have y4 : w4.heap.size < w'.heap.size := by omega)); (try (have x1 : w1.heap.size + 1 < w'.heap.size := by omega)); (try (have x4 : w4.heap.size + 1 < w'.heap.size := by omega))
          have arr := fun w => array_run ⟨w4.heap.size, 0, none⟩ w
          rw [rounds_succ]
          go_wp2
          exact bodyPost_ret (v := .agg #[.int .u64 0, .int .u64 s13, .int .u64 s12, .int .u64 s11]) (by first | (simp only [results, Tryz.results105]; go_simp; done) | simp [results, Tryz.results105, go_sem, *]) rfl ⟨rfl, by (repeat (first | exact Below.refl _ _ | refine bl_drewN ?_ | refine bl_drew ?_ | refine bl_alloc ?_ _ | refine Below.setCell ?_ (by (first | (simp; done) | (simp; omega) | omega)) _ | refine bl_step (by assumption) ?_))⟩
      · obtain rfl : 0 = k9 := by have := KU.out.2.2.1; omega
        go_wp2
        refine wp_loop_rounds 2 ?_
        rw [rounds_succ]
        go_wp2
        refine name_rel (F := Code.rounds _ _ _ _ _) (fun wx => Below w4.heap.size w4 wx ∧ w4.heap.size < wx.heap.size ∧ (∀ o, wx.frozen? ⟨w4.heap.size, o, none⟩ = false) ∧ wx.cell? ⟨w4.heap.size, 0, none⟩ = some (.int .u64 0) ∧ wx.cell? ⟨w4.heap.size, 1, none⟩ = some (.int .u64 0) ∧ wx.cell? ⟨w4.heap.size, 2, none⟩ = some (.int .u64 s9) ∧ wx.cell? ⟨w4.heap.size, 3, none⟩ = some (.int .u64 s8) ∧ wx.cell? ⟨w4.heap.size, 4, none⟩ = some (.int .u64 s7) ∧ wx.cell? ⟨w4.heap.size, 5, none⟩ = some (.int .u64 s6)) ?_ ?_
        · refine ⟨by (repeat (first | exact Below.refl _ _ | refine bl_drewN ?_ | refine bl_drew ?_ | refine bl_alloc ?_ _ | refine Below.setCell ?_ (by (first | (simp; done) | (simp; omega) | omega)) _ | refine bl_step (by assumption) ?_)), ?_, ?_, ?_, ?_, ?_, ?_, ?_, ?_⟩
          all_goals (simp [go_sem, *]; done)
        intro w' ⟨hb, z, fz, g0, g1, g2, g3, g4, g5⟩
        (try replace hb := below_undrew hb); (try replace hb := below_undrewN hb); obtain ⟨hcell, hfroz⟩ := bcell hb; have hz := hb.size; (try simp at hz); (try (have z6 := Nat.lt_of_lt_of_le z7 hz)); (try (have z7 := Nat.lt_of_lt_of_le z8 hz)); (try (have z8 := Nat.lt_of_lt_of_le z9 hz)); (try (have z9 := Nat.lt_of_lt_of_le (Nat.lt_succ_self _) hz)); (try (have z0 : w.heap.size < w'.heap.size := by omega)); (try (have z1 : w.heap.size + 1 < w'.heap.size := by omega)); (try (have z2 : w.heap.size + 1 + 1 < w'.heap.size := by omega)); (try (have z3 : w.heap.size + 1 + 1 + 1 < w'.heap.size := by omega)); (try (have y1 : w1.heap.size < w'.heap.size := by omega)); (try (have y4 : w4.heap.size < w'.heap.size := by omega)); (try (have x1 : w1.heap.size + 1 < w'.heap.size := by omega)); (try (have x4 : w4.heap.size + 1 < w'.heap.size := by omega))
        rw [rounds_succ]
        go_wp2
        refine wp_loop_rounds 5 ?_
        rw [rounds_succ]
        go_wp2
        go_quiet ((go_at_call 67; (with_reducible exact quiet_same (S10.m _))))
        obtain ⟨w1, rfl⟩ : ∃ v, v = w' := ⟨_, rfl⟩
        (refine name_world (F := Exit.then _ _ _ _) ?_; intro w' hb; (try replace hb := below_undrew hb); (try replace hb := below_undrewN hb); obtain ⟨hcell, hfroz⟩ := bcell hb; have hz := hb.size; (try simp at hz); (try (have z6 := Nat.lt_of_lt_of_le z7 hz)); (try (have z7 := Nat.lt_of_lt_of_le z8 hz)); (try (have z8 := Nat.lt_of_lt_of_le z9 hz)); (try (have z9 := Nat.lt_of_lt_of_le (Nat.lt_succ_self _) hz)); (try (have z0 : w.heap.size < w'.heap.size := by omega)); (try (have z1 : w.heap.size + 1 < w'.heap.size := by omega)); (try (have z2 : w.heap.size + 1 + 1 < w'.heap.size := by omega)); (try (have z3 : w.heap.size + 1 + 1 + 1 < w'.heap.size := by omega)); (try (have y1 : w1.heap.size < w'.heap.size := by omega)); (try (have y4 : w4.heap.size < w'.heap.size := by omega)))
        have f1 := S10.a1
        have f2 := S10.w1
        have f3 := S10.a2
        have f4 := S10.w2
        go_wp2
        clear f1 f2 f3 f4
        rw [rounds_succ]
        go_wp2
        go_quiet ((go_at_call 67; (with_reducible exact quiet_same (S11.m _))))
        obtain ⟨w1, rfl⟩ : ∃ v, v = w' := ⟨_, rfl⟩
        (refine name_world (F := Exit.then _ _ _ _) ?_; intro w' hb; (try replace hb := below_undrew hb); (try replace hb := below_undrewN hb); obtain ⟨hcell, hfroz⟩ := bcell hb; have hz := hb.size; (try simp at hz); (try (have z6 := Nat.lt_of_lt_of_le z7 hz)); (try (have z7 := Nat.lt_of_lt_of_le z8 hz)); (try (have z8 := Nat.lt_of_lt_of_le z9 hz)); (try (have z9 := Nat.lt_of_lt_of_le (Nat.lt_succ_self _) hz)); (try (have z0 : w.heap.size < w'.heap.size := by omega)); (try (have z1 : w.heap.size + 1 < w'.heap.size := by omega)); (try (have z2 : w.heap.size + 1 + 1 < w'.heap.size := by omega)); (try (have z3 : w.heap.size + 1 + 1 + 1 < w'.heap.size := by omega)); (try (have y1 : w1.heap.size < w'.heap.size := by omega)); (try (have y4 : w4.heap.size < w'.heap.size := by omega)))
        have f1 := S11.a1
        have f2 := S11.w1
        have f3 := S11.a2
        have f4 := S11.w2
        go_wp2
        clear f1 f2 f3 f4
        rw [rounds_succ]
        go_wp2
        go_quiet ((go_at_call 67; (with_reducible exact quiet_same (S12.m _))))
        obtain ⟨w1, rfl⟩ : ∃ v, v = w' := ⟨_, rfl⟩
        (refine name_world (F := Exit.then _ _ _ _) ?_; intro w' hb; (try replace hb := below_undrew hb); (try replace hb := below_undrewN hb); obtain ⟨hcell, hfroz⟩ := bcell hb; have hz := hb.size; (try simp at hz); (try (have z6 := Nat.lt_of_lt_of_le z7 hz)); (try (have z7 := Nat.lt_of_lt_of_le z8 hz)); (try (have z8 := Nat.lt_of_lt_of_le z9 hz)); (try (have z9 := Nat.lt_of_lt_of_le (Nat.lt_succ_self _) hz)); (try (have z0 : w.heap.size < w'.heap.size := by omega)); (try (have z1 : w.heap.size + 1 < w'.heap.size := by omega)); (try (have z2 : w.heap.size + 1 + 1 < w'.heap.size := by omega)); (try (have z3 : w.heap.size + 1 + 1 + 1 < w'.heap.size := by omega)); (try (have y1 : w1.heap.size < w'.heap.size := by omega)); (try (have y4 : w4.heap.size < w'.heap.size := by omega)))
        have f1 := S12.a1
        have f2 := S12.w1
        have f3 := S12.a2
        have f4 := S12.w2
        go_wp2
        clear f1 f2 f3 f4
        rw [rounds_succ]
        go_wp2
        go_quiet ((go_at_call 67; (with_reducible exact quiet_same (S13.m _))))
        obtain ⟨w1, rfl⟩ : ∃ v, v = w' := ⟨_, rfl⟩
        (refine name_world (F := Exit.then _ _ _ _) ?_; intro w' hb; (try replace hb := below_undrew hb); (try replace hb := below_undrewN hb); obtain ⟨hcell, hfroz⟩ := bcell hb; have hz := hb.size; (try simp at hz); (try (have z6 := Nat.lt_of_lt_of_le z7 hz)); (try (have z7 := Nat.lt_of_lt_of_le z8 hz)); (try (have z8 := Nat.lt_of_lt_of_le z9 hz)); (try (have z9 := Nat.lt_of_lt_of_le (Nat.lt_succ_self _) hz)); (try (have z0 : w.heap.size < w'.heap.size := by omega)); (try (have z1 : w.heap.size + 1 < w'.heap.size := by omega)); (try (have z2 : w.heap.size + 1 + 1 < w'.heap.size := by omega)); (try (have z3 : w.heap.size + 1 + 1 + 1 < w'.heap.size := by omega)); (try (have y1 : w1.heap.size < w'.heap.size := by omega)); (try (have y4 : w4.heap.size < w'.heap.size := by omega)))
        have f1 := S13.a1
        have f2 := S13.w1
        have f3 := S13.a2
        have f4 := S13.w2
        go_wp2
        clear f1 f2 f3 f4
        rw [rounds_succ]
        by_cases hk : 0 < k13
        · have fa : ∀ w, (callFunc 110 #[.int .u64 0, .int .u64 k13, .int .u64 0]).run Tryz.prog w = .ok (.value (.tuple #[.int .u64 k13, .int .u64 0])) w := add64_zero _ (KU.out.2.2.2)
          go_wp2
          refine wp_loop_rounds 2 ?_
          rw [rounds_succ]
          go_wp2
          rw [rounds_succ]
          go_wp2
          clear fa
          refine name_rel (F := Code.rounds _ _ _ _ _) (fun wx => Below w4.heap.size w4 wx ∧ w4.heap.size < wx.heap.size ∧ (∀ o, wx.frozen? ⟨w4.heap.size, o, none⟩ = false) ∧ wx.cell? ⟨w4.heap.size, 0, none⟩ = some (.int .u64 k13) ∧ wx.cell? ⟨w4.heap.size, 1, none⟩ = some (.int .u64 s13) ∧ wx.cell? ⟨w4.heap.size, 2, none⟩ = some (.int .u64 s12) ∧ wx.cell? ⟨w4.heap.size, 3, none⟩ = some (.int .u64 s11) ∧ wx.cell? ⟨w4.heap.size, 4, none⟩ = some (.int .u64 s10) ∧ wx.cell? ⟨w4.heap.size, 5, none⟩ = some (.int .u64 s6)) ?_ ?_
          · refine ⟨by (repeat (first | exact Below.refl _ _ | refine bl_drewN ?_ | refine bl_drew ?_ | refine bl_alloc ?_ _ | refine Below.setCell ?_ (by (first | (simp; done) | (simp; omega) | omega)) _ | refine bl_step (by assumption) ?_)), ?_, ?_, ?_, ?_, ?_, ?_, ?_, ?_⟩
            all_goals (simp [go_sem, *]; done)
          intro w' ⟨hb, z, fz, g0, g1, g2, g3, g4, g5⟩
          (try replace hb := below_undrew hb); (try replace hb := below_undrewN hb); obtain ⟨hcell, hfroz⟩ := bcell hb; have hz := hb.size; (try simp at hz); (try (have z6 := Nat.lt_of_lt_of_le z7 hz)); (try (have z7 := Nat.lt_of_lt_of_le z8 hz)); (try (have z8 := Nat.lt_of_lt_of_le z9 hz)); (try (have z9 := Nat.lt_of_lt_of_le (Nat.lt_succ_self _) hz)); (try (have z0 : w.heap.size < w'.heap.size := by omega)); (try (have z1 : w.heap.size + 1 < w'.heap.size := by omega)); (try (have z2 : w.heap.size + 1 + 1 < w'.heap.size := by omega)); (try (have z3 : w.heap.size + 1 + 1 + 1 < w'.heap.size := by omega)); (try (have y1 : w1.heap.size < w'.heap.size := by omega)); (try (have y4 : w4.heap.size < w'.heap.size := by omega)); (try (have x1 : w1.heap.size + 1 < w'.heap.size := by omega)); (try (have x4 : w4.heap.size + 1 < w'.heap.size := by omega))
          have arr := fun w => array_run ⟨w4.heap.size, 0, none⟩ w
          rw [rounds_succ]
          go_wp2
          exact bodyPost_ret (v := .agg #[.int .u64 k13, .int .u64 s13, .int .u64 s12, .int .u64 s11]) (by first | (simp only [results, Tryz.results105]; go_simp; done) | simp [results, Tryz.results105, go_sem, *]) rfl ⟨rfl, by (repeat (first | exact Below.refl _ _ | refine bl_drewN ?_ | refine bl_drew ?_ | refine bl_alloc ?_ _ | refine Below.setCell ?_ (by (first | (simp; done) | (simp; omega) | omega)) _ | refine bl_step (by assumption) ?_))⟩
        · obtain rfl : 0 = k13 := by have := KU.out.2.2.2; omega
          go_wp2
          refine wp_loop_rounds 2 ?_
          rw [rounds_succ]
          go_wp2
          refine name_rel (F := Code.rounds _ _ _ _ _) (fun wx => Below w4.heap.size w4 wx ∧ w4.heap.size < wx.heap.size ∧ (∀ o, wx.frozen? ⟨w4.heap.size, o, none⟩ = false) ∧ wx.cell? ⟨w4.heap.size, 0, none⟩ = some (.int .u64 0) ∧ wx.cell? ⟨w4.heap.size, 1, none⟩ = some (.int .u64 s13) ∧ wx.cell? ⟨w4.heap.size, 2, none⟩ = some (.int .u64 s12) ∧ wx.cell? ⟨w4.heap.size, 3, none⟩ = some (.int .u64 s11) ∧ wx.cell? ⟨w4.heap.size, 4, none⟩ = some (.int .u64 s10) ∧ wx.cell? ⟨w4.heap.size, 5, none⟩ = some (.int .u64 s6)) ?_ ?_
          · refine ⟨by (repeat (first | exact Below.refl _ _ | refine bl_drewN ?_ | refine bl_drew ?_ | refine bl_alloc ?_ _ | refine Below.setCell ?_ (by (first | (simp; done) | (simp; omega) | omega)) _ | refine bl_step (by assumption) ?_)), ?_, ?_, ?_, ?_, ?_, ?_, ?_, ?_⟩
            all_goals (simp [go_sem, *]; done)
          intro w' ⟨hb, z, fz, g0, g1, g2, g3, g4, g5⟩
          (try replace hb := below_undrew hb); (try replace hb := below_undrewN hb); obtain ⟨hcell, hfroz⟩ := bcell hb; have hz := hb.size; (try simp at hz); (try (have z6 := Nat.lt_of_lt_of_le z7 hz)); (try (have z7 := Nat.lt_of_lt_of_le z8 hz)); (try (have z8 := Nat.lt_of_lt_of_le z9 hz)); (try (have z9 := Nat.lt_of_lt_of_le (Nat.lt_succ_self _) hz)); (try (have z0 : w.heap.size < w'.heap.size := by omega)); (try (have z1 : w.heap.size + 1 < w'.heap.size := by omega)); (try (have z2 : w.heap.size + 1 + 1 < w'.heap.size := by omega)); (try (have z3 : w.heap.size + 1 + 1 + 1 < w'.heap.size := by omega)); (try (have y1 : w1.heap.size < w'.heap.size := by omega)); (try (have y4 : w4.heap.size < w'.heap.size := by omega)); (try (have x1 : w1.heap.size + 1 < w'.heap.size := by omega)); (try (have x4 : w4.heap.size + 1 < w'.heap.size := by omega))
          have arr := fun w => array_run ⟨w4.heap.size, 0, none⟩ w
          rw [rounds_succ]
          go_wp2
          exact bodyPost_ret (v := .agg #[.int .u64 0, .int .u64 s13, .int .u64 s12, .int .u64 s11]) (by first | (simp only [results, Tryz.results105]; go_simp; done) | simp [results, Tryz.results105, go_sem, *]) rfl ⟨rfl, by (repeat (first | exact Below.refl _ _ | refine bl_drewN ?_ | refine bl_drew ?_ | refine bl_alloc ?_ _ | refine Below.setCell ?_ (by (first | (simp; done) | (simp; omega) | omega)) _ | refine bl_step (by assumption) ?_))⟩

end Go.Proofs.YtjceofmhodcefaaGreat
