/- The statement that a part of an arc has a part of the enclosure: for every input. -/
import Derived.Test.YtoagcbamlnhkhaaLaw6V
namespace Go.Proofs.Ytoagcbamlnhkhaa
open Go.RowKit Rot

theorem parts_walk (a b f t : Int) (w : World) (_ba : -9223372036854775808 ≤ a ∧ a ≤ 9223372036854775807) (_bb : -9223372036854775808 ≤ b ∧ b ≤ 9223372036854775807) (bf : 0 ≤ f ∧ f ≤ 4294967295) (bt : 0 ≤ t ∧ t ≤ 4294967295) :
    Calls Try.prog 10 #[.agg #[.int .i64 (a), .int .i64 (b)], .int .u32 f, .int .u32 t] w fun e w' => e = .returned (.bool true) ∧ Below w.heap.size w w' := by
  cases h : rightB a b
  · exact parts_out a b f t w h
  · obtain ⟨r1, r2, r3⟩ := rightB_t h
    have W0 : 1 ≤ b - a + 1 := by omega
    have f0 : 0 ≤ f % (b - a + 1) := Int.emod_nonneg _ (by omega)
    have f1 : f % (b - a + 1) < b - a + 1 := Int.emod_lt_of_pos _ (by omega)
    have t0 : 0 ≤ t % (b - a + 1) := Int.emod_nonneg _ (by omega)
    have t1 : t % (b - a + 1) < b - a + 1 := Int.emod_lt_of_pos _ (by omega)
    have f2 : f.tmod (b - a + 1) = f % (b - a + 1) := Int.tmod_eq_emod_of_nonneg bf.1
    have t2 : t.tmod (b - a + 1) = t % (b - a + 1) := Int.tmod_eq_emod_of_nonneg bt.1
    have nz : ¬ b - a + 1 = 0 := by omega
    have nb : (b - a + 1 == 0) = false := by simp; omega
    obtain ⟨F, hF⟩ : ∃ F, f % (b - a + 1) = F := ⟨_, rfl⟩
    obtain ⟨T, hT'⟩ : ∃ T, t % (b - a + 1) = T := ⟨_, rfl⟩
    rw [hF] at f0 f1 f2
    rw [hT'] at t0 t1 t2
    have p0 : a ≤ min (a + F) (a + T) := by omega
    have p1 : min (a + F) (a + T) ≤ max (a + F) (a + T) := by omega
    have p2 : max (a + F) (a + T) ≤ b := by omega
    obtain ⟨p, hp⟩ : ∃ p, min (a + F) (a + T) = p := ⟨_, rfl⟩
    obtain ⟨q, hq⟩ : ∃ q, max (a + F) (a + T) = q := ⟨_, rfl⟩
    rw [hp, hq] at p1
    rw [hp] at p0
    rw [hq] at p2
    have v1 : arcV a b = true := arcV_mk (by omega)
    have v2 : arcV p q = true := arcV_mk (by omega)
    have v3 : arcV p p = true := arcV_mk (by omega)
    have S1 := fun w => sin_ok a b w v1
    have C1 := fun w => cos_ok a b w v1
    have H1 := fun w => hav_ok a b w v1
    have S2 := hidden fun w => sin_ok p q w v2
    have C2 := hidden fun w => cos_ok p q w v2
    have H2 := hidden fun w => hav_ok p q w v2
    have S3 := hidden fun w => sin_ok p p w v3
    have C3 := hidden fun w => cos_ok p p w v3
    have H3 := hidden fun w => hav_ok p p w v3
    have SP := part_sin a b p q p0 p1 p2
    have CP := part_sin (a + 5400000) (b + 5400000) (p + 5400000) (q + 5400000) (by omega) (by omega) (by omega)
    have HP := part_hav a b p q p0 p1 p2
    by_cases hT : b - a < 21600000
    · exact parts_in a b f t _ F T p q _ _ _ _ _ _ _ _ _ _ _ _ _ _ _ _ _ _ w h bf bt rfl W0 (by omega) hF hT' f2 t2 nz nb hp hq f0 f1 t0 t1 hT (hidden S1) S2 S3 (hidden SP) (hidden C1) C2 C3 (hidden CP) (hidden H1) H2 H3 (hidden HP)
    · have e1 := enc_whole a b (by omega)
      have e2 := enc_whole (a + 5400000) (b + 5400000) (by omega)
      have e3 : havLo a b = 0 ∧ havHi a b = 1073741824 := by unfold havLo havHi; rw [e2.1, e2.2]; decide
      rw [e1.1, e1.2] at S1 SP
      rw [e2.1, e2.2] at C1 CP
      rw [e3.1, e3.2] at H1 HP
      exact parts_whole a b f t _ F T p q _ _ _ _ _ _ _ _ _ _ _ _ w h bf bt rfl W0 (by omega) hF hT' f2 t2 nz nb hp hq f0 f1 t0 t1 (by omega) (hidden S1) S2 S3 (hidden SP) (hidden C1) C2 C3 (hidden CP) (hidden H1) H2 H3 (hidden HP)

end Go.Proofs.Ytoagcbamlnhkhaa
