/- Less of the reference of layer 2. -/
import Derived.Test.YtoagcbamlnhkhaaNb
import Derived.OwnWalk
namespace Go.Proofs.Ytoagcbamlnhkhaa
open Go.RowKit

/-- the digits of a difference -/
theorem less_digit (y z k : Nat) (c a b : Int) (hc : c = cy y z k) (ha : a = dg (y + z) k) (hb : b = dg y k) :
    (a - c - b < 0 → a - c - b + 268435456 = dg z k ∧ (1 : Int) = cy y z (k + 1)) ∧ (0 ≤ a - c - b → a - c - b = dg z k ∧ (0 : Int) = cy y z (k + 1)) := by
  have h := sum_digit y z k c b (dg z k) hc hb rfl
  have hz := dg_bd z k
  have hy := dg_bd y k
  have c1 := cy_le y z k
  rw [← ha] at h
  obtain ⟨h1, h2⟩ := h
  rw [← h2]
  rw [← hb] at hy
  generalize dg z k = d at *
  omega

set_option maxRecDepth 100000 in
set_option maxHeartbeats 4000000 in
theorem less02_add (A1 A2 : Option Addr) (n1 n2 c1 c2 y z : Nat) (w : World) (h1 : Dig w A1 n1 c1 (y + z)) (h2 : Dig w A2 n2 c2 y) (l1 : n1 ≤ 100) :
    Calls Try.prog 60 #[.slice A1 n1 c1, .slice A2 n2 c2] w (DigRes w z) := by
  obtain ⟨i0, hi, hz0, hz1, hz2⟩ := info_parts infoInt
  have l2 := h2.few (m := n1) (by have := h1.1.1; omega)
  have k0 := cy_zero y z
  go_enter Try.func60, Try.ntmps60
  go_wp2
  go_loopw [5, 6, 7] (fun v cv iv wr => ∃ (k : Nat) (c : Int), iv = .int .i64 k ∧ cv = .int .i64 c ∧ Hid (c = cy y z k) ∧ 0 ≤ c ∧ c ≤ 1 ∧ k ≤ n1 ∧ wr.ownsRow w.heap.size 3 1 v k (dgs k z) ∧ Below w.heap.size w wr) (fun _ _ iv _ => n1 - (intOf iv).toNat)
  case atStart => exact ⟨0, 0, rfl, rfl, by unfold Hid; rw [k0]; rfl, by decide, by decide, by omega, World.ownsRow_nil _ _ _ _, Below.refl _ _⟩
  case round =>
    clear k0
    obtain ⟨k, c, rfl, rfl, hc, c0, c1', hk, hown, hbw⟩ := hrel
    have hz := hbw.size
    by_cases a1 : k < n1
    · obtain ⟨g1, rfl, hg1, _⟩ := h1.1.get (by omega)
      have x1 := h1.1.cell hbw a1
      have d1 := dg_bd (y + z) k
      have d2 := dg_bd y k
      obtain ⟨a, ea⟩ : ∃ a, dg (y + z) k = a := ⟨_, rfl⟩
      obtain ⟨b, eb⟩ : ∃ b, dg y k = b := ⟨_, rfl⟩
      rw [ea] at d1 x1
      rw [eb] at d2
      obtain ⟨d10, d11⟩ := d1
      obtain ⟨d20, d21⟩ := d2
      have ld := hidden (less_digit y z k c a b hc.out ea.symm eb.symm)
      have q1 : decide (k < n1) = true := by simp; omega
      by_cases a2 : k < n2
      · by_cases neg : a - c - b < 0
        · have LD := hidden (ld.out.1 neg)
          clear ld
          obtain ⟨g2, rfl, hg2, _⟩ := h2.1.get (by omega)
          have x2 := h2.1.cell hbw a2
          rw [eb] at x2
          have q2 : decide (k < n2) = true := by simp; omega
          clear ea eb
          go_wp2_with (at_builtin; refine wpList_append_own _ rfl (.tmp 35) (.tmp 37) _ rfl w.heap.size 3 i0 (.int .i64 0) 1 8 Try.underlying34 hi hz0 hz1 hz2 rfl (by decide) _ _ _ rfl (hown.alloc _) ⟨wr.heap.size, 0, none⟩ 1 1 [.int .i64 (a - c - b + 268435456)] rfl rfl (one_new _ _ _) (one_cell _) (by unfold maxLen; omega) (by omega) (by simp; omega) ?_; intro v' w1 hown' hgrow _)
          go_wp2
          go_roundw
          case rel =>
            have R := app_rel hbw hown hown' hgrow LD.out.1
            exact ⟨k + 1, _, by go_num, rfl, LD.out.2, by omega, by omega, by omega, R.1, R.2⟩
          case measure => first | (simp [intOf]; done) | (simp [intOf]; omega)
        · have LD := hidden (ld.out.2 (by omega))
          clear ld
          obtain ⟨g2, rfl, hg2, _⟩ := h2.1.get (by omega)
          have x2 := h2.1.cell hbw a2
          rw [eb] at x2
          have q2 : decide (k < n2) = true := by simp; omega
          clear ea eb
          go_wp2_with (at_builtin; refine wpList_append_own _ rfl (.tmp 35) (.tmp 37) _ rfl w.heap.size 3 i0 (.int .i64 0) 1 8 Try.underlying34 hi hz0 hz1 hz2 rfl (by decide) _ _ _ rfl (hown.alloc _) ⟨wr.heap.size, 0, none⟩ 1 1 [.int .i64 (a - c - b)] rfl rfl (one_new _ _ _) (one_cell _) (by unfold maxLen; omega) (by omega) (by simp; omega) ?_; intro v' w1 hown' hgrow _)
          go_wp2
          go_roundw
          case rel =>
            have R := app_rel hbw hown hown' hgrow LD.out.1
            exact ⟨k + 1, _, by go_num, rfl, LD.out.2, by omega, by omega, by omega, R.1, R.2⟩
          case measure => first | (simp [intOf]; done) | (simp [intOf]; omega)
      · have e2 : b = 0 := by rw [← eb]; exact dg_out (Nat.lt_of_lt_of_le h2.1.1 (pw_le (by omega)))
        subst e2
        by_cases neg : a - c < 0
        · have LD := ld.out.1 (by omega)
          rw [Int.sub_zero] at LD
          replace LD := hidden LD
          clear ld
          have q2 : decide (k < n2) = false := by simp; omega
          clear ea eb
          go_wp2_with (at_builtin; refine wpList_append_own _ rfl (.tmp 35) (.tmp 37) _ rfl w.heap.size 3 i0 (.int .i64 0) 1 8 Try.underlying34 hi hz0 hz1 hz2 rfl (by decide) _ _ _ rfl (hown.alloc _) ⟨wr.heap.size, 0, none⟩ 1 1 [.int .i64 (a - c + 268435456)] rfl rfl (one_new _ _ _) (one_cell _) (by unfold maxLen; omega) (by omega) (by simp; omega) ?_; intro v' w1 hown' hgrow _)
          go_wp2
          go_roundw
          case rel =>
            have R := app_rel hbw hown hown' hgrow LD.out.1
            exact ⟨k + 1, _, by go_num, rfl, LD.out.2, by omega, by omega, by omega, R.1, R.2⟩
          case measure => first | (simp [intOf]; done) | (simp [intOf]; omega)
        · have LD := ld.out.2 (by omega)
          rw [Int.sub_zero] at LD
          replace LD := hidden LD
          clear ld
          have q2 : decide (k < n2) = false := by simp; omega
          clear ea eb
          go_wp2_with (at_builtin; refine wpList_append_own _ rfl (.tmp 35) (.tmp 37) _ rfl w.heap.size 3 i0 (.int .i64 0) 1 8 Try.underlying34 hi hz0 hz1 hz2 rfl (by decide) _ _ _ rfl (hown.alloc _) ⟨wr.heap.size, 0, none⟩ 1 1 [.int .i64 (a - c)] rfl rfl (one_new _ _ _) (one_cell _) (by unfold maxLen; omega) (by omega) (by simp; omega) ?_; intro v' w1 hown' hgrow _)
          go_wp2
          go_roundw
          case rel =>
            have R := app_rel hbw hown hown' hgrow LD.out.1
            exact ⟨k + 1, _, by go_num, rfl, LD.out.2, by omega, by omega, by omega, R.1, R.2⟩
          case measure => first | (simp [intOf]; done) | (simp [intOf]; omega)
    · obtain rfl : k = n1 := by omega
      have q1 : decide (k < k) = false := by simp
      have R := hidden (DigR.own hown (x := z) (by have := h1.1.1; omega))
      obtain ⟨A, cc, rfl, hd⟩ := R.out
      clear R hown
      have T := hidden (trim02_any A k cc z wr hd l1)
      go_wp2_with (go_at_call 68; ((with_reducible refine T.out.mono ?_); rintro e w' ⟨A', n', c', rfl, hd', fr, hb⟩); have FR := hidden fr; clear fr; (try replace hb := below_undrew hb); (try replace hb := below_undrewN hb); obtain ⟨hcell, hfroz⟩ := bcell hb; have hz := hb.size; (try simp at hz); (try (have z6 := Nat.lt_of_lt_of_le z7 hz)); (try (have z7 := Nat.lt_of_lt_of_le z8 hz)); (try (have z8 := Nat.lt_of_lt_of_le z9 hz)); (try (have z9 := Nat.lt_of_lt_of_le (Nat.lt_succ_self _) hz)); (try (have z0 : w.heap.size < w'.heap.size := by omega)); (try (have z1 : w.heap.size + 1 < w'.heap.size := by omega)); (try (have z2 : w.heap.size + 1 + 1 < w'.heap.size := by omega)); (try (have z3 : w.heap.size + 1 + 1 + 1 < w'.heap.size := by omega)); (try (have y1 : w1.heap.size < w'.heap.size := by omega)); (try (have y2 : w2.heap.size < w'.heap.size := by omega)); (try (have y3 : w3.heap.size < w'.heap.size := by omega)); (try (have y4 : w4.heap.size < w'.heap.size := by omega)); (try (have y5 : w5.heap.size < w'.heap.size := by omega)); (try (have y6 : w6.heap.size < w'.heap.size := by omega)))
      go_ret
      exact ⟨A', n', c', rfl, hd', FR.out.le hbw.size, bl_step hb hbw⟩

end Go.Proofs.Ytoagcbamlnhkhaa
