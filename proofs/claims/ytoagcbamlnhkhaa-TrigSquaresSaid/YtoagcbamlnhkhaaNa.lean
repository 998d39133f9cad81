/- Sum of the reference of layer 2. -/
import Derived.Test.YtoagcbamlnhkhaaDg
import Derived.OwnWalk
namespace Go.Proofs.Ytoagcbamlnhkhaa
open Go.RowKit

set_option maxRecDepth 100000 in
set_option maxHeartbeats 4000000 in
theorem sum02_any (A1 A2 : Option Addr) (n1 n2 c1 c2 x y : Nat) (w : World) (h1 : Dig w A1 n1 c1 x) (h2 : Dig w A2 n2 c2 y) (hx : x < pw 30) (hy : y < pw 30) :
    Calls Try.prog 58 #[.slice A1 n1 c1, .slice A2 n2 c2] w (DigRes w (x + y)) := by
  obtain ⟨i0, hi, hz0, hz1, hz2⟩ := info_parts infoInt
  have l1 := h1.few hx
  have l2 := h2.few hy
  have k0 := cy_zero x y
  go_enter Try.func58, Try.ntmps58
  go_wp2
  go_loopw [5, 6, 7] (fun v cv iv wr => ∃ (k : Nat) (c : Int), iv = .int .i64 k ∧ cv = .int .i64 c ∧ Hid (c = cy x y k) ∧ 0 ≤ c ∧ c ≤ 1 ∧ k ≤ 31 ∧ Hid (k = 0 ∨ pw (k - 1) ≤ x + y) ∧ wr.ownsRow w.heap.size 3 1 v k (dgs k (x + y)) ∧ Below w.heap.size w wr) (fun _ _ iv _ => 40 - (intOf iv).toNat)
  case atStart => exact ⟨0, 0, rfl, rfl, by unfold Hid; rw [k0]; rfl, by decide, by decide, by decide, .inl rfl, World.ownsRow_nil _ _ _ _, Below.refl _ _⟩
  case round =>
    clear k0
    obtain ⟨k, c, rfl, rfl, hc, c0, c1', hk, hn, hown, hbw⟩ := hrel
    have hz := hbw.size
    have more : Hid (k < n1 ∨ k < n2 ∨ 0 < c → pw k ≤ x + y) := by
      intro h
      rcases h with h | h | h
      · have := h1.2 (by omega); have := pw_le (m := k) (n := n1 - 1) (by omega); omega
      · have := h2.2 (by omega); have := pw_le (m := k) (n := n2 - 1) (by omega); omega
      · exact sum_big x y k (by have := hc.out; omega)
    have fin : Hid (pw k ≤ x + y → k ≤ 30) := by
      intro h
      have e := pw_succ 30
      have := pw_lt (m := k) (n := 31) (by rw [e]; omega)
      omega
    by_cases a1 : k < n1
    · by_cases a2 : k < n2
      · obtain ⟨g1, rfl, hg1, _⟩ := h1.1.get (by omega)
        have x1 := h1.1.cell hbw a1
        obtain ⟨g2, rfl, hg2, _⟩ := h2.1.get (by omega)
        have x2 := h2.1.cell hbw a2
        have d1 := dg_bd x k
        have d2 := dg_bd y k
        obtain ⟨a, ea⟩ : ∃ a, dg x k = a := ⟨_, rfl⟩
        obtain ⟨b, eb⟩ : ∃ b, dg y k = b := ⟨_, rfl⟩
        rw [ea] at d1 x1
        rw [eb] at d2 x2
        have sd := sum_digit x y k c a b hc.out ea.symm eb.symm
        have SD : Hid (_ ∧ _) := hidden sd
        have cl := cy_le x y (k + 1)
        have CL : Hid (_ ≤ _) := hidden cl
        obtain ⟨d10, d11⟩ := d1
        obtain ⟨d20, d21⟩ := d2
        clear sd cl ea eb
        have q1 : decide (k < n1) = true := by simp; omega
        have q2 : decide (k < n2) = true := by simp; omega
        have MR := more.out (by first | exact .inl ‹_› | exact .inr (.inl ‹_›) | exact .inr (.inr ‹_›))
        have k30 := fin.out MR
        replace MR := hidden MR
        clear more fin
        go_wp2_with (at_builtin; refine wpList_append_own _ rfl (.tmp 46) (.tmp 49) _ rfl w.heap.size 3 i0 (.int .i64 0) 1 8 Try.underlying34 hi hz0 hz1 hz2 rfl (by decide) _ _ _ rfl (hown.alloc _) ⟨wr.heap.size, 0, none⟩ 1 1 [.int .i64 ((c + a + b) % 268435456)] rfl rfl (one_new _ _ _) (one_cell _) (by unfold maxLen; omega) (by omega) (by simp; omega) ?_; intro v' w1 hown' hgrow _)
        go_wp2
        go_roundw
        case rel =>
          have R := app_rel hbw hown hown' hgrow SD.out.1
          exact ⟨k + 1, _, by go_num, rfl, SD.out.2, by omega, by have := SD.out.2; have := CL.out; omega, by omega, .inr MR.out, R.1, R.2⟩
        case measure => simp [intOf]; omega
      · obtain ⟨g1, rfl, hg1, _⟩ := h1.1.get (by omega)
        have x1 := h1.1.cell hbw a1
        have d1 := dg_bd x k
        have d2 := dg_bd y k
        obtain ⟨a, ea⟩ : ∃ a, dg x k = a := ⟨_, rfl⟩
        obtain ⟨b, eb⟩ : ∃ b, dg y k = b := ⟨_, rfl⟩
        rw [ea] at d1 x1
        rw [eb] at d2
        have e2 : b = 0 := by rw [← eb]; exact dg_out (Nat.lt_of_lt_of_le h2.1.1 (pw_le (by omega)))
        have sd := sum_digit x y k c a b hc.out ea.symm eb.symm
        rw [show c + a + b = c + a by omega] at sd
        have SD : Hid (_ ∧ _) := hidden sd
        have cl := cy_le x y (k + 1)
        have CL : Hid (_ ≤ _) := hidden cl
        obtain ⟨d10, d11⟩ := d1
        obtain ⟨d20, d21⟩ := d2
        clear sd cl ea eb e2
        have q1 : decide (k < n1) = true := by simp; omega
        have q2 : decide (k < n2) = false := by simp; omega
        have MR := more.out (by first | exact .inl ‹_› | exact .inr (.inl ‹_›) | exact .inr (.inr ‹_›))
        have k30 := fin.out MR
        replace MR := hidden MR
        clear more fin
        go_wp2_with (at_builtin; refine wpList_append_own _ rfl (.tmp 46) (.tmp 49) _ rfl w.heap.size 3 i0 (.int .i64 0) 1 8 Try.underlying34 hi hz0 hz1 hz2 rfl (by decide) _ _ _ rfl (hown.alloc _) ⟨wr.heap.size, 0, none⟩ 1 1 [.int .i64 ((c + a) % 268435456)] rfl rfl (one_new _ _ _) (one_cell _) (by unfold maxLen; omega) (by omega) (by simp; omega) ?_; intro v' w1 hown' hgrow _)
        go_wp2
        go_roundw
        case rel =>
          have R := app_rel hbw hown hown' hgrow SD.out.1
          exact ⟨k + 1, _, by go_num, rfl, SD.out.2, by omega, by have := SD.out.2; have := CL.out; omega, by omega, .inr MR.out, R.1, R.2⟩
        case measure => simp [intOf]; omega
    · by_cases a2 : k < n2
      · obtain ⟨g2, rfl, hg2, _⟩ := h2.1.get (by omega)
        have x2 := h2.1.cell hbw a2
        have d1 := dg_bd x k
        have d2 := dg_bd y k
        obtain ⟨a, ea⟩ : ∃ a, dg x k = a := ⟨_, rfl⟩
        obtain ⟨b, eb⟩ : ∃ b, dg y k = b := ⟨_, rfl⟩
        rw [ea] at d1
        rw [eb] at d2 x2
        have e1 : a = 0 := by rw [← ea]; exact dg_out (Nat.lt_of_lt_of_le h1.1.1 (pw_le (by omega)))
        have sd := sum_digit x y k c a b hc.out ea.symm eb.symm
        rw [show c + a + b = c + b by omega] at sd
        have SD : Hid (_ ∧ _) := hidden sd
        have cl := cy_le x y (k + 1)
        have CL : Hid (_ ≤ _) := hidden cl
        obtain ⟨d10, d11⟩ := d1
        obtain ⟨d20, d21⟩ := d2
        clear sd cl ea eb e1
        have q1 : decide (k < n1) = false := by simp; omega
        have q2 : decide (k < n2) = true := by simp; omega
        have MR := more.out (by first | exact .inl ‹_› | exact .inr (.inl ‹_›) | exact .inr (.inr ‹_›))
        have k30 := fin.out MR
        replace MR := hidden MR
        clear more fin
        go_wp2_with (at_builtin; refine wpList_append_own _ rfl (.tmp 46) (.tmp 49) _ rfl w.heap.size 3 i0 (.int .i64 0) 1 8 Try.underlying34 hi hz0 hz1 hz2 rfl (by decide) _ _ _ rfl (hown.alloc _) ⟨wr.heap.size, 0, none⟩ 1 1 [.int .i64 ((c + b) % 268435456)] rfl rfl (one_new _ _ _) (one_cell _) (by unfold maxLen; omega) (by omega) (by simp; omega) ?_; intro v' w1 hown' hgrow _)
        go_wp2
        go_roundw
        case rel =>
          have R := app_rel hbw hown hown' hgrow SD.out.1
          exact ⟨k + 1, _, by go_num, rfl, SD.out.2, by omega, by have := SD.out.2; have := CL.out; omega, by omega, .inr MR.out, R.1, R.2⟩
        case measure => simp [intOf]; omega
      · by_cases a3 : 0 < c
        · have d1 := dg_bd x k
          have d2 := dg_bd y k
          obtain ⟨a, ea⟩ : ∃ a, dg x k = a := ⟨_, rfl⟩
          obtain ⟨b, eb⟩ : ∃ b, dg y k = b := ⟨_, rfl⟩
          rw [ea] at d1
          rw [eb] at d2
          have e1 : a = 0 := by rw [← ea]; exact dg_out (Nat.lt_of_lt_of_le h1.1.1 (pw_le (by omega)))
          have e2 : b = 0 := by rw [← eb]; exact dg_out (Nat.lt_of_lt_of_le h2.1.1 (pw_le (by omega)))
          have sd := sum_digit x y k c a b hc.out ea.symm eb.symm
          rw [show c + a + b = c by omega] at sd
          have SD : Hid (_ ∧ _) := hidden sd
          have cl := cy_le x y (k + 1)
          have CL : Hid (_ ≤ _) := hidden cl
          obtain ⟨d10, d11⟩ := d1
          obtain ⟨d20, d21⟩ := d2
          clear sd cl ea eb e1 e2
          have q1 : decide (k < n1) = false := by simp; omega
          have q2 : decide (k < n2) = false := by simp; omega
          have MR := more.out (by first | exact .inl ‹_› | exact .inr (.inl ‹_›) | exact .inr (.inr ‹_›))
          have k30 := fin.out MR
          replace MR := hidden MR
          clear more fin
          go_wp2_with (at_builtin; refine wpList_append_own _ rfl (.tmp 46) (.tmp 49) _ rfl w.heap.size 3 i0 (.int .i64 0) 1 8 Try.underlying34 hi hz0 hz1 hz2 rfl (by decide) _ _ _ rfl (hown.alloc _) ⟨wr.heap.size, 0, none⟩ 1 1 [.int .i64 ((c) % 268435456)] rfl rfl (one_new _ _ _) (one_cell _) (by unfold maxLen; omega) (by omega) (by simp; omega) ?_; intro v' w1 hown' hgrow _)
          go_wp2
          go_roundw
          case rel =>
            have R := app_rel hbw hown hown' hgrow SD.out.1
            exact ⟨k + 1, _, by go_num, rfl, SD.out.2, by omega, by have := SD.out.2; have := CL.out; omega, by omega, .inr MR.out, R.1, R.2⟩
          case measure => simp [intOf]; omega
        · have c2 : c = 0 := by omega
          have z := sum_end x y k (Nat.lt_of_lt_of_le h1.1.1 (pw_le (by omega))) (Nat.lt_of_lt_of_le h2.1.1 (pw_le (by omega))) (by have := hc.out; omega)
          have R := hidden (DigR.own hown z)
          have q1 : decide (k < n1) = false := by simp; omega
          have q2 : decide (k < n2) = false := by simp; omega
          clear more fin z
          subst c2
          obtain ⟨A, cc, rfl, hd⟩ := R.out
          have fr := hidden (own_fresh hown)
          clear R hown
          go_wp2
          go_ret
          exact ⟨A, k, cc, rfl, ⟨hd, fun h => hn.out.resolve_left (by omega)⟩, fr.out, hbw⟩

end Go.Proofs.Ytoagcbamlnhkhaa
