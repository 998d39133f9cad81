/- Trim of the reference of layer 2. -/
import Derived.Test.YtoagcbamlnhkhaaNa
import Derived.Laws.AppendOwnNone
import Derived.OwnWalk
namespace Go.Proofs.Ytoagcbamlnhkhaa
open Go.RowKit

set_option maxRecDepth 100000 in
set_option maxHeartbeats 4000000 in
theorem trim02_any (A : Option Addr) (n c x : Nat) (w : World) (h : DigR w A n c x) (hn : n ≤ 100) :
    Calls Try.prog 68 #[.slice A n c] w (DigRes w x) := by
  obtain ⟨i0, hi, hz0, hz1, hz2⟩ := info_parts infoInt
  have nc := h.2.1
  go_enter Try.func68, Try.ntmps68
  go_wp2
  go_loop [3] (fun v => ∃ k : Nat, v = .int .i64 k ∧ k ≤ n ∧ Hid (x < pw k)) (fun v => (intOf v).toNat)
  case atStart => exact ⟨n, rfl, Nat.le_refl _, h.1⟩
  case round =>
    obtain ⟨k, rfl, hk, hx⟩ := hrel
    by_cases stop : k = 0 ∨ dg x (k - 1) ≠ 0
    · have N : Hid (0 < k → pw (k - 1) ≤ x) := fun hk => trim_stop (stop.resolve_left (by omega))
      rcases h.2.2 with ⟨rfl, h0⟩ | ⟨g, rfl, hg, hc⟩
      · obtain rfl : k = 0 := by omega
        obtain rfl : c = 0 := h0
        clear stop
        go_wp2_with (at_builtin; refine wpList_append_own_none rfl (.tmp 18) (.tmp 21) _ rfl w.heap.size 3 i0 1 Try.underlying34 hi _ 0 [] rfl (World.ownsRow_made w #[] 0 (Nat.le_refl _) (by unfold maxLen; omega) rfl) rfl ?_)
        go_ret
        exact ⟨_, 0, 0, rfl, ⟨⟨hx.out, Nat.le_refl _, .inr ⟨_, rfl, by simp, fun j hj => absurd hj (by omega)⟩⟩, N.out⟩, (fun a e => by injection e with e; subst e; exact Nat.le_refl _), by (repeat (first | exact Below.refl _ _ | refine bl_drewN ?_ | refine bl_drew ?_ | refine bl_alloc ?_ _ | refine Below.setCell ?_ (by (first | (simp; done) | (simp; omega) | omega)) _ | refine bl_step (by assumption) ?_))⟩
      · by_cases k0 : k = 0
        · subst k0
          clear stop
          go_wp2
          go_ret
          exact ⟨_, 0, 0, rfl, ⟨⟨hx.out, Nat.le_refl _, .inr ⟨_, rfl, by simp, fun j hj => absurd hj (by omega)⟩⟩, N.out⟩, (fun a e => by injection e with e; subst e; exact Nat.le_refl _), by (repeat (first | exact Below.refl _ _ | refine bl_drewN ?_ | refine bl_drew ?_ | refine bl_alloc ?_ _ | refine Below.setCell ?_ (by (first | (simp; done) | (simp; omega) | omega)) _ | refine bl_step (by assumption) ?_))⟩
        · obtain ⟨m, rfl⟩ : ∃ m, k = m + 1 := ⟨k - 1, by omega⟩
          have d : (dg x m == 0) = false := by simpa using stop.resolve_left k0
          have x1 : w.cell? ⟨g, m, none⟩ = some (.int .i64 (dg x m)) := hc m (by omega)
          obtain ⟨a, ea⟩ : ∃ a, dg x m = a := ⟨_, rfl⟩
          rw [ea] at d x1
          clear ea stop
          go_wp2_with (at_builtin; refine wpList_append_own _ rfl (.tmp 18) (.tmp 21) _ rfl w.heap.size 3 i0 (.int .i64 0) 1 8 Try.underlying34 hi hz0 hz1 hz2 rfl (by decide) (.slice (some ⟨w.heap.size, 0, none⟩) 0 0) 0 [] rfl (World.ownsRow_made w #[] 0 (Nat.le_refl _) (by unfold maxLen; omega) rfl) ⟨g, 0, none⟩ (m + 1) c (dgs (m + 1) x) rfl (by simp [dgs]) (dgs_new h ((Below.refl _ _).alloc (Nat.le_refl _) _) hk) (dgs_one _ _) (by unfold maxLen; omega) (by omega) (by simp) ?_; intro v' w1 hown' hgrow _)
          have R := hidden (DigR.own (by simpa using hown') hx.out)
          have hb : Below w.heap.size w w1 := Below.grown ((Below.refl _ _).alloc (Nat.le_refl _) _) hgrow (by simp) (fun j hj => Nat.le_of_eq (by simpa [Value.ownBlock] using hj))
          clear hgrow
          obtain ⟨A', c', rfl, hd⟩ := R.out
          rw [Nat.zero_add] at hown'
          have fr := hidden (own_fresh hown')
          clear R hown'
          go_wp2
          go_ret
          exact ⟨A', m + 1, c', rfl, ⟨hd, N.out⟩, fr.out, hb⟩
    · obtain ⟨m, rfl⟩ : ∃ m, k = m + 1 := ⟨k - 1, by omega⟩
      have d : dg x m = 0 := Classical.not_not.1 fun hne => stop (.inr hne)
      obtain ⟨g, rfl, hg, hc⟩ := h.get (by omega)
      have x1 : w.cell? ⟨g, m, none⟩ = some (.int .i64 (dg x m)) := hc m (by omega)
      have dn := hidden (trim_down hx.out d)
      rw [d] at x1
      clear stop d
      go_wp2
      go_round
      case rel => exact ⟨m, by go_num, by omega, dn.out⟩
      case measure => first | (simp [intOf]; done) | (simp [intOf]; omega)

end Go.Proofs.Ytoagcbamlnhkhaa
