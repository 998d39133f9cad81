/- Points of the plane: which comes first, and the angle of one, as contracts. -/
import Derived.Test.YtdhbeoahpfimbaaGreatBrg
import Derived.Test.YtdhbeoahpfimbaaGreatBase
import Derived.Test.YtdhbeoahpfimbaaGreatInv
import Derived.Deep.Cut
import Derived.Deep.DeepCutAuto
namespace Go.Proofs.YtdhbeoahpfimbaaGreat
open Go.RowKit Brg
theorem mul31 {a b : Int} (a0 : -2147483648 ≤ a) (a1 : a ≤ 2147483648) (b0 : -2147483648 ≤ b) (b1 : b ≤ 2147483648) : -4611686018427387904 ≤ a * b ∧ a * b ≤ 4611686018427387904 := by
  have e := Int.natAbs_mul a b
  have h : a.natAbs * b.natAbs ≤ 2147483648 * 2147483648 := Nat.mul_le_mul (by omega) (by omega)
  omega
set_option maxHeartbeats 1000000 in
theorem before_any (px py qx qy : Int) (w : World) (a0 : -2147483648 ≤ px) (a1 : px ≤ 2147483648) (b0 : -2147483648 ≤ py) (b1 : py ≤ 2147483648) (c0 : -2147483648 ≤ qx) (c1 : qx ≤ 2147483648) (d0 : -2147483648 ≤ qy) (d1 : qy ≤ 2147483648) :
    Calls Tryz.prog 130 #[.agg #[.int .i64 px, .int .i64 py], .agg #[.int .i64 qx, .int .i64 qy]] w fun e w' => e = .returned (.bool (befB (px, py) (qx, qy))) ∧ Below w.heap.size w w' := by
  have m1 := mul31 a0 a1 d0 d1
  have m2 := mul31 b0 b1 c0 c1
  have E : Hid (befB (px, py) (qx, qy) = decide (py * qx ≤ px * qy)) := rfl
  obtain ⟨B, hB⟩ : ∃ B, befB (px, py) (qx, qy) = B := ⟨_, rfl⟩
  rw [hB] at E ⊢
  clear hB
  obtain ⟨s, hs⟩ : ∃ s, px * qy = s := ⟨_, rfl⟩
  obtain ⟨t, ht⟩ : ∃ t, py * qx = t := ⟨_, rfl⟩
  rw [hs] at m1
  rw [ht] at m2
  have W1 : IntKind.i64.wrap (px * qy) = s := by rw [IntKind.wrap_i64, hs]; omega
  have W2 : IntKind.i64.wrap (py * qx) = t := by rw [IntKind.wrap_i64, ht]; omega
  have E2 : Hid (B = decide (t ≤ s)) := by rw [← hs, ← ht]; exact E.out
  clear hs ht E
  go_enter Tryz.func130, Tryz.ntmps130
  go_wp2
  go_ret
  exact ⟨by rw [E2.out]; rfl, by (repeat (first | exact Below.refl _ _ | refine bl_drewN ?_ | refine bl_drew ?_ | refine bl_alloc ?_ _ | refine Below.setCell ?_ (by (first | (simp; done) | (simp; omega) | omega)) _ | refine bl_step (by assumption) ?_))⟩
/-- a quarter's turn back -/
theorem quad_step {x y : Int} (h : ¬ (0 < x ∧ 0 ≤ y)) (hz : ¬ (x = 0 ∧ y = 0)) : quad y (-x) + 1 = quad x y ∧ redX y (-x) = redX x y ∧ redY y (-x) = redY x y := by
  unfold quad redX redY
  repeat' split
  all_goals first | omega | (refine ⟨?_, ?_, ?_⟩ <;> omega)
theorem quad_zero {x y : Int} (h : 0 < x ∧ 0 ≤ y) : quad x y = 0 ∧ redX x y = x ∧ redY x y = y := by
  unfold quad redX redY
  simp only [if_pos h]
  exact ⟨trivial, trivial, trivial⟩
theorem bis_end {f : Nat → Bool} {k lo hi : Nat} (h : hi - lo ≤ 1) : bis f k lo hi = lo := by
  cases k with
  | zero => rfl
  | succ k => unfold bis; rw [if_neg (by omega)]
def exactP (C S : Nat → Nat) (x y : Int) : Bool := (decide (low C S (redX x y) (redY x y) = 0) && decide (redY x y = 0)) || (decide (low C S (redX x y) (redY x y) = 2700000) && decide (redX x y = redY x y))
set_option maxRecDepth 100000 in
set_option maxHeartbeats 8000000 in
theorem angle_any (C S : Nat → Nat) (x y : Int) (w : World) (a0 : -2147483648 ≤ x) (a1 : x ≤ 2147483648) (b0 : -2147483648 ≤ y) (b1 : y ≤ 2147483648) (hz : ¬ (x = 0 ∧ y = 0))
    (RE : Hid (∀ (u v : Int) (k : Nat) (w : World), 0 < u → u ≤ 2147483648 → 0 ≤ v → v ≤ 2147483648 → 0 < k → k < 5400000 → Calls Tryz.prog 220 #[.agg #[.int .i64 u, .int .i64 v], .int .i64 k] w fun e w' => e = .returned (.bool (reach C S u v k)) ∧ Below w.heap.size w w')) :
    Calls Tryz.prog 131 #[.agg #[.int .i64 x, .int .i64 y]] w fun e w' => e = .returned (.tuple #[.int .i64 (ang C S x y), .bool (exactP C S x y)]) ∧ Below w.heap.size w w' := by
  obtain ⟨AA, hAA⟩ : ∃ A, ang C S x y = A := ⟨_, rfl⟩
  obtain ⟨EE, hEE⟩ : ∃ A, exactP C S x y = A := ⟨_, rfl⟩
  rw [hAA, hEE]
  have HA := hidden hAA
  have HE := hidden hEE
  have HZ := hidden hz
  clear hAA hEE hz
  go_enter Tryz.func131, Tryz.ntmps131
  go_wp2
  refine name_code ?_
  intro w' hb
  (try replace hb := below_undrew hb); (try replace hb := below_undrewN hb); obtain ⟨hcell, hfroz⟩ := bcell hb; have hz := hb.size; (try simp at hz); (try (have z6 := Nat.lt_of_lt_of_le z7 hz)); (try (have z7 := Nat.lt_of_lt_of_le z8 hz)); (try (have z8 := Nat.lt_of_lt_of_le z9 hz)); (try (have z9 := Nat.lt_of_lt_of_le (Nat.lt_succ_self _) hz)); (try have z0 : w.heap.size < w'.heap.size := by omega); (try have z1 : w.heap.size + 1 < w'.heap.size := by omega); (try have z2 : w.heap.size + 1 + 1 < w'.heap.size := by omega); (try have z3 : w.heap.size + 1 + 1 + 1 < w'.heap.size := by omega)
  have hw0 : Below w.heap.size w w' := by (repeat (first | (with_reducible exact Below.refl _ _) | (with_reducible refine Below.setCell ?_ (by (first | (simp; done) | (simp; omega) | omega)) _) | (with_reducible refine bl_alloc ?_ _) | (with_reducible refine bl_drewN ?_) | (with_reducible refine bl_drew ?_) | (with_reducible refine bl_step (by assumption) ?_)))
  have cr0 : w'.cell? ⟨w.heap.size, 0, none⟩ = some (.int .i64 x) := by simp [go_sem, *]
  have cr1 : w'.cell? ⟨w.heap.size, 1, none⟩ = some (.int .i64 y) := by simp [go_sem, *]
  have cg : ∀ o, w'.frozen? ⟨w.heap.size, o, none⟩ = false := by intro o; simp [go_sem, *]
  clear hcell hfroz hz hb
  obtain ⟨V0, rfl⟩ : ∃ v, v = w' := ⟨_, rfl⟩
  have gV : w.heap.size < V0.heap.size := World.block_lt_of_cell? _ _ cr0
  go_loopw [4] (fun tv wr => ∃ (j : Nat) (u v : Int), tv = .int .i64 (j * 5400000) ∧ wr.cell? ⟨w.heap.size, 0, none⟩ = some (.int .i64 u) ∧ wr.cell? ⟨w.heap.size, 1, none⟩ = some (.int .i64 v) ∧ Hid (∀ o, wr.frozen? ⟨w.heap.size, o, none⟩ = false) ∧ Hid (j + quad u v = quad x y ∧ redX u v = redX x y ∧ redY u v = redY x y ∧ ¬ (u = 0 ∧ v = 0)) ∧ -2147483648 ≤ u ∧ u ≤ 2147483648 ∧ -2147483648 ≤ v ∧ v ≤ 2147483648 ∧ Below w.heap.size w wr) (fun tv _ => ((40000000 : Int) - intOf tv).toNat)
  case atStart => exact ⟨0, x, y, by simp, cr0, cr1, cg, ⟨by simp, rfl, rfl, HZ.out⟩, a0, a1, b0, b1, hw0⟩
  case round =>
    obtain ⟨j, u, v, rfl, c0, c1, hf, hq, u0, u1, v0, v1, hV⟩ := hrel
    have gr : w.heap.size < wr.heap.size := World.block_lt_of_cell? _ _ c0
    by_cases hin : 0 < u ∧ 0 ≤ v
    · obtain ⟨h1, h2⟩ := hin
      have hq1 := hq.out
      obtain ⟨q0, qx, qy⟩ := quad_zero ⟨h1, h2⟩
      rw [q0, qx, qy] at hq1
      have HQ := hidden (show j = quad x y ∧ u = redX x y ∧ v = redY x y from ⟨by omega, hq1.2.1, hq1.2.2.1⟩)
      clear hq q0 qx qy hq1
      have fz := hf.out
      go_wp2
      go_loopw [5, 6] (fun lv hv wx => ∃ (k lo hi : Nat), lv = .int .i64 lo ∧ hv = .int .i64 hi ∧ lo < hi ∧ hi ≤ 5400000 ∧ Hid (hi - lo ≤ 2 ^ k) ∧ Hid (bis (reach C S u v) k lo hi = low C S u v) ∧ Below wr.heap.size wr wx) (fun lv hv _ => (intOf hv - intOf lv).toNat)
      case atStart => exact ⟨23, 0, 5400000, rfl, rfl, by decide, by decide, by unfold Hid; decide, rfl, Below.refl _ _⟩
      case round =>
        obtain ⟨k, lo, hi, rfl, rfl, lh, h5, hk, hs, hX⟩ := hrel
        have d0 := cell_later hX c0
        have d1 := cell_later hX c1
        have gx : w.heap.size < wr.heap.size := World.block_lt_of_cell? _ _ d0
        by_cases hc : 1 < hi - lo
        · have k1 : ∃ k2, k = k2 + 1 := by
            cases k with
            | zero => have := hk.out; simp at this; omega
            | succ k => exact ⟨k, rfl⟩
          obtain ⟨k2, rfl⟩ := k1
          have hk2 := hk.out
          rw [Nat.pow_succ] at hk2
          have hs2 := hs.out
          unfold bis at hs2
          rw [if_pos hc] at hs2
          have HS := hidden hs2
          have RK : Hid (∀ w, Calls Tryz.prog 220 #[.agg #[.int .i64 u, .int .i64 v], .int .i64 (((lo : Int) + (hi : Int)) / 2)] w fun e w' => e = .returned (.bool (reach C S u v ((lo + hi) / 2))) ∧ Below w.heap.size w w') := hidden fun w => by
            have := RE.out u v ((lo + hi) / 2) w h1 u1 h2 v1 (by omega) (by omega)
            simpa using this
          have q1 : decide ((1 : Int) < (hi : Int) - (lo : Int)) = true := by simp; omega
          have HK := hidden hk2
          clear hk hs hs2 hk2
          cases hr : reach C S u v ((lo + hi) / 2) with
          | true =>
            rw [hr] at RK
            go_wp2_with (go_at_call 220; ((with_reducible refine (RK.out _).mono ?_); rintro e w' ⟨rfl, hb⟩); (try replace hb := below_undrew hb); (try replace hb := below_undrewN hb); obtain ⟨hcell, hfroz⟩ := bcell hb; have hz := hb.size; (try simp at hz); (try (have z6 := Nat.lt_of_lt_of_le z7 hz)); (try (have z7 := Nat.lt_of_lt_of_le z8 hz)); (try (have z8 := Nat.lt_of_lt_of_le z9 hz)); (try (have z9 := Nat.lt_of_lt_of_le (Nat.lt_succ_self _) hz)); (try have z0 : w.heap.size < w'.heap.size := by omega); (try have z1 : w.heap.size + 1 < w'.heap.size := by omega); (try have z2 : w.heap.size + 1 + 1 < w'.heap.size := by omega); (try have z3 : w.heap.size + 1 + 1 + 1 < w'.heap.size := by omega))
            have hs3 := HS.out
            rw [hr] at hs3
            exact ⟨⟨k2, (lo + hi) / 2, hi, by simp, rfl, by omega, h5, by have := HK.out; unfold Hid; omega, by simpa [Hid] using hs3, by (repeat (first | (with_reducible exact Below.refl _ _) | (with_reducible refine Below.setCell ?_ (by (first | (simp; done) | (simp; omega) | omega)) _) | (with_reducible refine bl_alloc ?_ _) | (with_reducible refine bl_drewN ?_) | (with_reducible refine bl_drew ?_) | (with_reducible refine bl_step (by assumption) ?_)))⟩, by simp [intOf]; omega⟩
          | false =>
            rw [hr] at RK
            go_wp2_with (go_at_call 220; ((with_reducible refine (RK.out _).mono ?_); rintro e w' ⟨rfl, hb⟩); (try replace hb := below_undrew hb); (try replace hb := below_undrewN hb); obtain ⟨hcell, hfroz⟩ := bcell hb; have hz := hb.size; (try simp at hz); (try (have z6 := Nat.lt_of_lt_of_le z7 hz)); (try (have z7 := Nat.lt_of_lt_of_le z8 hz)); (try (have z8 := Nat.lt_of_lt_of_le z9 hz)); (try (have z9 := Nat.lt_of_lt_of_le (Nat.lt_succ_self _) hz)); (try have z0 : w.heap.size < w'.heap.size := by omega); (try have z1 : w.heap.size + 1 < w'.heap.size := by omega); (try have z2 : w.heap.size + 1 + 1 < w'.heap.size := by omega); (try have z3 : w.heap.size + 1 + 1 + 1 < w'.heap.size := by omega))
            have hs3 := HS.out
            rw [hr] at hs3
            exact ⟨⟨k2, lo, (lo + hi) / 2, rfl, by simp, by omega, by omega, by have := HK.out; unfold Hid; omega, by simpa [Hid] using hs3, by (repeat (first | (with_reducible exact Below.refl _ _) | (with_reducible refine Below.setCell ?_ (by (first | (simp; done) | (simp; omega) | omega)) _) | (with_reducible refine bl_alloc ?_ _) | (with_reducible refine bl_drewN ?_) | (with_reducible refine bl_drew ?_) | (with_reducible refine bl_step (by assumption) ?_)))⟩, by simp [intOf]; omega⟩
        · have q1 : decide ((1 : Int) < (hi : Int) - (lo : Int)) = false := by simp; omega
          have e := hs.out
          rw [bis_end (by omega)] at e
          have HL := hidden e
          clear hs hk e
          have j3 : j ≤ 3 := by
            rw [HQ.out.1]
            unfold quad
            repeat' split
            all_goals omega
          have lo5 : lo < 5400000 := by omega
          obtain ⟨L, hL⟩ : ∃ L : Int, (lo : Int) = L := ⟨_, rfl⟩
          obtain ⟨J, hJ⟩ : ∃ J : Int, (j : Int) * 5400000 = J := ⟨_, rfl⟩
          have J0 : 0 ≤ J := by omega
          have J1 : J ≤ 16200000 := by omega
          have L0 : 0 ≤ L := by omega
          have L1 : L ≤ 5400000 := by omega
          have HV : Hid (AA = J + L) := by
            have := HA.out
            have q := HQ.out
            have l := HL.out
            unfold ang at this
            rw [← q.1, ← q.2.1, ← q.2.2, ← l] at this
            unfold Hid
            omega
          have HX : Hid (EE = ((decide (L = 0) && decide (v = 0)) || (decide (L = 2700000) && decide (u = v)))) := by
            have := HE.out
            have q := HQ.out
            have l := HL.out
            unfold exactP at this
            rw [← q.2.1, ← q.2.2, ← l] at this
            rw [← this, ← hL]
            have a1 : decide (lo = 0) = decide ((lo : Int) = 0) := by simp
            have a2 : decide (lo = 2700000) = decide ((lo : Int) = 2700000) := by
              rw [decide_eq_decide]; omega
            unfold Hid
            rw [a1, a2]
          have HJ := hidden hJ
          have HLL := hidden hL
          have HR : Hid (∀ A' E', A' = J + L → E' = ((decide (L = 0) && decide (v = 0)) || (decide (L = 2700000) && decide (u = v))) → AA = A' ∧ EE = E') := hidden fun A' E' h1 h2 => ⟨by rw [h1]; exact HV.out, by rw [h2]; exact HX.out⟩
          clear HV HX
          go_wp2
          rw [hL, hJ]
          clear hL hJ
          by_cases l0 : L = 0
          · subst l0
            by_cases hv : v = 0
            · subst hv
              go_quiet (fail)
              go_wp2
              go_ret2
              obtain ⟨e1, e2⟩ := HR.out J true (by omega) (by simp)
              exact ⟨by rw [e1, e2]; rfl, by (repeat (first | exact Below.refl _ _ | refine bl_drewN ?_ | refine bl_drew ?_ | refine bl_alloc ?_ _ | refine Below.setCell ?_ (by (first | (simp; done) | (simp; omega) | omega)) _ | refine bl_step (by assumption) ?_))⟩
            · have hv2 : (v == 0) = false := by simpa using hv
              go_quiet (fail)
              go_wp2
              go_ret2
              obtain ⟨e1, e2⟩ := HR.out J false (by omega) (by simp; omega)
              exact ⟨by rw [e1, e2]; rfl, by (repeat (first | exact Below.refl _ _ | refine bl_drewN ?_ | refine bl_drew ?_ | refine bl_alloc ?_ _ | refine Below.setCell ?_ (by (first | (simp; done) | (simp; omega) | omega)) _ | refine bl_step (by assumption) ?_))⟩
          · have l1 : (L == 0) = false := by simpa using l0
            by_cases l2 : L = 2700000
            · subst l2
              by_cases huv : u = v
              · subst huv
                go_quiet (fail)
                go_wp2
                go_ret2
                obtain ⟨e1, e2⟩ := HR.out (J + 2700000) true (by omega) (by simp)
                exact ⟨by rw [e1, e2]; rfl, by (repeat (first | exact Below.refl _ _ | refine bl_drewN ?_ | refine bl_drew ?_ | refine bl_alloc ?_ _ | refine Below.setCell ?_ (by (first | (simp; done) | (simp; omega) | omega)) _ | refine bl_step (by assumption) ?_))⟩
              · have huv2 : (u == v) = false := by simpa using huv
                go_quiet (fail)
                go_wp2
                go_ret2
                obtain ⟨e1, e2⟩ := HR.out (J + 2700000) false (by omega) (by simp; omega)
                exact ⟨by rw [e1, e2]; rfl, by (repeat (first | exact Below.refl _ _ | refine bl_drewN ?_ | refine bl_drew ?_ | refine bl_alloc ?_ _ | refine Below.setCell ?_ (by (first | (simp; done) | (simp; omega) | omega)) _ | refine bl_step (by assumption) ?_))⟩
            · have l3 : (L == 2700000) = false := by simpa using l2
              go_quiet (fail)
              go_wp2
              go_ret2
              obtain ⟨e1, e2⟩ := HR.out (J + L) false (by omega) (by simp; omega)
              exact ⟨by rw [e1, e2]; rfl, by (repeat (first | exact Below.refl _ _ | refine bl_drewN ?_ | refine bl_drew ?_ | refine bl_alloc ?_ _ | refine Below.setCell ?_ (by (first | (simp; done) | (simp; omega) | omega)) _ | refine bl_step (by assumption) ?_))⟩
    · have hne := hq.out
      have st := quad_step hin hne.2.2.2
      have NX := hidden (show (j + 1) + quad v (-u) = quad x y ∧ redX v (-u) = redX x y ∧ redY v (-u) = redY x y ∧ ¬ (v = 0 ∧ -u = 0) from ⟨by omega, st.2.1.trans hne.2.1, st.2.2.trans hne.2.2.1, by omega⟩)
      have j3 : j ≤ 3 := by
        have : quad x y ≤ 3 := by
          unfold quad
          repeat' split
          all_goals omega
        omega
      have fz := hf.out
      clear hq hne st
      by_cases h1 : 0 < u
      · have h2 : ¬ 0 ≤ v := fun h => hin ⟨h1, h⟩
        have h3 : decide (0 ≤ v) = false := by simp; omega
        clear hin
        go_wp2
        exact ⟨⟨j + 1, v, -u, by simp; omega, by simp [go_sem, *], by simp [go_sem, *], by intro o; simp [go_sem, *], NX.out, by omega, by omega, by omega, by omega, by (repeat (first | (with_reducible exact Below.refl _ _) | (with_reducible refine Below.setCell ?_ (by (first | (simp; done) | (simp; omega) | omega)) _) | (with_reducible refine bl_alloc ?_ _) | (with_reducible refine bl_drewN ?_) | (with_reducible refine bl_drew ?_) | (with_reducible refine bl_step (by assumption) ?_)))⟩, by simp [intOf]; omega⟩
      · have h2 : decide (0 < u) = false := by simp; omega
        clear hin
        go_wp2
        exact ⟨⟨j + 1, v, -u, by simp; omega, by simp [go_sem, *], by simp [go_sem, *], by intro o; simp [go_sem, *], NX.out, by omega, by omega, by omega, by omega, by (repeat (first | (with_reducible exact Below.refl _ _) | (with_reducible refine Below.setCell ?_ (by (first | (simp; done) | (simp; omega) | omega)) _) | (with_reducible refine bl_alloc ?_ _) | (with_reducible refine bl_drewN ?_) | (with_reducible refine bl_drew ?_) | (with_reducible refine bl_step (by assumption) ?_)))⟩, by simp [intOf]; omega⟩
end Go.Proofs.YtdhbeoahpfimbaaGreat
