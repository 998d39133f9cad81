/- The greatest angle whose sine is at most a number: arctrig.asin as a contract, by the comparisons of its bisection. -/
import Derived.Test.YtdhbeoahpfimbaaGreatTg
import Derived.Test.YtdhbeoahpfimbaaGreatInv
namespace Go.Proofs.YtdhbeoahpfimbaaGreat
open Go.RowKit
def bisZ (f : Int → Bool) : Nat → Int → Int → Int
  | 0, lo, _ => lo
  | n + 1, lo, hi => if 1 < hi - lo then (if f ((lo + hi) / 2) then bisZ f n ((lo + hi) / 2) hi else bisZ f n lo ((lo + hi) / 2)) else lo
def belowB (v m : Int) : Bool := decide (belowV (bLo m) (bHi m) v ≤ 0)
def asinV (v : Int) : Int := bisZ (belowB v) 24 (-5400000) 5400001
theorem bisZ_end {f : Int → Bool} {k : Nat} {lo hi : Int} (h : hi - lo ≤ 1) : bisZ f k lo hi = lo := by
  cases k with
  | zero => rfl
  | succ k => unfold bisZ; rw [if_neg (by omega)]
theorem bisZ_bd (f : Int → Bool) : ∀ (k : Nat) (lo hi : Int), lo ≤ hi → lo ≤ bisZ f k lo hi ∧ bisZ f k lo hi ≤ hi := by
  intro k
  induction k with
  | zero => intro lo hi h; exact ⟨Int.le_refl _, h⟩
  | succ k ih =>
    intro lo hi h
    unfold bisZ
    split
    · split
      · have := ih ((lo + hi) / 2) hi (by omega); omega
      · have := ih lo ((lo + hi) / 2) (by omega); omega
    · omega
theorem asin_bd (v : Int) : -5400000 ≤ asinV v ∧ asinV v ≤ 5400001 := bisZ_bd _ _ _ _ (by decide)
set_option maxRecDepth 100000 in
set_option maxHeartbeats 4000000 in
theorem asin_any (v : Int) (w : World) (_v0 : -1073741824 ≤ v) (_v1 : v ≤ 1073741824) :
    Calls Tryz.prog 258 #[.int .i64 v] w fun e w' => e = .returned (.int .i64 (asinV v)) ∧ Below w.heap.size w w' := by
  have HB := hidden (fun m w => below_any m v w)
  obtain ⟨R, hR⟩ : ∃ R, asinV v = R := ⟨_, rfl⟩
  rw [hR]
  have HR := hidden hR
  clear hR
  go_enter Tryz.func258, Tryz.ntmps258
  go_wp2
  go_loopw [3, 4] (fun lv hv wr => ∃ (k : Nat) (lo hi : Int), lv = .int .i64 lo ∧ hv = .int .i64 hi ∧ -5400000 ≤ lo ∧ hi ≤ 5400001 ∧ lo < hi ∧ Hid (hi - lo ≤ 2 ^ k) ∧ Hid (bisZ (belowB v) k lo hi = R) ∧ Below w.heap.size w wr) (fun lv hv _ => (intOf hv - intOf lv).toNat)
  case atStart => exact ⟨24, _, _, rfl, rfl, by decide, by decide, by decide, by unfold Hid; decide, HR, Below.refl _ _⟩
  case round =>
    obtain ⟨k, lo, hi, rfl, rfl, l0, h1, lh, hk, hs, hV⟩ := hrel
    by_cases hc : 1 < hi - lo
    · have k1 : ∃ k2, k = k2 + 1 := by
        cases k with
        | zero => have := hk.out; simp at this; omega
        | succ k => exact ⟨k, rfl⟩
      obtain ⟨k2, rfl⟩ := k1
      have hk2 := hk.out
      have hp : (2 : Int) ^ (k2 + 1) = 2 ^ k2 * 2 := Int.pow_succ _ _
      rw [hp] at hk2
      have hs2 := hs.out
      unfold bisZ at hs2
      rw [if_pos hc] at hs2
      have HS := hidden hs2
      have B := hidden fun w => HB.out ((lo + hi) / 2) w
      have q1 : decide ((1 : Int) < hi - lo) = true := by simp; omega
      have HK := hidden hk2
      obtain ⟨M, hM⟩ : ∃ M, (lo + hi) / 2 = M := ⟨_, rfl⟩
      have m0 : lo < M := by omega
      have m1 : M < hi := by omega
      have m2 : M - lo ≤ hi - M := by omega
      have m3 : hi - M ≤ M - lo + 1 := by omega
      rw [hM] at B HS
      clear hk hs hs2 hk2 hp
      cases hr : belowB v M with
      | true =>
        have hb2 : decide (belowV (bLo M) (bHi M) v ≤ 0) = true := hr
        rw [hr] at HS
        generalize belowV (bLo M) (bHi M) v = X at *
        have hx : X ≤ 0 := by simpa using hb2
        go_wp2_with (go_at_call 298; ((with_reducible refine (B.out _).mono ?_); rintro e w' ⟨rfl, hb⟩); (try replace hb := below_undrew hb); (try replace hb := below_undrewN hb); obtain ⟨hcell, hfroz⟩ := bcell hb; have hz := hb.size; (try simp at hz); (try (have z6 := Nat.lt_of_lt_of_le z7 hz)); (try (have z7 := Nat.lt_of_lt_of_le z8 hz)); (try (have z8 := Nat.lt_of_lt_of_le z9 hz)); (try (have z9 := Nat.lt_of_lt_of_le (Nat.lt_succ_self _) hz)); (try have z0 : w.heap.size < w'.heap.size := by omega); (try have z1 : w.heap.size + 1 < w'.heap.size := by omega); (try have z2 : w.heap.size + 1 + 1 < w'.heap.size := by omega); (try have z3 : w.heap.size + 1 + 1 + 1 < w'.heap.size := by omega); obtain ⟨w1, rfl⟩ : ∃ v, v = w' := ⟨_, rfl⟩)
        exact ⟨⟨k2, M, hi, rfl, rfl, by omega, h1, m1, by have := HK.out; unfold Hid; omega, by simpa [Hid] using HS.out, by (repeat (first | (with_reducible exact Below.refl _ _) | (with_reducible refine Below.setCell ?_ (by (first | (simp; done) | (simp; omega) | omega)) _) | (with_reducible refine bl_alloc ?_ _) | (with_reducible refine bl_drewN ?_) | (with_reducible refine bl_drew ?_) | (with_reducible refine bl_step (by assumption) ?_)))⟩, by simp [intOf]; omega⟩
      | false =>
        have hb2 : decide (belowV (bLo M) (bHi M) v ≤ 0) = false := hr
        rw [hr] at HS
        generalize belowV (bLo M) (bHi M) v = X at *
        have hx : ¬ X ≤ 0 := by simpa using hb2
        go_wp2_with (go_at_call 298; ((with_reducible refine (B.out _).mono ?_); rintro e w' ⟨rfl, hb⟩); (try replace hb := below_undrew hb); (try replace hb := below_undrewN hb); obtain ⟨hcell, hfroz⟩ := bcell hb; have hz := hb.size; (try simp at hz); (try (have z6 := Nat.lt_of_lt_of_le z7 hz)); (try (have z7 := Nat.lt_of_lt_of_le z8 hz)); (try (have z8 := Nat.lt_of_lt_of_le z9 hz)); (try (have z9 := Nat.lt_of_lt_of_le (Nat.lt_succ_self _) hz)); (try have z0 : w.heap.size < w'.heap.size := by omega); (try have z1 : w.heap.size + 1 < w'.heap.size := by omega); (try have z2 : w.heap.size + 1 + 1 < w'.heap.size := by omega); (try have z3 : w.heap.size + 1 + 1 + 1 < w'.heap.size := by omega); obtain ⟨w1, rfl⟩ : ∃ v, v = w' := ⟨_, rfl⟩)
        exact ⟨⟨k2, lo, M, rfl, rfl, l0, by omega, m0, by have := HK.out; unfold Hid; omega, by simpa [Hid] using HS.out, by (repeat (first | (with_reducible exact Below.refl _ _) | (with_reducible refine Below.setCell ?_ (by (first | (simp; done) | (simp; omega) | omega)) _) | (with_reducible refine bl_alloc ?_ _) | (with_reducible refine bl_drewN ?_) | (with_reducible refine bl_drew ?_) | (with_reducible refine bl_step (by assumption) ?_)))⟩, by simp [intOf]; omega⟩
    · have q1 : decide ((1 : Int) < hi - lo) = false := by simp; omega
      have e := hs.out
      rw [bisZ_end (by omega)] at e
      subst e
      go_wp2
      exact bodyPost_ret (v := .int .i64 lo) (by first | (simp only [results, Tryz.results258]; go_simp; done) | simp [results, Tryz.results258, go_sem, *]) rfl ⟨rfl, by (repeat (first | (with_reducible exact Below.refl _ _) | (with_reducible refine Below.setCell ?_ (by (first | (simp; done) | (simp; omega) | omega)) _) | (with_reducible refine bl_alloc ?_ _) | (with_reducible refine bl_drewN ?_) | (with_reducible refine bl_drew ?_) | (with_reducible refine bl_step (by assumption) ?_)))⟩
end Go.Proofs.YtdhbeoahpfimbaaGreat
