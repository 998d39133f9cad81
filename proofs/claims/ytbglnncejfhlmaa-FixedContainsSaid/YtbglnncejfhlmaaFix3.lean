/- Quotients rounded up, the lesser and the greater of two, and whether nought lies inside: of package fixed and of its reference. -/
import Derived.Test.YtbglnncejfhlmaaFix2
namespace Go.Proofs.Ytbglnncejfhlmaa
open Go.RowKit

theorem fceil_any (n d : Int) (w : World) (hd : d ≠ 0) (h0 : -4611686018427387904 ≤ n) (h1 : n ≤ 4611686018427387904) (d0 : -9223372036854775808 ≤ d) (d1 : d ≤ 9223372036854775807) :
    Calls Try.prog 48 #[.int .i64 n, .int .i64 d] w fun e w' => e = .returned (.int .i64 (ce n d)) ∧ w = w' := by
  have k := fl_ways (-n) d hd (by omega) (by omega)
  have k0 := k.1
  have k1 := k.2.1
  clear k
  have e : Hid (-(fl (-n) d) = ce n d) := rfl
  go_enter Try.func48, Try.ntmps48
  go_wp2_with (go_at_call 47; refine (ffloor_any _ _ _ (by omega) (by omega) (by omega) (by omega) (by omega)).mono ?_; rintro e w' ⟨rfl, rfl⟩)
  go_ret
  exact ⟨ret_one e.out, rfl⟩

theorem floor4_any (n d : Int) (w : World) (h0 : -4611686018427387904 ≤ n) (h1 : n ≤ 4611686018427387904) (d0 : 1 ≤ d) (d1 : d ≤ 9223372036854775807) :
    Calls Try.prog 52 #[.int .i64 n, .int .i64 d] w fun e w' => e = .returned (.int .i64 (n / d)) ∧ w = w' := by
  by_cases hn : 0 ≤ n
  · have m0 := Int.emod_nonneg n (show d ≠ 0 by omega)
    have q0 : 0 ≤ n / d := Int.ediv_nonneg hn (by omega)
    have q1 : n / d ≤ n := Int.ediv_le_self d hn
    go_enter Try.func52, Try.ntmps52
    go_wp2
    go_ret
    exact ⟨rfl, rfl⟩
  · have k := fl_ways n d (by omega) h0 h1
    have ef : fl n d = n / d := by unfold fl; rw [if_pos (by omega)]
    have em := tmod_abs n d
    have D0 : 0 < absI d := by unfold absI; split <;> omega
    have r0 := Int.emod_nonneg (absI n) (Int.ne_of_gt D0)
    rw [if_pos (by omega)] at em
    rw [ef] at k
    obtain ⟨k0, k1, ⟨a, b⟩ | ⟨a, b, c⟩ | ⟨a, b, c⟩⟩ := k
    · go_enter Try.func52, Try.ntmps52
      go_wp2
      go_ret
      exact ⟨rfl, rfl⟩
    · simp [show n < 0 by omega, show ¬ d < 0 by omega] at b
    · have e : Hid (n / d + 1 - 1 = n / d) := by unfold Hid; omega
      go_enter Try.func52, Try.ntmps52
      go_wp2
      go_ret
      exact ⟨by first | rfl | exact ret_one (by omega), rfl⟩

theorem ceil4_any (n d : Int) (w : World) (h0 : -4611686018427387904 ≤ n) (h1 : n ≤ 4611686018427387904) (d0 : 1 ≤ d) (d1 : d ≤ 9223372036854775807) :
    Calls Try.prog 53 #[.int .i64 n, .int .i64 d] w fun e w' => e = .returned (.int .i64 (-(-n / d))) ∧ w = w' := by
  have k := fl_ways (-n) d (by omega) (by omega) (by omega)
  have ef : fl (-n) d = -n / d := by unfold fl; rw [if_pos (by omega)]
  rw [ef] at k
  have k0 := k.1
  have k1 := k.2.1
  clear k ef
  go_enter Try.func53, Try.ntmps53
  go_wp2_with (go_at_call 52; refine (floor4_any _ _ _ (by omega) (by omega) (by omega) (by omega)).mono ?_; rintro e w' ⟨rfl, rfl⟩)
  go_ret
  exact ⟨rfl, rfl⟩

theorem least_any (a b : Int) (w : World) :
    Calls Try.prog 50 #[.int .i64 a, .int .i64 b] w fun e w' => e = .returned (.int .i64 (min a b)) ∧ w = w' := by
  by_cases h : b < a
  · have e : Hid (b = min a b) := by unfold Hid; omega
    go_enter Try.func50, Try.ntmps50
    go_wp2
    go_ret
    exact ⟨ret_one e.out, rfl⟩
  · have e : Hid (a = min a b) := by unfold Hid; omega
    go_enter Try.func50, Try.ntmps50
    go_wp2
    go_ret
    exact ⟨ret_one e.out, rfl⟩

theorem most_any (a b : Int) (w : World) :
    Calls Try.prog 54 #[.int .i64 a, .int .i64 b] w fun e w' => e = .returned (.int .i64 (max a b)) ∧ w = w' := by
  by_cases h : a < b
  · have e : Hid (b = max a b) := by unfold Hid; omega
    go_enter Try.func54, Try.ntmps54
    go_wp2
    go_ret
    exact ⟨ret_one e.out, rfl⟩
  · have e : Hid (a = max a b) := by unfold Hid; omega
    go_enter Try.func54, Try.ntmps54
    go_wp2
    go_ret
    exact ⟨ret_one e.out, rfl⟩

def zeroB (lo hi : Int) : Bool := decide (lo ≤ 0) && decide (0 ≤ hi)
theorem zeroB_t {lo hi : Int} (h : zeroB lo hi = true) : lo ≤ 0 ∧ 0 ≤ hi := by simp [zeroB] at h; omega
theorem zeroB_f {lo hi : Int} (h : zeroB lo hi = false) : 0 < lo ∨ hi < 0 := by
  by_cases a : lo ≤ 0
  · by_cases b : 0 ≤ hi
    · simp [zeroB, a, b] at h
    · omega
  · omega
theorem zeroB_mk {lo hi : Int} (h : lo ≤ 0 ∧ 0 ≤ hi) : zeroB lo hi = true := by simp [zeroB]; omega
theorem zeroB_not {lo hi : Int} (h : ¬ (lo ≤ 0 ∧ 0 ≤ hi)) : zeroB lo hi = false := by simp [zeroB]; omega

theorem fzero_any (a b : Int) (w : World) :
    Calls Try.prog 49 #[.agg #[.int .i64 (a), .int .i64 (b)]] w fun e w' => e = .returned (.bool (zeroB a b)) ∧ Below w.heap.size w w' := by
  by_cases h1 : a ≤ 0
  · by_cases h2 : 0 ≤ b
    · have H := hidden (zeroB_mk ⟨h1, h2⟩)
      go_enter Try.func49, Try.ntmps49
      go_wp2
      go_ret
      exact ⟨by rw [H.out]; rfl, by (repeat (first | exact Below.refl _ _ | refine bl_drewN ?_ | refine bl_drew ?_ | refine bl_alloc ?_ _ | refine Below.setCell ?_ (by (first | (simp; done) | (simp; omega) | omega)) _ | refine bl_step (by assumption) ?_))⟩
    · have H := hidden (zeroB_not (lo := a) (hi := b) (by omega))
      go_enter Try.func49, Try.ntmps49
      go_wp2
      go_ret
      exact ⟨by rw [H.out]; rfl, by (repeat (first | exact Below.refl _ _ | refine bl_drewN ?_ | refine bl_drew ?_ | refine bl_alloc ?_ _ | refine Below.setCell ?_ (by (first | (simp; done) | (simp; omega) | omega)) _ | refine bl_step (by assumption) ?_))⟩
  · have H := hidden (zeroB_not (lo := a) (hi := b) (by omega))
    go_enter Try.func49, Try.ntmps49
    go_wp2
    go_ret
    exact ⟨by rw [H.out]; rfl, by (repeat (first | exact Below.refl _ _ | refine bl_drewN ?_ | refine bl_drew ?_ | refine bl_alloc ?_ _ | refine Below.setCell ?_ (by (first | (simp; done) | (simp; omega) | omega)) _ | refine bl_step (by assumption) ?_))⟩

theorem zero4_any (a b : Int) (w : World) :
    Calls Try.prog 55 #[.agg #[.int .i64 (a), .int .i64 (b)]] w fun e w' => e = .returned (.bool (zeroB a b)) ∧ Below w.heap.size w w' := by
  by_cases h1 : a ≤ 0
  · by_cases h2 : 0 ≤ b
    · have H := hidden (zeroB_mk ⟨h1, h2⟩)
      go_enter Try.func55, Try.ntmps55
      go_wp2
      go_ret
      exact ⟨by rw [H.out]; rfl, by (repeat (first | exact Below.refl _ _ | refine bl_drewN ?_ | refine bl_drew ?_ | refine bl_alloc ?_ _ | refine Below.setCell ?_ (by (first | (simp; done) | (simp; omega) | omega)) _ | refine bl_step (by assumption) ?_))⟩
    · have H := hidden (zeroB_not (lo := a) (hi := b) (by omega))
      go_enter Try.func55, Try.ntmps55
      go_wp2
      go_ret
      exact ⟨by rw [H.out]; rfl, by (repeat (first | exact Below.refl _ _ | refine bl_drewN ?_ | refine bl_drew ?_ | refine bl_alloc ?_ _ | refine Below.setCell ?_ (by (first | (simp; done) | (simp; omega) | omega)) _ | refine bl_step (by assumption) ?_))⟩
  · have H := hidden (zeroB_not (lo := a) (hi := b) (by omega))
    go_enter Try.func55, Try.ntmps55
    go_wp2
    go_ret
    exact ⟨by rw [H.out]; rfl, by (repeat (first | exact Below.refl _ _ | refine bl_drewN ?_ | refine bl_drew ?_ | refine bl_alloc ?_ _ | refine Below.setCell ?_ (by (first | (simp; done) | (simp; omega) | omega)) _ | refine bl_step (by assumption) ?_))⟩

end Go.Proofs.Ytbglnncejfhlmaa
