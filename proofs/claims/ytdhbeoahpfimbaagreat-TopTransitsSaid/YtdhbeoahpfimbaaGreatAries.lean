/- The hour angle of Aries at an instant, as the code of sidereal.aries works it out; its whole part and its rest. -/
import Derived.Test.YtdhbeoahpfimbaaGreatDv
import Derived.Test.YtdhbeoahpfimbaaGreatAg
namespace Go.Proofs.YtdhbeoahpfimbaaGreat
open Go.RowKit
/-- the numerator of the hour angle, over 86400000000000 -/
def NN (t : Int) : Int := 21659138841977 * t + 518233047638400000000
theorem join_words (x : Int) : x / 18446744073709551616 * 18446744073709551616 + x % 18446744073709551616 = x := by omega
set_option maxHeartbeats 400000 in
theorem aries_pos (t : Int) (w : World) (h0 : 0 ≤ t) (h1 : t ≤ 140737488355328) :
    Calls Tryz.prog 183 #[.int .i64 t] w fun e w' => e = .returned (.tuple #[.int .i64 (NN t / 86400000000000), .int .i64 (NN t % 86400000000000)]) ∧ ∃ n, w.drewN n = w' := by
  have hm : max t (-t) = t := by omega
  have hd := div64_any (t * 21659138841977 / 18446744073709551616) (t * 21659138841977 % 18446744073709551616) 86400000000000 w (by omega) (by omega) (by omega) (by omega) (by omega)
  rw [join_words] at hd
  have D := hidden hd
  clear hd
  have Q0 : 0 ≤ t * 21659138841977 / 86400000000000 := by omega
  have Q1 : t * 21659138841977 / 86400000000000 ≤ 140737488355328 := by omega
  have F : Hid (t * 21659138841977 / 86400000000000 + 5998067 + (t * 21659138841977 % 86400000000000 + 58838400000000) / 86400000000000 = NN t / 86400000000000 ∧ (t * 21659138841977 % 86400000000000 + 58838400000000) % 86400000000000 = NN t % 86400000000000) := by
    constructor <;> (unfold NN; omega)
  have R0 : 0 ≤ t * 21659138841977 % 86400000000000 := by omega
  have R1 : t * 21659138841977 % 86400000000000 < 86400000000000 := by omega
  go_enter Tryz.func183, Tryz.ntmps183
  go_wp2_with (first | (go_at_call 109; refine (mul64_any _ _ _ (by omega) (by omega) (by omega) (by omega)).mono ?_; rintro e w' ⟨rfl, rfl⟩) | (go_at_call 110; refine D.out.mono ?_; rintro e w' ⟨rfl, nd, rfl⟩))
  generalize t * 21659138841977 / 86400000000000 = q at *
  generalize t * 21659138841977 % 86400000000000 = r at *
  go_loop [9, 10] (fun a b => a = .int .i64 q ∧ b = .int .i64 (r + 58838400000000)) (fun _ _ => 0)
  case atStart => exact ⟨rfl, rfl⟩
  case round =>
    obtain ⟨rfl, rfl⟩ := hrel
    go_wp2
    go_ret2
    have f := F.out
    exact ⟨ret_two ⟨by omega, by omega⟩, nd, rfl⟩
set_option maxHeartbeats 400000 in
theorem aries_neg (t : Int) (w : World) (h0 : t < 0) (h1 : -140737488355328 ≤ t) :
    Calls Tryz.prog 183 #[.int .i64 t] w fun e w' => e = .returned (.tuple #[.int .i64 (NN t / 86400000000000), .int .i64 (NN t % 86400000000000)]) ∧ ∃ n, w.drewN n = w' := by
  have hm : max t (-t) = -t := by omega
  have hd := div64_any (-t * 21659138841977 / 18446744073709551616) (-t * 21659138841977 % 18446744073709551616) 86400000000000 w (by omega) (by omega) (by omega) (by omega) (by omega)
  rw [join_words] at hd
  have D := hidden hd
  clear hd
  have Q0 : 0 ≤ -t * 21659138841977 / 86400000000000 := by omega
  have Q1 : -t * 21659138841977 / 86400000000000 ≤ 140737488355328 := by omega
  have F : Hid (-(-t * 21659138841977 / 86400000000000) + 5998067 + (-(-t * 21659138841977 % 86400000000000) + 58838400000000) / 86400000000000 = NN t / 86400000000000 ∧ (-(-t * 21659138841977 % 86400000000000) + 58838400000000) % 86400000000000 = NN t % 86400000000000) := by
    constructor <;> (unfold NN; omega)
  have R0 : 0 ≤ -t * 21659138841977 % 86400000000000 := by omega
  have R1 : -t * 21659138841977 % 86400000000000 < 86400000000000 := by omega
  go_enter Tryz.func183, Tryz.ntmps183
  go_wp2_with (first | (go_at_call 109; refine (mul64_any _ _ _ (by omega) (by omega) (by omega) (by omega)).mono ?_; rintro e w' ⟨rfl, rfl⟩) | (go_at_call 110; refine D.out.mono ?_; rintro e w' ⟨rfl, nd, rfl⟩))
  generalize -t * 21659138841977 / 86400000000000 = q at *
  generalize -t * 21659138841977 % 86400000000000 = r at *
  by_cases hc : -r + 58838400000000 < 0
  · go_loop [9, 10] (fun a b => ∃ k : Int, 0 ≤ k ∧ k ≤ 1 ∧ a = .int .i64 (-q - k) ∧ b = .int .i64 (-r + 58838400000000 + 86400000000000 * k)) (fun _ b => (-(intOf b)).toNat)
    case atStart => exact ⟨0, by omega, by omega, by simp, by simp⟩
    case round =>
      obtain ⟨k, k0, k1, rfl, rfl⟩ := hrel
      by_cases hk : k < 1
      · obtain rfl : k = 0 := by omega
        go_wp2
        go_round
        case rel => exact ⟨1, by omega, by omega, by simp, by simp⟩
        case measure => simp [intOf]; omega
      · obtain rfl : k = 1 := by omega
        go_wp2
        go_ret2
        have f := F.out
        exact ⟨ret_two ⟨by omega, by omega⟩, nd, rfl⟩
  · go_loop [9, 10] (fun a b => a = .int .i64 (-q) ∧ b = .int .i64 (-r + 58838400000000)) (fun _ _ => 0)
    case atStart => exact ⟨rfl, rfl⟩
    case round =>
      obtain ⟨rfl, rfl⟩ := hrel
      go_wp2
      go_ret2
      have f := F.out
      exact ⟨ret_two ⟨by omega, by omega⟩, nd, rfl⟩
theorem aries_any (t : Int) (w : World) (h0 : -140737488355328 ≤ t) (h1 : t ≤ 140737488355328) :
    Calls Tryz.prog 183 #[.int .i64 t] w fun e w' => e = .returned (.tuple #[.int .i64 (NN t / 86400000000000), .int .i64 (NN t % 86400000000000)]) ∧ ∃ n, w.drewN n = w' := by
  by_cases h : 0 ≤ t
  · exact aries_pos t w h h1
  · exact aries_neg t w (by omega) h0
end Go.Proofs.YtdhbeoahpfimbaaGreat
