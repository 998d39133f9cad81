/- math/bits.Div64, whatever the words, at a divisor that is greater than the high word: the quotient and the remainder. -/
import Derived.Test.YtjceofmhodcefaaDivW
import Derived.Lib.ItoaNum
namespace Go.Proofs.Ytjceofmhodcefaa
open Go.RowKit

theorem lead (y : Int) (h1 : 0 < y) (h2 : y ≤ 18446744073709551615) : ∃ k : Nat, k ≤ 63 ∧ (64 - (Lib.bitLen y.toNat : Int)) = (k : Int) ∧ 9223372036854775808 ≤ y * 2 ^ k ∧ y * 2 ^ k ≤ 18446744073709551615 := by
  obtain ⟨Y, rfl⟩ : ∃ n : Nat, y = n := ⟨y.toNat, by omega⟩
  obtain ⟨b1, b2, b3⟩ := Lib.bitLenAux_bounds 64 Y (by omega) (by omega)
  have b4 := Lib.bitLen_le Y 64 (Nat.le_refl _) (by omega)
  rw [Int.toNat_natCast]
  change 1 ≤ Lib.bitLen Y at b1
  change 2 ^ (Lib.bitLen Y - 1) ≤ Y at b2
  change Y < 2 ^ Lib.bitLen Y at b3
  generalize Lib.bitLen Y = L at *
  refine ⟨64 - L, by omega, by omega, ?_⟩
  have c1 : ((2 : Int) ^ (64 - L)) = ((2 ^ (64 - L) : Nat) : Int) := (Int.natCast_pow 2 (64 - L)).symm
  rw [c1, ← Int.natCast_mul]
  have e1 : 2 ^ (L - 1) * 2 ^ (64 - L) = 9223372036854775808 := by
    rw [← Nat.pow_add, show L - 1 + (64 - L) = 63 by omega]
  have e2 : 2 ^ L * 2 ^ (64 - L) = 18446744073709551616 := by
    rw [← Nat.pow_add, show L + (64 - L) = 64 by omega]
  have m1 := Nat.mul_le_mul_right (2 ^ (64 - L)) b2
  have m2 := Nat.mul_lt_mul_of_pos_right b3 (Nat.two_pow_pos (64 - L))
  rw [e1] at m1
  rw [e2] at m2
  omega

theorem div64_any (hi lo y : Int) (w : World) (h0 : 0 ≤ hi) (h1 : hi < y) (h2 : y ≤ 18446744073709551615) (h3 : 0 ≤ lo) (h4 : lo ≤ 18446744073709551615) :
    Calls Try.prog 78 #[.int .u64 hi, .int .u64 lo, .int .u64 y] w fun e w' => e = .returned (.tuple #[.int .u64 ((hi * 18446744073709551616 + lo) / y), .int .u64 ((hi * 18446744073709551616 + lo) % y)]) ∧ ∃ n, w.drewN n = w' := by
  by_cases hz : hi = 0
  · subst hz
    have := div64_short lo y w h1 h2 h3 h4
    simpa using this
  · obtain ⟨k, hk, ek, hy0, hy1⟩ := lead y (by omega) h2
    obtain ⟨U, L, l1, l0, hU, hL, hl1, hl0, bU, bU1, bl1, bl1', bl0, bl0', bL, bL1, HV⟩ := Div.moved hi lo y k h0 h1 h2 h3 h4 hk hy1
    have hlz := Try.bits_LeadingZeros64 y w (by omega) h2
    rw [ek] at hlz
    have hl : Calls Try.prog 81 #[.int .u64 y] w fun e w' => e = .returned (.int .i64 (k : Int)) ∧ w = w' := hlz.mono fun e w' ⟨a, b⟩ => ⟨a, b.symm⟩
    have tk : ((k : Int)).toNat = k := Int.toNat_natCast k
    have d0 := Div.and_low32 (y * 2 ^ k) (by omega) hy1
    exact div64_long hi lo y (y * 2 ^ k) U L l1 l0 (y * 2 ^ k / 4294967296) (y * 2 ^ k % 4294967296) w (by omega) h1 k (by omega) (by omega) (by rw [tk]) hy0 hy1
      (by rw [tk]; exact hU) (by rw [tk]; exact hL) hl1 hl0 rfl d0 bU bU1 bl1 bl1' bl0 bl0' (by omega) (by omega) (by omega) (by omega)
      ⟨by omega, by omega, by omega, by omega, by omega, bU, bU1, bl1, bl1'⟩ (by rw [tk]; exact HV) hl

theorem mul64_any (x y : Int) (w : World) (hx0 : 0 ≤ x) (hx : x ≤ 18446744073709551615) (hy0 : 0 ≤ y) (hy : y ≤ 18446744073709551615) :
    Calls Try.prog 68 #[.int .u64 x, .int .u64 y] w fun e w' => e = .returned (.tuple #[.int .u64 (x * y / 18446744073709551616), .int .u64 (x * y % 18446744073709551616)]) ∧ w = w' := by
  obtain ⟨a, rfl⟩ : ∃ n : Nat, x = n := ⟨x.toNat, by omega⟩
  obtain ⟨b, rfl⟩ : ∃ n : Nat, y = n := ⟨y.toNat, by omega⟩
  refine (Try.bits_Mul64 a b (by omega) (by omega) w).mono fun e w' ⟨h1, h2⟩ => ⟨?_, h2.symm⟩
  rw [h1, Int.natCast_ediv, Int.natCast_emod, Int.natCast_mul]
  rfl

end Go.Proofs.Ytjceofmhodcefaa
