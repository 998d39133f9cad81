/- math/bits.Div64 at a divisor that is greater than the high word: the quotient and the remainder of the number of two words. -/
import Derived.Test.YtjceofmhodcefaaRows
import Derived.Test.YtjceofmhodcefaaKnuth
import Derived.Test.YtjceofmhodcefaaShelf
import Derived.WalkKit
import Derived.WalkSpells
import Derived.WalkLawsBesides
import Derived.Deep.QuietTactic
import Derived.BigQuiet
import Derived.Laws.BitsAllLaws
namespace Go.Proofs.Ytjceofmhodcefaa
open Go.RowKit
namespace Div

theorem and_low32 (x : Int) (h0 : 0 ≤ x) (h1 : x ≤ 18446744073709551615) : bits BinOp.and IntKind.u64 x 4294967295 = x % 4294967296 := by
  obtain ⟨n, rfl⟩ : ∃ n : Nat, x = n := ⟨x.toNat, by omega⟩
  have := u64_and_nat n 4294967295 (by omega) (by omega)
  rw [show ((4294967295 : Nat) : Int) = 4294967295 from rfl] at this
  rw [this, show (4294967295 : Nat) = 2 ^ 32 - 1 from rfl, Nat.and_two_pow_sub_one_eq_mod]
  omega

theorem or_high (p : Nat) (a b : Nat) (s : Nat) (hp : p = 2 ^ s) (hb : b < p) (ha : a * p + b < 18446744073709551616) :
    bits BinOp.or IntKind.u64 ((a * p : Nat) : Int) (b : Int) = ((a * p + b : Nat) : Int) := by
  rw [u64_or_nat _ _ (by omega) (by omega)]
  subst hp
  rw [← Nat.shiftLeft_eq, ← Nat.shiftLeft_add_eq_or_of_lt hb]

/-- the words of a number that is moved to the left -/
theorem moved (hi lo y : Int) (s : Nat) (h0 : 0 ≤ hi) (h1 : hi < y) (_h2 : y ≤ 18446744073709551615) (h3 : 0 ≤ lo) (h4 : lo ≤ 18446744073709551615) (hs1 : s ≤ 63) (hy1 : y * 2 ^ s ≤ 18446744073709551615) :
    ∃ U L l1 l0 : Int, bits BinOp.or IntKind.u64 (IntKind.u64.wrap (hi * 2 ^ s)) (lo / 2 ^ ((64 : Int) - (s : Int)).toNat) = U ∧ IntKind.u64.wrap (lo * 2 ^ s) = L ∧ L / 4294967296 = l1 ∧
      bits BinOp.and IntKind.u64 L 4294967295 = l0 ∧ 0 ≤ U ∧ U < y * 2 ^ s ∧ 0 ≤ l1 ∧ l1 ≤ 4294967295 ∧ 0 ≤ l0 ∧ l0 ≤ 4294967295 ∧ 0 ≤ L ∧ L ≤ 18446744073709551615 ∧
      (U * 4294967296 + l1) * 4294967296 + l0 = (hi * 18446744073709551616 + lo) * 2 ^ s := by
  obtain ⟨H, rfl⟩ : ∃ n : Nat, hi = n := ⟨hi.toNat, by omega⟩
  obtain ⟨K, rfl⟩ : ∃ n : Nat, lo = n := ⟨lo.toNat, by omega⟩
  obtain ⟨Y, rfl⟩ : ∃ n : Nat, y = n := ⟨y.toNat, by omega⟩
  have e64 : ((64 : Int) - (s : Int)).toNat = 64 - s := by omega
  rw [e64]
  have hpp : (2 : Nat) ^ s * 2 ^ (64 - s) = 18446744073709551616 := by
    rw [← Nat.pow_add, show s + (64 - s) = 64 by omega]
  have c1 : ((2 : Int) ^ s) = ((2 ^ s : Nat) : Int) := (Int.natCast_pow 2 s).symm
  have c2 : ((2 : Int) ^ (64 - s)) = ((2 ^ (64 - s) : Nat) : Int) := (Int.natCast_pow 2 (64 - s)).symm
  rw [c1] at hy1 ⊢
  rw [c2]
  have hp0 : 0 < (2 : Nat) ^ s := Nat.two_pow_pos s
  have hr0 : 0 < (2 : Nat) ^ (64 - s) := Nat.two_pow_pos _
  generalize hP : (2 : Nat) ^ s = p at *
  generalize hR : (2 : Nat) ^ (64 - s) = r at *
  have hHY : H * p + p ≤ Y * p := by
    have : (H + 1) * p ≤ Y * p := Nat.mul_le_mul_right p (by omega)
    rwa [Nat.add_mul, Nat.one_mul] at this
  have hy1' : Y * p ≤ 18446744073709551615 := by rw [← Int.natCast_mul] at hy1; omega
  have hKr : K / r < p := by
    apply Nat.div_lt_of_lt_mul
    rw [Nat.mul_comm, hpp]; omega
  -- lo moved: its word, and what leaves it
  have hK : K * p = (K / r) * 18446744073709551616 + (K * p) % 18446744073709551616 := by
    have e1 : K * p / 18446744073709551616 = K / r := by
      rw [← hpp, Nat.mul_comm K p, Nat.mul_div_mul_left _ _ hp0]
    have := Nat.div_add_mod (K * p) 18446744073709551616
    rw [e1] at this; omega
  have w1 : IntKind.u64.wrap ((H : Int) * (p : Int)) = ((H * p : Nat) : Int) := by
    rw [IntKind.wrap_u64, ← Int.natCast_mul]; omega
  have w2 : IntKind.u64.wrap ((K : Int) * (p : Int)) = ((K * p % 18446744073709551616 : Nat) : Int) := by
    rw [IntKind.wrap_u64, ← Int.natCast_mul]; omega
  have w3 : ((K : Int) / (r : Int)) = ((K / r : Nat) : Int) := (Int.natCast_ediv K r).symm
  rw [w1, w2, w3, or_high p H (K / r) s hP.symm hKr (by omega)]
  have hl := and_low32 ((K * p % 18446744073709551616 : Nat) : Int) (by omega) (by omega)
  refine ⟨_, _, _, _, rfl, rfl, rfl, hl, by omega, ?_, by omega, by omega, by omega, by omega, by omega, by omega, ?_⟩
  · rw [← Int.natCast_mul]; omega
  · have e5 : ((H : Int) * 18446744073709551616 + (K : Int)) * (p : Int) = ((H * p : Nat) : Int) * 18446744073709551616 + ((K * p : Nat) : Int) := by
      rw [Int.add_mul, Int.mul_right_comm, Int.natCast_mul, Int.natCast_mul]
    rw [e5]
    generalize H * p = HP at *
    generalize K * p = KP at *
    omega

/-- the two digits make the quotient; the remainder is moved back -/
theorem joined (V y p U l1 l0 yy Q1 R1 Q0 R0 : Int) (hp : 0 < p) (hyp : 0 < y) (hyy : y * p = yy) (hV : (U * 4294967296 + l1) * 4294967296 + l0 = V * p)
    (_h1 : Q1 = (U * 4294967296 + l1) / yy) (h2 : R1 = U * 4294967296 + l1 - Q1 * yy) (h3 : Q0 = (R1 * 4294967296 + l0) / yy) (h4 : R0 = R1 * 4294967296 + l0 - Q0 * yy) :
    Q1 * 4294967296 + Q0 = V / y ∧ R0 / p = V % y := by
  have hyy0 : 0 < yy := by rw [← hyy]; exact Int.mul_pos hyp hp
  have m4 : R0 = (R1 * 4294967296 + l0) % yy := by
    rw [h4, h3, Int.emod_def, Int.mul_comm yy]
  have b0 : 0 ≤ R0 := by rw [m4]; exact Int.emod_nonneg _ (Int.ne_of_gt hyy0)
  have b1 : R0 < yy := by rw [m4]; exact Int.emod_lt_of_pos _ hyy0
  have e : V * p = (Q1 * 4294967296 + Q0) * yy + R0 := by
    have : (Q1 * 4294967296 + Q0) * yy = (Q1 * yy) * 4294967296 + Q0 * yy := by rw [Int.add_mul, Int.mul_assoc, Int.mul_comm 4294967296 yy, ← Int.mul_assoc]
    rw [this]; omega
  generalize Q1 * 4294967296 + Q0 = Q at *
  -- R0 is a multiple of p
  have e2 : R0 = (V - Q * y) * p := by
    rw [Int.sub_mul, Int.mul_assoc, hyy]; omega
  have e3 : R0 / p = V - Q * y := by rw [e2, Int.mul_ediv_cancel _ (Int.ne_of_gt hp)]
  have r0 : 0 ≤ V - Q * y := by rw [← e3]; exact Int.ediv_nonneg b0 (Int.le_of_lt hp)
  have r1 : V - Q * y < y := by
    rw [← e3]; exact Int.ediv_lt_of_lt_mul hp (by omega)
  have q : V / y = Q := by
    apply Int.le_antisymm
    · have : V / y < Q + 1 := Int.ediv_lt_of_lt_mul hyp (by rw [Int.add_mul, Int.one_mul]; omega)
      omega
    · exact (Int.le_ediv_iff_mul_le hyp).2 (by omega)
  refine ⟨q.symm, ?_⟩
  rw [e3, Int.emod_def, q, Int.mul_comm]

/-- what is left behind a digit, in the machine's words -/
theorem wrapped {yy d1 d0 U l X : Int} (h : Knuth.Base yy d1 d0 U l) (hyy : yy ≤ 18446744073709551615) (hX : X = (U * 4294967296 + l) / yy) :
    ∃ R : Int, IntKind.u64.wrap (IntKind.u64.wrap (IntKind.u64.wrap (U * 4294967296) + l) - IntKind.u64.wrap (X * yy)) = R ∧ R = U * 4294967296 + l - X * yy ∧ 0 ≤ R ∧ R < yy ∧ 0 ≤ X ∧ X ≤ 4294967295 := by
  have hp := Knuth.ypos h
  have e : U * 4294967296 + l - X * yy = (U * 4294967296 + l) % yy := by rw [hX, Int.emod_def, Int.mul_comm yy]
  have b0 := Int.emod_nonneg (U * 4294967296 + l) (Int.ne_of_gt hp)
  have b1 := Int.emod_lt_of_pos (U * 4294967296 + l) hp
  rw [← e] at b0 b1
  have c0 := Knuth.digit_lo h
  have c1 := Knuth.digit_hi h
  rw [← hX] at c0 c1
  refine ⟨_, rfl, ?_, ?_⟩
  · simp only [IntKind.wrap_u64]
    omega
  · simp only [IntKind.wrap_u64]
    omega

/-- a digit's ways: the guess is lowered, and tested again; it is lowered, and found; it is found -/
theorem ways (a b d0 d1 l : Int) : (4294967296 ≤ a ∧ b + d1 ≤ 4294967295) ∨ (a < 4294967296 ∧ 4294967296 * b + l < a * d0 ∧ b + d1 ≤ 4294967295) ∨
    (4294967296 ≤ a ∧ 4294967296 ≤ b + d1) ∨ (a < 4294967296 ∧ 4294967296 * b + l < a * d0 ∧ 4294967296 ≤ b + d1) ∨ (a < 4294967296 ∧ a * d0 ≤ 4294967296 * b + l) := by omega

theorem told {a b c d : Int} (h : a = c ∧ b = d) : Ending.returned (.tuple #[.int .u64 a, .int .u64 b]) = Ending.returned (.tuple #[.int .u64 c, .int .u64 d]) := by
  rw [h.1, h.2]

end Div
end Go.Proofs.Ytjceofmhodcefaa
