/- Plain arithmetic for integers of two words, and for their quotients. -/
import Derived.Test.YtbglnncejfhlmaaBase
import Derived.Test.YtbglnncejfhlmaaDiv
namespace Go.Proofs.Ytbglnncejfhlmaa
open Go.RowKit
namespace Wd

theorem and_low60 (x : Int) (h0 : 0 ≤ x) (h1 : x ≤ 18446744073709551615) : bits BinOp.and IntKind.u64 x 1152921504606846975 = x % 1152921504606846976 := by
  obtain ⟨n, rfl⟩ : ∃ n : Nat, x = n := ⟨x.toNat, by omega⟩
  have := u64_and_nat n 1152921504606846975 (by omega) (by omega)
  rw [show ((1152921504606846975 : Nat) : Int) = 1152921504606846975 from rfl] at this
  rw [this, show (1152921504606846975 : Nat) = 2 ^ 60 - 1 from rfl, Nat.and_two_pow_sub_one_eq_mod]
  omega

theorem and_low60s (x : Int) : bits BinOp.and IntKind.i64 x 1152921504606846975 = x % 1152921504606846976 := by
  have e1 : (BitVec.ofInt 64 x).toNat = (x % 18446744073709551616).toNat := by
    rw [BitVec.toNat_ofInt]; rfl
  have e2 : (BitVec.ofInt 64 1152921504606846975).toNat = 1152921504606846975 := by decide
  show IntKind.i64.wrap ((BitVec.ofInt 64 x &&& BitVec.ofInt 64 1152921504606846975).toNat : Int) = _
  rw [BitVec.toNat_and, e1, e2, show (1152921504606846975 : Nat) = 2 ^ 60 - 1 from rfl, Nat.and_two_pow_sub_one_eq_mod, IntKind.wrap_i64]
  omega

theorem or_top (hi lo : Int) (h0 : 0 ≤ hi) (h1 : hi ≤ 72057594037927936) (h2 : 0 ≤ lo) (h3 : lo ≤ 18446744073709551615) :
    bits BinOp.or IntKind.u64 (hi * 16) (lo / 1152921504606846976) = hi * 16 + lo / 1152921504606846976 := by
  obtain ⟨a, rfl⟩ : ∃ n : Nat, hi = n := ⟨hi.toNat, by omega⟩
  obtain ⟨b, hb⟩ : ∃ n : Nat, lo / 1152921504606846976 = n := ⟨(lo / 1152921504606846976).toNat, by omega⟩
  rw [hb]
  have := Div.or_high 16 a b 4 rfl (by omega) (by omega)
  simpa using this

theorem or_low (hi lo : Int) (h2 : 0 ≤ lo) (h3 : lo ≤ 1152921504606846975) :
    bits BinOp.or IntKind.u64 (IntKind.u64.wrap (hi * 1152921504606846976)) lo = hi % 16 * 1152921504606846976 + lo := by
  have e : IntKind.u64.wrap (hi * 1152921504606846976) = hi % 16 * 1152921504606846976 := by rw [IntKind.wrap_u64]; omega
  rw [e]
  obtain ⟨a, ha⟩ : ∃ n : Nat, hi % 16 = n := ⟨(hi % 16).toNat, by omega⟩
  obtain ⟨b, rfl⟩ : ∃ n : Nat, lo = n := ⟨lo.toNat, by omega⟩
  rw [ha]
  have := Div.or_high 1152921504606846976 a b 60 (by decide) (by omega) (by omega)
  simpa using this

end Wd
end Go.Proofs.Ytbglnncejfhlmaa
