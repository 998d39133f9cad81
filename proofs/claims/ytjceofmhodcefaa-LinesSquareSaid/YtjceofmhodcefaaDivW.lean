/- math/bits.Div64 at a divisor that is greater than the high word: the quotient and the remainder of the number of two words; the world is as it was, but for draws. -/
import Derived.Test.YtjceofmhodcefaaDiv
namespace Go.Proofs.Ytjceofmhodcefaa
open Go.RowKit

set_option maxHeartbeats 1000000 in
theorem div64_long (hi lo y yy U L l1 l0 d1 d0 : Int) (w : World) (h0 : 0 < hi) (h1 : hi < y) (s : Int) (hs0 : 0 ≤ s) (hs1 : s ≤ 63)
  (hy : y * 2 ^ s.toNat = yy) (hy0 : 9223372036854775808 ≤ yy) (hy1 : yy ≤ 18446744073709551615)
  (hU : bits BinOp.or IntKind.u64 (IntKind.u64.wrap (hi * 2 ^ s.toNat)) (lo / 2 ^ (64 - s).toNat) = U)
  (hL : IntKind.u64.wrap (lo * 2 ^ s.toNat) = L) (hl1 : L / 4294967296 = l1) (hl0 : bits BinOp.and IntKind.u64 L 4294967295 = l0)
  (hd1 : yy / 4294967296 = d1) (hd0 : bits BinOp.and IntKind.u64 yy 4294967295 = d0)
  (bU : 0 ≤ U) (bU1 : U < yy) (bl1 : 0 ≤ l1) (bl1' : l1 ≤ 4294967295) (bl0 : 0 ≤ l0) (bl0' : l0 ≤ 4294967295) (bd1 : 2147483648 ≤ d1) (bd1' : d1 ≤ 4294967295) (bd0 : 0 ≤ d0) (bd0' : d0 ≤ 4294967295)
  (B1 : Hid (Knuth.Base yy d1 d0 U l1))
  (HV : Hid ((U * 4294967296 + l1) * 4294967296 + l0 = (hi * 18446744073709551616 + lo) * 2 ^ s.toNat))
  (hl : Calls Try.prog 81 #[.int .u64 y] w fun e w' => e = .returned (.int .i64 s) ∧ w = w') :
    Calls Try.prog 78 #[.int .u64 hi, .int .u64 lo, .int .u64 y] w fun e w' => e = .returned (.tuple #[.int .u64 ((hi * 18446744073709551616 + lo) / y), .int .u64 ((hi * 18446744073709551616 + lo) % y)]) ∧ ∃ n, w.drewN n = w' := by
  have HY : Hid (y * 2 ^ s.toNat = yy) := hy
  have q0 : 0 ≤ U / d1 := Int.ediv_nonneg bU (by omega)
  have g0 := Knuth.start B1.out
  have q1 := g0.hi
  have q2 := g0.b0
  have q3 := g0.b1
  have q4 : 0 ≤ U / d1 * d1 := Int.mul_nonneg q0 (by omega)
  have G0 : Hid (Knuth.Good yy d1 d0 U l1 (U / d1) (U - U / d1 * d1)) := g0
  clear g0
  go_enter Try.func78, Try.ntmps78
  go_wp2_with (go_at_call 81; refine hl.mono ?_; rintro e w' ⟨rfl, rfl⟩)
  clear hl1 hl0 hL hd1 hd0 hU hy G0
  go_loop [15, 16] (fun q r => ∃ a b : Int, q = .int .u64 a ∧ r = .int .u64 b ∧ Hid (Knuth.Good yy d1 d0 U l1 a b)) (fun q _ => (intOf q).toNat)
  case atStart => exact ⟨_, _, rfl, rfl, Knuth.start B1.out⟩
  case round =>
    obtain ⟨a, b, rfl, rfl, G⟩ := hrel
    have a0 := Int.le_trans (Knuth.digit_lo B1.out) G.out.lo
    have a1 := G.out.hi
    have b0 := G.out.b0
    have b1 := G.out.b1
    have p0 := Knuth.prod_lo B1.out G.out
    have p1 := Knuth.prod_hi B1.out G.out
    rcases Div.ways a b d0 d1 l1 with ⟨c1, c3⟩ | ⟨c1, c2, c3⟩ | ⟨c1, c3⟩ | ⟨c1, c2, c3⟩ | ⟨c1, c2⟩
    case' inr.inr.inr.inr =>
      obtain ⟨X, rfl⟩ : ∃ X, X = a := ⟨a, rfl⟩
      have HX : Hid (X = (U * 4294967296 + l1) / yy) := Knuth.done B1.out G.out c1 c2
    case' inr.inr.inr.inl =>
      have o := Knuth.out B1.out G.out (Or.inr c2) c3
      obtain ⟨X, rfl⟩ : ∃ X, a = X + 1 := ⟨a - 1, by omega⟩
      have HX : Hid (X = (U * 4294967296 + l1) / yy) := by (rw [Int.add_sub_cancel] at o; exact o)
      clear o
    case' inr.inr.inl =>
      have o := Knuth.out B1.out G.out (Or.inl c1) c3
      obtain ⟨X, rfl⟩ : ∃ X, a = X + 1 := ⟨a - 1, by omega⟩
      have HX : Hid (X = (U * 4294967296 + l1) / yy) := by (rw [Int.add_sub_cancel] at o; exact o)
      clear o
    case inr.inl =>
      have G2 : Hid (Knuth.Good yy d1 d0 U l1 (a - 1) (b + d1)) := Knuth.step B1.out G.out (Or.inr c2) c3
      have k0 := (Knuth.step B1.out G.out (Or.inr c2) c3).lo
      have k1 := Knuth.digit_lo B1.out
      go_wp2
      go_round
      case rel => exact ⟨_, _, rfl, rfl, G2⟩
      case measure => simp [intOf]; omega
    case inl =>
      have G2 : Hid (Knuth.Good yy d1 d0 U l1 (a - 1) (b + d1)) := Knuth.step B1.out G.out (Or.inl c1) c3
      have k0 := (Knuth.step B1.out G.out (Or.inl c1) c3).lo
      have k1 := Knuth.digit_lo B1.out
      go_wp2
      go_round
      case rel => exact ⟨_, _, rfl, rfl, G2⟩
      case measure => simp [intOf]; omega
    all_goals
      obtain ⟨R, hR, er, r0, r1, x0, x1⟩ := Div.wrapped B1.out hy1 HX.out
      have ER : Hid (R = U * 4294967296 + l1 - X * yy) := er
      clear er
      have B2 : Hid (Knuth.Base yy d1 d0 R l0) := ⟨B1.out.yy_eq, bd1, bd1', bd0, bd0', r0, r1, bl0, bl0'⟩
      have g0 := Knuth.start B2.out
      have e0 : 0 ≤ R / d1 := Int.ediv_nonneg r0 (by omega)
      have e1 := g0.hi
      have e2 := g0.b0
      have e3 := g0.b1
      have e4 : 0 ≤ R / d1 * d1 := Int.mul_nonneg e0 (by omega)
      clear g0
      go_wp2
      clear hR
      go_loop [18, 16] (fun q r => ∃ a b : Int, q = .int .u64 a ∧ r = .int .u64 b ∧ Hid (Knuth.Good yy d1 d0 R l0 a b)) (fun q _ => (intOf q).toNat)
      case atStart => exact ⟨_, _, rfl, rfl, Knuth.start B2.out⟩
      case round =>
        clear c1 a0 a1 b0 b1 p0 p1 q0 q1 q2 q3 q4 e0 e1 e2 e3 e4
        try clear c2
        try clear c3
        obtain ⟨a, b, rfl, rfl, G⟩ := hrel
        have a0 := Int.le_trans (Knuth.digit_lo B2.out) G.out.lo
        have a1 := G.out.hi
        have b0 := G.out.b0
        have b1 := G.out.b1
        have p0 := Knuth.prod_lo B2.out G.out
        have p1 := Knuth.prod_hi B2.out G.out
        rcases Div.ways a b d0 d1 l0 with ⟨c1, c3⟩ | ⟨c1, c2, c3⟩ | ⟨c1, c3⟩ | ⟨c1, c2, c3⟩ | ⟨c1, c2⟩
        case' inr.inr.inr.inr =>
          obtain ⟨Y, rfl⟩ : ∃ Y, Y = a := ⟨a, rfl⟩
          have HY2 : Hid (Y = (R * 4294967296 + l0) / yy) := Knuth.done B2.out G.out c1 c2
        case' inr.inr.inr.inl =>
          have o := Knuth.out B2.out G.out (Or.inr c2) c3
          obtain ⟨Y, rfl⟩ : ∃ Y, a = Y + 1 := ⟨a - 1, by omega⟩
          have HY2 : Hid (Y = (R * 4294967296 + l0) / yy) := by (rw [Int.add_sub_cancel] at o; exact o)
          clear o
        case' inr.inr.inl =>
          have o := Knuth.out B2.out G.out (Or.inl c1) c3
          obtain ⟨Y, rfl⟩ : ∃ Y, a = Y + 1 := ⟨a - 1, by omega⟩
          have HY2 : Hid (Y = (R * 4294967296 + l0) / yy) := by (rw [Int.add_sub_cancel] at o; exact o)
          clear o
        case inr.inl =>
          have G2 : Hid (Knuth.Good yy d1 d0 R l0 (a - 1) (b + d1)) := Knuth.step B2.out G.out (Or.inr c2) c3
          have k0 := (Knuth.step B2.out G.out (Or.inr c2) c3).lo
          have k1 := Knuth.digit_lo B2.out
          go_wp2
          go_round
          case rel => exact ⟨_, _, rfl, rfl, G2⟩
          case measure => simp [intOf]; omega
        case inl =>
          have G2 : Hid (Knuth.Good yy d1 d0 R l0 (a - 1) (b + d1)) := Knuth.step B2.out G.out (Or.inl c1) c3
          have k0 := (Knuth.step B2.out G.out (Or.inl c1) c3).lo
          have k1 := Knuth.digit_lo B2.out
          go_wp2
          go_round
          case rel => exact ⟨_, _, rfl, rfl, G2⟩
          case measure => simp [intOf]; omega
        all_goals
          obtain ⟨R0, hR0, er0, s0, s1, y0, y1⟩ := Div.wrapped B2.out hy1 HY2.out
          have ER0 : Hid (R0 = R * 4294967296 + l0 - Y * yy) := er0
          clear er0
          go_wp2
          clear hR0
          go_ret2
          exact ⟨Div.told (Div.joined _ y _ U l1 l0 yy X R Y R0 (Int.pow_pos (by decide)) (by omega) HY.out HV.out HX.out ER.out HY2.out ER0.out), 0, rfl⟩

set_option maxHeartbeats 400000 in
theorem div64_short (lo y : Int) (w : World) (h1 : 0 < y) (h2 : y ≤ 18446744073709551615) (h3 : 0 ≤ lo) (h4 : lo ≤ 18446744073709551615) :
    Calls Try.prog 78 #[.int .u64 0, .int .u64 lo, .int .u64 y] w fun e w' => e = .returned (.tuple #[.int .u64 (lo / y), .int .u64 (lo % y)]) ∧ ∃ n, w.drewN n = w' := by
  have b0 : 0 ≤ lo / y := Int.ediv_nonneg h3 (by omega)
  have b1 : lo / y ≤ lo := Int.ediv_le_self y h3
  have m0 := Int.emod_nonneg lo (Int.ne_of_gt h1)
  have m1 := Int.emod_lt_of_pos lo h1
  go_enter Try.func78, Try.ntmps78
  go_wp2
  go_quiet (fail)
  go_wp2
  go_ret2
  exact ⟨rfl, _, rfl⟩

end Go.Proofs.Ytjceofmhodcefaa
