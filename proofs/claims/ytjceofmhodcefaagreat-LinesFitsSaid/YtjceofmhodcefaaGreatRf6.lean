/- Several small texts in one: XRef6a, XQuick, XRef6b, XRef6c, XRef6d, XRef6e. -/
import Derived.Test.YtjceofmhodcefaaGreatTq
import Derived.Test.YtjceofmhodcefaaGreatLn
namespace Go.Proofs.YtjceofmhodcefaaGreat
open Go.RowKit

def highV (a b : Int) : Int := a / 2147483648 * (b / 2147483648) + a / 2147483648 * (b % 2147483648) / 2147483648 + a % 2147483648 * (b / 2147483648) / 2147483648
theorem wraps_i64 (n : Int) (h0 : 0 ≤ n) (h1 : n < 2 ^ 63) : IntKind.i64.wrap n = n := by rw [IntKind.wrap_i64]; omega
theorem and_low31 (x : Int) (h0 : 0 ≤ x) (h1 : x < 2 ^ 63) : bits BinOp.and IntKind.i64 x 2147483647 = x % 2147483648 := bits_mask .i64 63 (by decide) wraps_i64 31 (by decide) x h0 h1

theorem high_walk (a b a1 a0 b1 b0 p q r : Int) (w : World) (ha : a / 2147483648 = a1) (ha0 : bits BinOp.and IntKind.i64 a 2147483647 = a0) (hb : b / 2147483648 = b1) (hb0 : bits BinOp.and IntKind.i64 b 2147483647 = b0)
    (_a00 : 0 ≤ a) (_b00 : 0 ≤ b) (_a01 : a ≤ 4611686018427387904) (_b01 : b ≤ 4611686018427387904)
    (hp : a1 * b1 = p) (hq : a1 * b0 = q) (hr : a0 * b1 = r) (p0 : 0 ≤ p) (p1 : p ≤ 4611686018427387904) (q0 : 0 ≤ q) (q1 : q ≤ 4611686018427387904) (r0 : 0 ≤ r) (r1 : r ≤ 4611686018427387904) :
    Calls Tryz.prog 113 #[.int .i64 a, .int .i64 b] w fun e w' => e = .returned (.int .i64 (p + q / 2147483648 + r / 2147483648)) ∧ w = w' := by
  go_enter Tryz.func113, Tryz.ntmps113
  go_wp2
  go_ret
  exact ⟨rfl, rfl⟩
theorem high_any (a b : Int) (w : World) (a00 : 0 ≤ a) (b00 : 0 ≤ b) (a01 : a ≤ 4611686018427387904) (b01 : b ≤ 4611686018427387904) :
    Calls Tryz.prog 113 #[.int .i64 a, .int .i64 b] w fun e w' => e = .returned (.int .i64 (highV a b)) ∧ w = w' := by
  have m : ∀ x y : Int, 0 ≤ x → x ≤ 2147483648 → 0 ≤ y → y ≤ 2147483648 → 0 ≤ x * y ∧ x * y ≤ 4611686018427387904 := fun x y x0 x1 y0 y1 => ⟨Int.mul_nonneg x0 y0, Int.mul_le_mul x1 y1 y0 (by omega)⟩
  have h1 := m (a / 2147483648) (b / 2147483648) (by omega) (by omega) (by omega) (by omega)
  have h2 := m (a / 2147483648) (b % 2147483648) (by omega) (by omega) (by omega) (by omega)
  have h3 := m (a % 2147483648) (b / 2147483648) (by omega) (by omega) (by omega) (by omega)
  exact high_walk a b _ _ _ _ _ _ _ w rfl (and_low31 a a00 (by omega)) rfl (and_low31 b b00 (by omega)) a00 b00 a01 b01 rfl rfl rfl h1.1 h1.2 h2.1 h2.2 h3.1 h3.2

/-- the product, rounded down, but for 3 -/
theorem highV_near (a b : Int) : highV a b * 4611686018427387904 ≤ a * b - a % 2147483648 * (b % 2147483648) ∧ a * b - a % 2147483648 * (b % 2147483648) < highV a b * 4611686018427387904 + 2 * 4611686018427387904 := by
  unfold highV
  have ea : a = 2147483648 * (a / 2147483648) + a % 2147483648 := by omega
  have eb : b = 2147483648 * (b / 2147483648) + b % 2147483648 := by omega
  have e : a * b - a % 2147483648 * (b % 2147483648) = 4611686018427387904 * (a / 2147483648 * (b / 2147483648)) + 2147483648 * (a / 2147483648 * (b % 2147483648)) + 2147483648 * (a % 2147483648 * (b / 2147483648)) := by
    have : a * b = (2147483648 * (a / 2147483648) + a % 2147483648) * (2147483648 * (b / 2147483648) + b % 2147483648) := by rw [← ea, ← eb]
    rw [this]
    generalize a / 2147483648 = x
    generalize a % 2147483648 = y
    generalize b / 2147483648 = z
    generalize b % 2147483648 = u
    grind
  rw [e]
  generalize a / 2147483648 * (b / 2147483648) = p
  generalize a / 2147483648 * (b % 2147483648) = q
  generalize a % 2147483648 * (b / 2147483648) = r
  omega
theorem highV_bd (a b : Int) (a0 : 0 ≤ a) (b0 : 0 ≤ b) : 0 ≤ highV a b ∧ highV a b * 4611686018427387904 ≤ a * b ∧ a * b < highV a b * 4611686018427387904 + 3 * 4611686018427387904 := by
  have h := highV_near a b
  have m0 : 0 ≤ a % 2147483648 * (b % 2147483648) := Int.mul_nonneg (by omega) (by omega)
  have m1 : a % 2147483648 * (b % 2147483648) ≤ 2147483648 * 2147483648 := Int.mul_le_mul (by omega) (by omega) (by omega) (by omega)
  have k : 0 ≤ highV a b := by
    unfold highV
    have k1 : 0 ≤ a / 2147483648 * (b / 2147483648) := Int.mul_nonneg (by omega) (by omega)
    have k2 : 0 ≤ a / 2147483648 * (b % 2147483648) := Int.mul_nonneg (by omega) (by omega)
    have k3 : 0 ≤ a % 2147483648 * (b / 2147483648) := Int.mul_nonneg (by omega) (by omega)
    omega
  omega

/-- the terms and the sums of the quick series -/
def tQ (sq t d : Int) : Nat → Int
  | 0 => t
  | j + 1 => highV (tQ sq t d j) sq / ((d + 2 * j) * (d + 2 * j + 1))
def sQ (sq t d : Int) : Nat → Int
  | 0 => 0
  | j + 1 => if j % 2 = 0 then sQ sq t d j + tQ sq t d j else sQ sq t d j - tQ sq t d j
/-- the angle, times 2^62 -/
def xQ (r : Int) : Int := r * 2620088056 * 512 + r * 658911831 / 4194304
theorem xQ_bd (r : Int) (h0 : 0 ≤ r) (h1 : r ≤ 2700000) : 0 ≤ xQ r ∧ xQ r ≤ 3622009729100000000 := by unfold xQ; omega
theorem sq_bd (r : Int) (h0 : 0 ≤ r) (h1 : r ≤ 2700000) : 0 ≤ highV (xQ r) (xQ r) ∧ highV (xQ r) (xQ r) ≤ 2845000000000000000 := by
  have x := xQ_bd r h0 h1
  have h := highV_bd _ _ x.1 x.1
  have m : xQ r * xQ r ≤ 3622009729100000000 * 3622009729100000000 := Int.mul_le_mul x.2 x.2 x.1 (by omega)
  omega
theorem dd_bd (d : Int) (j : Nat) (d1 : 1 ≤ d) : (1 + 2 * (j : Int)) * (2 + 2 * j) ≤ (d + 2 * j) * (d + 2 * j + 1) ∧ 2 ≤ (1 + 2 * (j : Int)) * (2 + 2 * j) := by
  constructor
  · exact Int.mul_le_mul (by omega) (by omega) (by omega) (by omega)
  · have := Int.mul_le_mul (show (1 : Int) ≤ 1 + 2 * j by omega) (show (2 : Int) ≤ 2 + 2 * j by omega) (by omega) (by omega)
    omega
theorem tQ_step (sq t d : Int) (j : Nat) (s0 : 0 ≤ sq) (s1 : sq ≤ 2845000000000000000) (d1 : 1 ≤ d) (h0 : 0 ≤ tQ sq t d j) :
    0 ≤ tQ sq t d (j + 1) ∧ 3 * tQ sq t d (j + 1) ≤ tQ sq t d j ∧ 0 ≤ highV (tQ sq t d j) sq ∧ highV (tQ sq t d j) sq ≤ tQ sq t d j ∧ ∀ M, tQ sq t d j ≤ M → tQ sq t d (j + 1) ≤ M * 2845000000000000000 / 4611686018427387904 / ((1 + 2 * j) * (2 + 2 * j)) := by
  have h := highV_bd _ _ h0 s0
  have m : tQ sq t d j * sq ≤ tQ sq t d j * 2845000000000000000 := Int.mul_le_mul_of_nonneg_left s1 h0
  have dd := dd_bd d j d1
  show 0 ≤ highV (tQ sq t d j) sq / ((d + 2 * j) * (d + 2 * j + 1)) ∧ 3 * (highV (tQ sq t d j) sq / ((d + 2 * j) * (d + 2 * j + 1))) ≤ tQ sq t d j ∧ _ ∧ _ ∧ ∀ M, _ → highV (tQ sq t d j) sq / ((d + 2 * j) * (d + 2 * j + 1)) ≤ _
  generalize highV (tQ sq t d j) sq = H at *
  generalize (1 + 2 * (j : Int)) * (2 + 2 * j) = D' at *
  generalize (d + 2 * (j : Int)) * (d + 2 * j + 1) = D at *
  have q := Int.mul_ediv_self_le (x := H) (k := D) (by omega)
  have q0 : 0 ≤ H / D := Int.ediv_nonneg h.1 (by omega)
  have q2 : 2 * (H / D) ≤ D * (H / D) := Int.mul_le_mul_of_nonneg_right (by omega) q0
  refine ⟨q0, by omega, h.1, by omega, fun M hM => ?_⟩
  apply Int.le_ediv_of_mul_le (by omega)
  have q3 : D' * (H / D) ≤ D * (H / D) := Int.mul_le_mul_of_nonneg_right dd.1 q0
  rw [Int.mul_comm]
  omega
theorem tQ_bd (sq t d : Int) (j : Nat) (s0 : 0 ≤ sq) (s1 : sq ≤ 2845000000000000000) (d1 : 1 ≤ d) (t0 : 0 ≤ t) (t1 : t ≤ 4611686018427387904) :
    0 ≤ tQ sq t d j ∧ 2 * sQ sq t d j + 3 * tQ sq t d j ≤ 3 * t ∧ -(3 * t) ≤ 2 * sQ sq t d j - 3 * tQ sq t d j := by
  induction j with
  | zero => simp only [tQ, sQ]; omega
  | succ j ih =>
    have s := tQ_step sq t d j s0 s1 d1 ih.1
    refine ⟨s.1, ?_⟩
    simp only [sQ]
    split <;> omega
def mQ : Nat → Int
  | 0 => 4611686018427387904
  | j + 1 => mQ j * 2845000000000000000 / 4611686018427387904 / ((1 + 2 * (j : Int)) * (2 + 2 * j))
theorem tQ_most (sq t d : Int) (j : Nat) (s0 : 0 ≤ sq) (s1 : sq ≤ 2845000000000000000) (d1 : 1 ≤ d) (t0 : 0 ≤ t) (t1 : t ≤ 4611686018427387904) : tQ sq t d j ≤ mQ j := by
  induction j with
  | zero => exact t1
  | succ j ih =>
    exact (tQ_step sq t d j s0 s1 d1 (tQ_bd sq t d j s0 s1 d1 t0 t1).1).2.2.2.2 _ ih
theorem tQ_end (sq t d : Int) (j : Nat) (s0 : 0 ≤ sq) (s1 : sq ≤ 2845000000000000000) (d1 : 1 ≤ d) (t0 : 0 ≤ t) (t1 : t ≤ 4611686018427387904) : tQ sq t d (10 + j) = 0 := by
  induction j with
  | zero =>
    have a := tQ_most sq t d 10 s0 s1 d1 t0 t1
    have b := tQ_bd sq t d 10 s0 s1 d1 t0 t1
    rw [show mQ 10 = 0 by decide +kernel] at a
    show tQ sq t d 10 = 0
    omega
  | succ j ih =>
    have b := tQ_bd sq t d (10 + j) s0 s1 d1 t0 t1
    have c := tQ_step sq t d (10 + j) s0 s1 d1 b.1
    rw [← Nat.add_assoc]
    omega
/-- from a zero term on the sum stays -/
theorem tQ_zero (sq t d : Int) (j k : Nat) (s0 : 0 ≤ sq) (s1 : sq ≤ 2845000000000000000) (d1 : 1 ≤ d) (h : tQ sq t d j = 0) : tQ sq t d (j + k) = 0 ∧ sQ sq t d (j + k) = sQ sq t d j := by
  induction k with
  | zero => exact ⟨h, rfl⟩
  | succ k ih =>
    have s := tQ_step sq t d (j + k) s0 s1 d1 (by rw [ih.1]; omega)
    rw [← Nat.add_assoc]
    refine ⟨by omega, ?_⟩
    simp only [sQ, ih.1, ih.2]
    split <;> omega

/-- the quick sine, or cosine -/
def quickV (r : Int) (c : Bool) : Int := sQ (highV (xQ r) (xQ r)) (if c then 4611686018427387904 else xQ r) (if c then 1 else 2) 12

/-- a round of the loop: what it reckons -/
theorem quick_round (sq t d : Int) (i : Nat) (s0 : 0 ≤ sq) (s1 : sq ≤ 2845000000000000000) (d1 : 1 ≤ d) (d2 : d ≤ 2) (t0 : 0 ≤ t) (t1 : t ≤ 4611686018427387904) (hp : 0 < tQ sq t d (2 * i)) :
    i < 5 ∧ ∃ a h1 b h2 c D P1 P2 S : Int, tQ sq t d (2 * i) = a ∧ sQ sq t d (2 * i) = S ∧ d + 4 * i = D ∧ D * (D + 1) = P1 ∧ (D + 2) * (D + 3) = P2 ∧ h1 / P1 = b ∧ h2 / P2 = c ∧ tQ sq t d (2 * (i + 1)) = c ∧ sQ sq t d (2 * (i + 1)) = S + a - b ∧
      Hid (∀ w, Calls Tryz.prog 113 #[.int .i64 a, .int .i64 sq] w fun e w' => e = .returned (.int .i64 h1) ∧ w = w') ∧ Hid (∀ w, Calls Tryz.prog 113 #[.int .i64 b, .int .i64 sq] w fun e w' => e = .returned (.int .i64 h2) ∧ w = w') ∧
      0 ≤ a ∧ a ≤ 4611686018427387904 ∧ 0 ≤ h1 ∧ h1 ≤ 4611686018427387904 ∧ 0 ≤ b ∧ b ≤ 4611686018427387904 ∧ 0 ≤ h2 ∧ h2 ≤ 4611686018427387904 ∧ 1 ≤ D ∧ D ≤ 22 ∧ 2 ≤ P1 ∧ P1 ≤ 600 ∧ 2 ≤ P2 ∧ P2 ≤ 800 ∧
      -9223372036854775808 ≤ S + a ∧ S + a ≤ 9223372036854775807 ∧ -9223372036854775808 ≤ S + a - b ∧ S + a - b ≤ 9223372036854775807 := by
  have i5 : i < 5 := by
    apply Decidable.byContradiction
    intro h
    have := tQ_end sq t d (2 * i - 10) s0 s1 d1 t0 t1
    rw [show 10 + (2 * i - 10) = 2 * i by omega] at this
    omega
  have b0 := tQ_bd sq t d (2 * i) s0 s1 d1 t0 t1
  have b1 := tQ_bd sq t d (2 * i + 1) s0 s1 d1 t0 t1
  have b2 := tQ_bd sq t d (2 * i + 1 + 1) s0 s1 d1 t0 t1
  have c0 := tQ_step sq t d (2 * i) s0 s1 d1 b0.1
  have c1 := tQ_step sq t d (2 * i + 1) s0 s1 d1 b1.1
  have e1 : sQ sq t d (2 * i + 1) = sQ sq t d (2 * i) + tQ sq t d (2 * i) := by simp only [sQ]; rw [if_pos (by omega)]
  have e2 : sQ sq t d (2 * i + 1 + 1) = sQ sq t d (2 * i + 1) - tQ sq t d (2 * i + 1) := by simp only [sQ]; rw [if_neg (by omega)]
  have p1 := Int.mul_le_mul (show d + 4 * (i : Int) ≤ 18 by omega) (show d + 4 * (i : Int) + 1 ≤ 19 by omega) (by omega) (by omega)
  have p2 := Int.mul_le_mul (show d + 4 * (i : Int) + 2 ≤ 20 by omega) (show d + 4 * (i : Int) + 3 ≤ 21 by omega) (by omega) (by omega)
  have p3 := Int.mul_le_mul (show 1 ≤ d + 4 * (i : Int) by omega) (show 2 ≤ d + 4 * (i : Int) + 1 by omega) (by omega) (by omega)
  have p4 := Int.mul_le_mul (show 1 ≤ d + 4 * (i : Int) + 2 by omega) (show 2 ≤ d + 4 * (i : Int) + 3 by omega) (by omega) (by omega)
  refine ⟨i5, _, highV (tQ sq t d (2 * i)) sq, tQ sq t d (2 * i + 1), highV (tQ sq t d (2 * i + 1)) sq, tQ sq t d (2 * i + 1 + 1), _, _, _, _, rfl, rfl, rfl, rfl, rfl, ?_, ?_, rfl, ?_,
    hidden fun w => high_any _ _ w b0.1 s0 (by omega) (by omega), hidden fun w => high_any _ _ w b1.1 s0 (by omega) (by omega), b0.1, by omega, c0.2.2.1, by omega, b1.1, by omega, c1.2.2.1, by omega, by omega, by omega, by omega, by omega, by omega, by omega, by omega, by omega, by omega, by omega⟩
  · show _ = highV (tQ sq t d (2 * i)) sq / ((d + 2 * ((2 * i : Nat) : Int)) * (d + 2 * ((2 * i : Nat) : Int) + 1))
    rw [show d + 2 * ((2 * i : Nat) : Int) = d + 4 * i by omega]
  · show _ = highV (tQ sq t d (2 * i + 1)) sq / ((d + 2 * ((2 * i + 1 : Nat) : Int)) * (d + 2 * ((2 * i + 1 : Nat) : Int) + 1))
    rw [show d + 2 * ((2 * i + 1 : Nat) : Int) = d + 4 * i + 2 by omega, show d + 4 * (i : Int) + 2 + 1 = d + 4 * i + 3 by omega]
  · show sQ sq t d (2 * i + 1 + 1) = _
    rw [e2, e1]

set_option maxRecDepth 100000 in
set_option maxHeartbeats 4000000 in
theorem quick_walk (r x sq t d : Int) (c : Bool) (w : World) (r0 : 0 ≤ r) (r1 : r ≤ 2700000) (hx : r * 2620088056 * 512 + r * 658911831 / 4194304 = x) (x0 : 0 ≤ x) (x1 : x ≤ 3622009729100000000)
    (SQ : Hid (∀ w, Calls Tryz.prog 113 #[.int .i64 x, .int .i64 x] w fun e w' => e = .returned (.int .i64 sq) ∧ w = w'))
    (s0 : 0 ≤ sq) (s1 : sq ≤ 2845000000000000000) (ht : t = if c then 4611686018427387904 else x) (hd : d = if c then 1 else 2) :
    Calls Tryz.prog 108 #[.int .i64 r, .bool c] w fun e w' => e = .returned (.int .i64 (sQ sq t d 12)) ∧ w = w' := by
  have d1 : 1 ≤ d := by cases c <;> simp at hd <;> omega
  have d2 : d ≤ 2 := by cases c <;> simp at hd <;> omega
  have t0 : 0 ≤ t := by cases c <;> simp at ht <;> omega
  have t1 : t ≤ 4611686018427387904 := by cases c <;> simp at ht <;> omega
  have R := hidden fun i (h : 0 < tQ sq t d (2 * i)) => quick_round sq t d i s0 s1 d1 d2 t0 t1 h
  have Z := hidden fun j k (h : tQ sq t d j = 0) => tQ_zero sq t d j k s0 s1 d1 h
  have B := hidden fun i => (tQ_bd sq t d (2 * i) s0 s1 d1 t0 t1).1
  have S0 : Hid (Value.int .i64 0 = .int .i64 (sQ sq t d (2 * 0))) := rfl
  cases c
  all_goals
    simp at ht hd
    have T0 : Hid (Value.int .i64 t = .int .i64 (tQ sq t d (2 * 0))) := rfl
    have D0 : Hid (Value.int .i64 d = .int .i64 (d + 4 * ((0 : Nat) : Int))) := hidden (congrArg _ (by omega))
    have HD : Hid (d = _) := hidden hd
    have HT : Hid (t = _) := hidden ht
    have SD := hidden s0
    go_enter Tryz.func108, Tryz.ntmps108
    go_wp2_with (go_at_call 113; ((with_reducible refine (SQ.out _).mono ?_); rintro e w' ⟨rfl, rfl⟩))
    go_loop [7, 8, 9] (fun T D Sm => ∃ i : Nat, i ≤ 5 ∧ T = .int .i64 (tQ sq t d (2 * i)) ∧ D = .int .i64 (d + 4 * i) ∧ Sm = .int .i64 (sQ sq t d (2 * i))) (fun _ D _ => (40 - intOf D).toNat)
    case atStart => exact ⟨0, by omega, by first | exact T0.out | (rw [← HT.out]; exact T0.out), by first | exact D0.out | (rw [← HD.out]; exact D0.out), S0.out⟩
    case round =>
      obtain ⟨i, hi, rfl, rfl, rfl⟩ := hrel
      by_cases hp : 0 < tQ sq t d (2 * i)
      · obtain ⟨i5, a, h1, b, h2, cc, D, P1, P2, S, ea, eS, eD, eP1, eP2, eb, ec, ea2, eS2, HI, HJ, a0, a1, g0, g1, b0, b1, k0, k1, l0, l1, m0, m1, n0, n1, o0, o1, q0, q1⟩ := R.out i hp
        replace ea2 := hidden ea2
        replace eS2 := hidden eS2
        have eD2 : Hid (Value.int .i64 (D + 4) = .int .i64 (d + 4 * ((i + 1 : Nat) : Int))) := hidden (congrArg _ (by omega))
        rw [ea] at hp
        rw [ea, eS, eD]
        replace eD := hidden eD
        clear ea eS
        go_wp2_with (first | (go_at_call 113; ((with_reducible refine (HI.out _).mono ?_); rintro e w' ⟨rfl, rfl⟩)) | (go_at_call 113; ((with_reducible refine (HJ.out _).mono ?_); rintro e w' ⟨rfl, rfl⟩)))
        go_round
        case rel => exact ⟨i + 1, by omega, by rw [ea2.out, ec], eD2.out, by rw [eS2.out]⟩
        case measure => simp [intOf]; omega
      · have z : tQ sq t d (2 * i) = 0 := by have := B.out i; omega
        have z12 := (Z.out (2 * i) (12 - 2 * i) z).2
        rw [show 2 * i + (12 - 2 * i) = 12 by omega] at z12
        rw [z]
        replace z := hidden z
        replace z12 := hidden z12
        clear hp
        go_wp2
        go_ret
        have z13 := z12.out
        rw [HD.out, HT.out] at z13
        exact ⟨congrArg (fun v => Ending.returned (.int .i64 v)) z13.symm, rfl⟩

theorem quick_any (r : Int) (c : Bool) (w : World) (r0 : 0 ≤ r) (r1 : r ≤ 2700000) :
    Calls Tryz.prog 108 #[.int .i64 r, .bool c] w fun e w' => e = .returned (.int .i64 (quickV r c)) ∧ w = w' := by
  have x := xQ_bd r r0 r1
  have s := sq_bd r r0 r1
  exact quick_walk r (xQ r) _ _ _ c w r0 r1 rfl x.1 x.2 (hidden fun w => high_any _ _ w x.1 x.1 (by omega) (by omega)) s.1 s.2 rfl rfl

end Go.Proofs.YtjceofmhodcefaaGreat

namespace Go.Proofs.YtjceofmhodcefaaGreat
open Go.RowKit Rot

theorem aN_bd (odd n : Int) (j : Nat) (ho : 0 ≤ odd) (hj : j ≤ 12) (T0 : 0 ≤ (piN * n) * (piN * n)) (T1 : (piN * n) * (piN * n) ≤ bN * bN) : 0 ≤ aN odd n j ∧ aN odd n j ≤ qN odd j := by
  induction j with
  | zero => exact ⟨Int.le_refl _, by show (0 : Int) ≤ 1; decide⟩
  | succ j ih =>
    have h := ih (by omega)
    have d := dT_pos odd j ho (by omega)
    have q := qN_pos odd j ho (by omega)
    have k : 0 ≤ qN odd j - aN odd n j ∧ qN odd j - aN odd n j ≤ qN odd j := by omega
    have e1 : aN odd n (j + 1) = (piN * n) * (piN * n) * (qN odd j - aN odd n j) := rfl
    have e2 : qN odd (j + 1) = dT odd (12 - j) * (bN * bN) * qN odd j := rfl
    rw [e1, e2]
    have b0 : 0 ≤ bN * bN := by decide
    have m1 : (piN * n) * (piN * n) * (qN odd j - aN odd n j) ≤ bN * bN * qN odd j := Int.mul_le_mul T1 k.2 k.1 b0
    have m2 : 1 * (bN * bN * qN odd j) ≤ dT odd (12 - j) * (bN * bN * qN odd j) := Int.mul_le_mul_of_nonneg_right (by omega) (Int.mul_nonneg b0 (by omega))
    rw [Int.mul_assoc (dT odd (12 - j)) (bN * bN) (qN odd j)]
    exact ⟨Int.mul_nonneg T0 k.1, by omega⟩

/-- one step back of the alternating sum, in plain numbers -/
theorem quick_step (W T BB d t t2 h sq R R2 Q A err err2 : Int) (hW : 0 < W) (hd : 1 ≤ d) (hB : 0 < BB) (hQ : 0 ≤ Q) (a0 : 0 ≤ A) (a1 : A ≤ Q) (t0 : 0 ≤ t) (t1 : t ≤ W)
    (h1 : h * W ≤ t * sq) (h2 : t * sq < h * W + 3 * W) (ht1 : t2 * d ≤ h) (ht2 : h < t2 * d + d) (s1 : -(8 * BB) ≤ sq * BB - W * T) (s2 : sq * BB - W * T ≤ 8 * BB)
    (r1 : -(err * Q) ≤ R2 * Q - t2 * (Q - A)) (r2 : R2 * Q - t2 * (Q - A) ≤ err * Q) (hR : R = t - R2) (he : err + 12 ≤ err2) :
    -(err2 * (d * BB * Q)) ≤ R * (d * BB * Q) - t * (d * BB * Q - T * (Q - A)) ∧ R * (d * BB * Q) - t * (d * BB * Q - T * (Q - A)) ≤ err2 * (d * BB * Q) := by
  subst hR
  have dB : 0 ≤ d * BB := Int.mul_nonneg (by omega) (by omega)
  -- d BB t2 against T t
  have k1 := mul_mid t0 s1 s2
  have k2 := Int.mul_le_mul_of_nonneg_right t1 (show 0 ≤ 8 * BB by omega)
  have k3 := Int.mul_le_mul_of_nonneg_right h1 (show 0 ≤ BB by omega)
  have k4 := Int.mul_le_mul_of_nonneg_right (Int.le_of_lt h2) (show 0 ≤ BB by omega)
  have k5 := Int.mul_le_mul_of_nonneg_left (Int.mul_le_mul_of_nonneg_right ht1 (show 0 ≤ BB by omega)) (show 0 ≤ W by omega)
  have k6 := Int.mul_le_mul_of_nonneg_left (Int.mul_le_mul_of_nonneg_right (Int.le_of_lt ht2) (show 0 ≤ BB by omega)) (show 0 ≤ W by omega)
  have k7 := Int.mul_le_mul_of_nonneg_right hd (show 0 ≤ W * BB from Int.mul_nonneg (by omega) (by omega))
  have i1 : t * (sq * BB - W * T) = t * sq * BB - W * (t * T) := by grind
  have i2 : (h * W + 3 * W) * BB = h * W * BB + 3 * (W * BB) := by grind
  have i3 : W * ((t2 * d + d) * BB) = W * (d * BB * t2) + d * (W * BB) := by grind
  have i4 : W * (t2 * d * BB) = W * (d * BB * t2) := by ac_rfl
  have i5 : W * (h * BB) = h * W * BB := by ac_rfl
  have i6 : W * (8 * BB) = 8 * (W * BB) := by ac_rfl
  have i7 : t * (8 * BB) = 8 * (t * BB) := by ac_rfl
  rw [i1, Int.mul_neg] at k1
  rw [i2] at k4
  rw [i3, i5] at k6
  rw [i4, i5] at k5
  have m : -(12 * (d * (W * BB))) ≤ W * (t * T) - W * (d * BB * t2) ∧ W * (t * T) - W * (d * BB * t2) ≤ 12 * (d * (W * BB)) := by
    rw [i6] at k2
    omega
  have m1 : -(12 * (d * BB)) ≤ t * T - d * BB * t2 ∧ t * T - d * BB * t2 ≤ 12 * (d * BB) := by
    have e1 : 12 * (d * (W * BB)) = W * (12 * (d * BB)) := by ac_rfl
    rw [e1] at m
    constructor
    · apply Int.le_of_mul_le_mul_left _ hW; rw [Int.mul_neg, Int.mul_sub]; exact m.1
    · apply Int.le_of_mul_le_mul_left _ hW; rw [Int.mul_sub]; exact m.2
  have n1 := abs_mul (show 0 ≤ Q - A by omega) m1.1 m1.2
  have n2 := Int.mul_le_mul_of_nonneg_right (show Q - A ≤ Q by omega) (show 0 ≤ 12 * (d * BB) by omega)
  have n3 := abs_mul dB r1 r2
  have n4 := Int.mul_le_mul_of_nonneg_right he (Int.mul_nonneg dB hQ)
  have j1 : (t - R2) * (d * BB * Q) - t * (d * BB * Q - T * (Q - A)) = (Q - A) * (t * T - d * BB * t2) - d * BB * (R2 * Q - t2 * (Q - A)) := by grind
  have j2 : (err + 12) * (d * BB * Q) = d * BB * (err * Q) + Q * (12 * (d * BB)) := by grind
  rw [j1]
  rw [j2] at n4
  constructor <;> omega

/-- the alternating sum from a term on -/
def rQ (sq t d : Int) : Nat → Int
  | 0 => 0
  | k + 1 => tQ sq t d (11 - k) - rQ sq t d k
theorem rQ_sum (sq t d : Int) (k : Nat) (hk : k ≤ 12) : sQ sq t d 12 = if (12 - k) % 2 = 0 then sQ sq t d (12 - k) + rQ sq t d k else sQ sq t d (12 - k) - rQ sq t d k := by
  induction k with
  | zero => simp [rQ]
  | succ k ih =>
    rw [ih (by omega)]
    obtain ⟨m, hm⟩ : ∃ m, 12 - (k + 1) = m := ⟨_, rfl⟩
    rw [show 12 - k = m + 1 by omega, hm]
    simp only [rQ, sQ]
    rw [show 11 - k = m by omega]
    by_cases h : m % 2 = 0
    · rw [if_neg (by omega), if_pos h, if_pos h]; omega
    · rw [if_pos (by omega), if_neg h, if_neg h]; omega

theorem quick_sum (odd n sq t d : Int) (ho : odd = 0 ∨ odd = 1) (hd : d = 1 + odd) (s0 : 0 ≤ sq) (s1 : sq ≤ 2845000000000000000) (t0 : 0 ≤ t) (t1 : t ≤ 4611686018427387904)
    (T0 : 0 ≤ (piN * n) * (piN * n)) (T1 : (piN * n) * (piN * n) ≤ bN * bN)
    (q1 : -(8 * (bN * bN)) ≤ sq * (bN * bN) - 4611686018427387904 * ((piN * n) * (piN * n))) (q2 : sq * (bN * bN) - 4611686018427387904 * ((piN * n) * (piN * n)) ≤ 8 * (bN * bN)) :
    -(144 * qN odd 12) ≤ sQ sq t d 12 * qN odd 12 - t * (qN odd 12 - aN odd n 12) ∧ sQ sq t d 12 * qN odd 12 - t * (qN odd 12 - aN odd n 12) ≤ 144 * qN odd 12 := by
  have d1 : 1 ≤ d := by omega
  have key : ∀ k : Nat, k ≤ 12 → -(12 * (k : Int) * qN odd k) ≤ rQ sq t d k * qN odd k - tQ sq t d (12 - k) * (qN odd k - aN odd n k) ∧ rQ sq t d k * qN odd k - tQ sq t d (12 - k) * (qN odd k - aN odd n k) ≤ 12 * (k : Int) * qN odd k := by
    intro k
    induction k with
    | zero =>
      intro _
      have z := tQ_end sq t d 2 s0 s1 d1 t0 t1
      rw [show 12 - 0 = 10 + 2 by rfl, z]
      simp [rQ]
    | succ k ih =>
      intro hk
      have h := ih (by omega)
      have b := tQ_bd sq t d (11 - k) s0 s1 d1 t0 t1
      have st := tQ_step sq t d (11 - k) s0 s1 d1 b.1
      have hv := highV_bd _ _ b.1 s0
      have dd : (d + 2 * ((11 - k : Nat) : Int)) * (d + 2 * ((11 - k : Nat) : Int) + 1) = dT odd (12 - k) := by
        unfold dT
        rw [show d + 2 * ((11 - k : Nat) : Int) = 2 * ((12 - k : Nat) : Int) - 1 + odd by omega]
        congr 1
        omega
      have e2 : tQ sq t d (12 - k) = highV (tQ sq t d (11 - k)) sq / dT odd (12 - k) := by
        rw [← dd, show 12 - k = 11 - k + 1 by omega]; rfl
      have d2 := dT_pos odd k (by omega) (by omega)
      have dm := Int.mul_ediv_self_le (x := highV (tQ sq t d (11 - k)) sq) (k := dT odd (12 - k)) (by omega)
      have dl := Int.lt_mul_ediv_self_add (x := highV (tQ sq t d (11 - k)) sq) (k := dT odd (12 - k)) (by omega)
      rw [← e2, Int.mul_comm] at dm dl
      have ab := aN_bd odd n k (by omega) (by omega) T0 T1
      have r := quick_step 4611686018427387904 ((piN * n) * (piN * n)) (bN * bN) (dT odd (12 - k)) (tQ sq t d (11 - k)) (tQ sq t d (12 - k)) (highV (tQ sq t d (11 - k)) sq) sq (rQ sq t d (k + 1)) (rQ sq t d k) (qN odd k) (aN odd n k) (12 * (k : Int)) (12 * ((k + 1 : Nat) : Int))
        (by decide) (by omega) (by decide) (Int.le_of_lt (qN_pos odd k (by omega) (by omega))) ab.1 ab.2 b.1 (by have := st.2.2.2.1; omega) hv.2.1 hv.2.2 dm dl q1 q2 h.1 h.2 rfl (by omega)
      rw [show 12 - (k + 1) = 11 - k by omega]
      exact r
  have k := key 12 (by omega)
  have e := rQ_sum sq t d 12 (by omega)
  rw [if_pos (by rfl)] at e
  have e3 : sQ sq t d (12 - 12) = 0 := rfl
  rw [e3, Int.zero_add] at e
  rw [e]
  exact k

theorem xQ_near (r : Int) (h0 : 0 ≤ r) (h1 : r ≤ 2700000) : -(2 * bN) ≤ xQ r * bN - 4611686018427387904 * (piN * r) ∧ xQ r * bN - 4611686018427387904 * (piN * r) ≤ 2 * bN := by
  unfold xQ bN piN
  omega
theorem sq_near (r : Int) (h0 : 0 ≤ r) (h1 : r ≤ 2700000) :
    -(8 * (bN * bN)) ≤ highV (xQ r) (xQ r) * (bN * bN) - 4611686018427387904 * ((piN * r) * (piN * r)) ∧ highV (xQ r) (xQ r) * (bN * bN) - 4611686018427387904 * ((piN * r) * (piN * r)) ≤ 8 * (bN * bN) := by
  have x := xQ_bd r h0 h1
  have n := xQ_near r h0 h1
  have h := highV_bd _ _ x.1 x.1
  have p := piN_bd r h0 h1
  generalize highV (xQ r) (xQ r) = sq at *
  generalize xQ r = X at *
  generalize piN * r = Y at *
  obtain ⟨e, he⟩ : ∃ e, X * bN - 4611686018427387904 * Y = e := ⟨_, rfl⟩
  rw [he] at n
  have hX : X * bN = 4611686018427387904 * Y + e := by omega
  -- the square of X bN
  have e0 : (X * bN) * (X * bN) = 4611686018427387904 * (4611686018427387904 * (Y * Y)) + 4611686018427387904 * (2 * (Y * e)) + e * e := by rw [hX]; grind
  have e1 : (X * bN) * (X * bN) = X * X * (bN * bN) := by ac_rfl
  have y1 := abs_mul p.1 n.1 n.2
  have y2 := Int.mul_le_mul_of_nonneg_right p.2 (show (0 : Int) ≤ 2 * bN by decide)
  have a1 := abs_mul (show (0 : Int) ≤ 2 * bN by decide) n.1 n.2
  have a2 : -(2 * bN * (2 * bN)) ≤ e * e ∧ e * e ≤ 2 * bN * (2 * bN) := by
    have f1 : 0 ≤ e * e := by
      rcases Int.le_total 0 e with g | g
      · exact Int.mul_nonneg g g
      · have := Int.mul_nonneg (show 0 ≤ -e by omega) (show 0 ≤ -e by omega)
        rw [Int.neg_mul_neg] at this
        exact this
    have f2 : e.natAbs * e.natAbs ≤ (2 * bN).natAbs * (2 * bN).natAbs := Nat.mul_le_mul (by omega) (by omega)
    have f3 : ((e.natAbs * e.natAbs : Nat) : Int) = e * e := Int.natAbs_mul_self
    have f4 : (((2 * bN).natAbs * (2 * bN).natAbs : Nat) : Int) = 2 * bN * (2 * bN) := Int.natAbs_mul_self
    have f0 : 0 ≤ 2 * bN * (2 * bN) := by decide
    omega
  have k1 := Int.mul_le_mul_of_nonneg_right h.2.1 (show (0 : Int) ≤ bN * bN by decide)
  have k2 := Int.mul_le_mul_of_nonneg_right (Int.le_of_lt h.2.2) (show (0 : Int) ≤ bN * bN by decide)
  have k3 : (sq * 4611686018427387904 + 3 * 4611686018427387904) * (bN * bN) = 4611686018427387904 * (sq * (bN * bN)) + 3 * 4611686018427387904 * (bN * bN) := by grind
  have k4 : sq * 4611686018427387904 * (bN * bN) = 4611686018427387904 * (sq * (bN * bN)) := by ac_rfl
  have k5 : bN * (2 * bN) = 2 * (bN * bN) := by ac_rfl
  have k6 : 2 * bN * (2 * bN) = 4 * (bN * bN) := by grind
  rw [k3] at k2
  rw [k4] at k1
  rw [k5] at y2
  rw [k6] at a2
  clear k3 k4 k5 k6 hX he a1 h x n p
  generalize sq * (bN * bN) = s at *
  generalize Y * Y = yy at *
  generalize Y * e = ye at *
  generalize e * e = ee at *
  generalize X * X * (bN * bN) = xx at *
  generalize bN * bN = bb at *
  generalize Y * (2 * bN) = z at *
  omega

/-- the quick sine or cosine of an angle up to an eighth of a turn -/
theorem quick_near (r : Nat) (c : Bool) (h1 : r ≤ 2700000) : -(147 * 73786976294838206464) ≤ 73786976294838206464 * quickV r c - (if c then eC r else eS r) ∧ 73786976294838206464 * quickV r c - (if c then eC r else eS r) ≤ 147 * 73786976294838206464 := by
  have x := xQ_bd r (by omega) (by omega)
  have s := sq_bd r (by omega) (by omega)
  have sn := sq_near r (by omega) (by omega)
  have p := piN_bd r (by omega) (by omega)
  have T0 := Int.mul_nonneg p.1 p.1
  have T1 := Int.mul_le_mul p.2 p.2 p.1 (by decide)
  have xn := xQ_near r (by omega) (by omega)
  have z0 := zN_pos
  cases c
  · have q := quick_sum 1 r _ (xQ r) 2 (Or.inr rfl) rfl s.1 s.2 x.1 (by omega) T0 T1 sn.1 sn.2
    have e : quickV r false = sQ (highV (xQ r) (xQ r)) (xQ r) 2 12 := rfl
    rw [← e] at q
    have np := (near_poly r h1).1
    simp only [Bool.false_eq_true, if_false]
    have k1 := mul_mid (show (0 : Int) ≤ bN by decide) q.1 q.2
    have ab := aN_bd 1 r 12 (by decide) (by omega) T0 T1
    have k2 := abs_mul (show 0 ≤ qN 1 12 - aN 1 r 12 by omega) xn.1 xn.2
    have k3 := Int.mul_le_mul_of_nonneg_right (show qN 1 12 - aN 1 r 12 ≤ qN 1 12 by omega) (show (0 : Int) ≤ 2 * bN by decide)
    have j1 : bN * (quickV r false * qN 1 12 - xQ r * (qN 1 12 - aN 1 r 12)) = zN * quickV r false - bN * (xQ r * (qN 1 12 - aN 1 r 12)) := by unfold zN; grind
    have j2 : (qN 1 12 - aN 1 r 12) * (xQ r * bN - 4611686018427387904 * (piN * r)) = bN * (xQ r * (qN 1 12 - aN 1 r 12)) - 4611686018427387904 * sN r := by unfold sN; grind
    have j3 : bN * (144 * qN 1 12) = 144 * zN := by unfold zN; grind
    have j4 : qN 1 12 * (2 * bN) = 2 * zN := by unfold zN; grind
    rw [Int.mul_neg, j1, j3] at k1
    rw [j2] at k2
    rw [j4] at k3
    clear e q T0 T1 sn s x xn ab j1 j2 j3 j4 p
    generalize quickV r false = v at *
    generalize eS r = u at *
    generalize bN * (xQ r * (qN 1 12 - aN 1 r 12)) = y at *
    generalize (qN 1 12 - aN 1 r 12) * (2 * bN) = y2 at *
    generalize sN r = y3 at *
    have i1 : zN * (73786976294838206464 * v - u) = 73786976294838206464 * (zN * v) - zN * u := by grind
    constructor
    · apply Int.le_of_mul_le_mul_left _ z0
      rw [i1]
      generalize zN * v = a1 at *
      generalize zN * u = a2 at *
      generalize zN = z at *
      omega
    · apply Int.le_of_mul_le_mul_left _ z0
      rw [i1]
      generalize zN * v = a1 at *
      generalize zN * u = a2 at *
      generalize zN = z at *
      omega
  · have q := quick_sum 0 r _ 4611686018427387904 1 (Or.inl rfl) rfl s.1 s.2 (by decide) (by omega) T0 T1 sn.1 sn.2
    have e : quickV r true = sQ (highV (xQ r) (xQ r)) 4611686018427387904 1 12 := rfl
    rw [← e] at q
    have np := (near_poly r h1).2
    simp only [if_true]
    have k1 := mul_mid (show (0 : Int) ≤ 25 * bN by decide) q.1 q.2
    have j1 : 25 * bN * (quickV r true * qN 0 12 - 4611686018427387904 * (qN 0 12 - aN 0 r 12)) = zN * quickV r true - 4611686018427387904 * cN r := by rw [zN_is]; unfold cN; grind
    have j3 : 25 * bN * (144 * qN 0 12) = 144 * zN := by rw [zN_is]; grind
    rw [Int.mul_neg, j1, j3] at k1
    clear e q T0 T1 sn s x xn j1 j3 p
    generalize quickV r true = v at *
    generalize eC r = u at *
    generalize cN r = y3 at *
    have i1 : zN * (73786976294838206464 * v - u) = 73786976294838206464 * (zN * v) - zN * u := by grind
    constructor
    · apply Int.le_of_mul_le_mul_left _ z0
      rw [i1]
      generalize zN * v = a1 at *
      generalize zN * u = a2 at *
      generalize zN = z at *
      omega
    · apply Int.le_of_mul_le_mul_left _ z0
      rw [i1]
      generalize zN * v = a1 at *
      generalize zN * u = a2 at *
      generalize zN = z at *
      omega

/-- the quick sine of an angle: its part of the first quarter -/
def quickA (n : Int) : Int :=
  if 2700000 < n % 5400000 then quickV (5400000 - n % 5400000) (!decide (n % 21600000 / 5400000 % 2 = 1)) else quickV (n % 5400000) (decide (n % 21600000 / 5400000 % 2 = 1))
theorem quickA_near (n : Int) : -(148 * 73786976294838206464) ≤ 73786976294838206464 * quickA n - gS (redA n) ∧ 73786976294838206464 * quickA n - gS (redA n) ≤ 148 * 73786976294838206464 := by
  have o : n % 21600000 / 5400000 % 2 = 0 ∨ n % 21600000 / 5400000 % 2 = 1 := by omega
  have en := fun k h => eighth_near k h
  unfold quickA
  by_cases h : 2700000 < n % 5400000
  · rw [if_pos h]
    obtain ⟨k, hk⟩ : ∃ k : Nat, 5400000 - n % 5400000 = k := ⟨(5400000 - n % 5400000).toNat, by omega⟩
    rw [hk]
    rcases o with o | o
    · have e : redA n = 5400000 - (k : Int) := by unfold redA; repeat' split
                                                  all_goals omega
      have q := quick_near k true (by omega)
      have d : decide (n % 21600000 / 5400000 % 2 = 1) = false := by simp [o]
      rw [d, e, gS_high k (by omega)]
      simp only [if_true, Bool.not_false] at q ⊢
      omega
    · have e : redA n = (k : Int) := by unfold redA; repeat' split
                                        all_goals omega
      have q := quick_near k false (by omega)
      have d : decide (n % 21600000 / 5400000 % 2 = 1) = true := by simp [o]
      rw [d, e, gS_low k (by omega)]
      simp only [Bool.false_eq_true, if_false, Bool.not_true] at q ⊢
      omega
  · rw [if_neg h]
    obtain ⟨k, hk⟩ : ∃ k : Nat, n % 5400000 = k := ⟨(n % 5400000).toNat, by omega⟩
    rw [hk]
    rcases o with o | o
    · have e : redA n = (k : Int) := by unfold redA; repeat' split
                                        all_goals omega
      have q := quick_near k false (by omega)
      have d : decide (n % 21600000 / 5400000 % 2 = 1) = false := by simp [o]
      rw [d, e, gS_low k (by omega)]
      simp only [Bool.false_eq_true, if_false] at q ⊢
      omega
    · have e : redA n = 5400000 - (k : Int) := by unfold redA; repeat' split
                                                  all_goals omega
      have q := quick_near k true (by omega)
      have d : decide (n % 21600000 / 5400000 % 2 = 1) = true := by simp [o]
      rw [d, e]
      simp only [if_true] at q ⊢
      by_cases g : k < 2700000
      · rw [gS_high k g]; omega
      · have e8 := en k (by omega)
        rw [show 5400000 - (k : Int) = k by omega, gS_low k (by omega)]
        omega

theorem good_cases (r : Int) (h0 : 0 ≤ r) (h1 : r ≤ 5400000) (h : exactB r = false) : ∃ m, gS r = m ∧ 2 ^ 76 ≤ m % 2 ^ 98 ∧ m % 2 ^ 98 ≤ 2 ^ 98 - 2 ^ 76 := by
  have k : ¬ r = 0 ∧ ¬ r = 1800000 ∧ ¬ r = 5400000 := by
    unfold exactB at h; simp at h; omega
  refine ⟨_, rfl, ?_⟩
  by_cases h2 : r ≤ 2700000
  · obtain ⟨j, rfl⟩ : ∃ j : Nat, r = j := ⟨r.toNat, by omega⟩
    have g := (E_good j (by omega) (by omega)).1 (by omega)
    rw [gS_low j (by omega)]
    unfold eS
    unfold good at g
    omega
  · obtain ⟨j, hj⟩ : ∃ j : Nat, r = 5400000 - (j : Int) := ⟨(5400000 - r).toNat, by omega⟩
    have g := (E_good j (by omega) (by omega)).2
    rw [hj, gS_high j (by omega)]
    unfold eC
    unfold good at g
    omega
/-- what the quick sine tells, for an angle that is not exact -/
theorem quick_floor (n : Int) (h : exactB (redA n) = false) : (quickA n - 256) / 4294967296 = sinLo (redA n) ∧ (quickA n + 256) / 4294967296 = sinLo (redA n) ∧ 300 ≤ quickA n - 4294967296 * sinLo (redA n) ∧ quickA n - 4294967296 * sinLo (redA n) ≤ 4294967296 - 300 := by
  have r := redA_bd n
  have q := quickA_near n
  obtain ⟨m, e, g⟩ := good_cases (redA n) r.1 r.2 h
  have s := sinLo_near (redA n) r.1 r.2
  have u : upB (redA n) = sinLo (redA n) + 1 := by unfold upB; rw [h]; rfl
  rw [u] at s
  rw [e] at q s
  generalize quickA n = v at *
  generalize sinLo (redA n) = l at *
  omega

end Go.Proofs.YtjceofmhodcefaaGreat

namespace Go.Proofs.YtjceofmhodcefaaGreat
open Go.RowKit Rot

theorem sQ_bd (sq t d : Int) (s0 : 0 ≤ sq) (s1 : sq ≤ 2845000000000000000) (d1 : 1 ≤ d) (t0 : 0 ≤ t) (t1 : t ≤ 4611686018427387904) : -6917529027641081856 ≤ sQ sq t d 12 ∧ sQ sq t d 12 ≤ 6917529027641081856 := by
  have := tQ_bd sq t d 12 s0 s1 d1 t0 t1
  omega
theorem quickV_bd (r : Int) (c : Bool) (r0 : 0 ≤ r) (r1 : r ≤ 2700000) : -6917529027641081856 ≤ quickV r c ∧ quickV r c ≤ 6917529027641081856 := by
  have x := xQ_bd r r0 r1
  have s := sq_bd r r0 r1
  unfold quickV
  cases c
  · exact sQ_bd _ _ _ s.1 s.2 (by simp) x.1 (by simp; omega)
  · exact sQ_bd _ _ _ s.1 s.2 (by simp) (by simp) (by simp)
theorem quickA_bd (n : Int) : -6917529027641081856 ≤ quickA n ∧ quickA n ≤ 6917529027641081856 := by
  unfold quickA
  split
  · exact quickV_bd _ _ (by omega) (by omega)
  · exact quickV_bd _ _ (by omega) (by omega)

/-- the remainder as Go has it, and the angle's place in a turn -/
theorem tmod_turn (n : Int) : ∃ t, n.tmod 21600000 = t ∧ ((t < 0 ∧ t + 21600000 = n % 21600000) ∨ (0 ≤ t ∧ t = n % 21600000)) ∧ -21600000 < t ∧ t < 21600000 := by
  refine ⟨_, rfl, ?_⟩
  have hd := Int.mul_tdiv_add_tmod n 21600000
  have e := Int.natAbs_tmod n 21600000
  have e2 : Int.natAbs 21600000 = 21600000 := rfl
  rw [e2] at e
  generalize n.tdiv 21600000 = q at *
  by_cases hn : 0 ≤ n
  · have h : n.tmod 21600000 = n % 21600000 := Int.tmod_eq_emod_of_nonneg hn
    rw [h] at *
    omega
  · have h : n.tmod 21600000 = -((-n).tmod 21600000) := by rw [Int.neg_tmod, Int.neg_neg]
    rw [Int.tmod_eq_emod_of_nonneg (show 0 ≤ -n by omega)] at h
    generalize n.tmod 21600000 = t at *
    omega

set_option maxHeartbeats 4000000 in
theorem bigquick_walk (n t m q r r2 v : Int) (c : Bool) (w : World) (ht : n.tmod 21600000 = t) (t0 : -21600000 < t) (t1 : t < 21600000) (hm : (t < 0 ∧ t + 21600000 = m) ∨ (0 ≤ t ∧ t = m)) (m0 : 0 ≤ m) (m1 : m < 21600000)
    (hq : m / 5400000 = q) (hr : m % 5400000 = r) (h2 : r2 = if 2700000 < r then 5400000 - r else r) (hc : c = if 2700000 < r then !decide (q % 2 = 1) else decide (q % 2 = 1))
    (Q : Hid (∀ w, Calls Tryz.prog 108 #[.int .i64 r2, .bool c] w fun e w' => e = .returned (.int .i64 v) ∧ w = w')) (v0 : -6917529027641081856 ≤ v) (v1 : v ≤ 6917529027641081856) :
    Calls Tryz.prog 100 #[.int .i64 n] w fun e w' => e = .returned (.int .i64 (if 10800000 ≤ m then -v else v)) ∧ Below w.heap.size w w' := by
  have q4 : (q = 0 ∧ ¬ 10800000 ≤ m) ∨ (q = 1 ∧ ¬ 10800000 ≤ m) ∨ (q = 2 ∧ 10800000 ≤ m) ∨ (q = 3 ∧ 10800000 ≤ m) := by omega
  have r0 : 0 ≤ r := by omega
  have r1 : r < 5400000 := by omega
  rcases hm with ⟨tn, hm⟩ | ⟨tp, rfl⟩
  all_goals
    rcases q4 with ⟨rfl, hn⟩ | ⟨rfl, hn⟩ | ⟨rfl, hn⟩ | ⟨rfl, hn⟩
    all_goals
      (first | rw [if_neg hn] | rw [if_pos hn])
      clear hn
      by_cases h3 : 2700000 < r
      all_goals
        (first | rw [if_pos h3] at h2 hc | rw [if_neg h3] at h2 hc)
        simp at hc
        subst hc h2
        go_enter Tryz.func100, Tryz.ntmps100
        go_wp2_with (go_at_call 108; ((with_reducible refine (Q.out _).mono ?_); rintro e w' ⟨rfl, rfl⟩))
        go_ret
        exact ⟨rfl, by (repeat (first | exact Below.refl _ _ | refine bl_drewN ?_ | refine bl_drew ?_ | refine bl_alloc ?_ _ | refine Below.setCell ?_ (by (first | (simp; done) | (simp; omega) | omega)) _ | refine bl_step (by assumption) ?_))⟩

theorem bigquick_any (n : Int) (w : World) : Calls Tryz.prog 100 #[.int .i64 n] w fun e w' => e = .returned (.int .i64 (if 10800000 ≤ n % 21600000 then -quickA n else quickA n)) ∧ Below w.heap.size w w' := by
  obtain ⟨t, ht, hm, t0, t1⟩ := tmod_turn n
  have b := quickA_bd n
  have e : n % 21600000 % 5400000 = n % 5400000 := by omega
  refine bigquick_walk n t (n % 21600000) _ _ (if 2700000 < n % 21600000 % 5400000 then 5400000 - n % 21600000 % 5400000 else n % 21600000 % 5400000) (quickA n) _ w ht t0 t1 hm (by omega) (by omega) rfl rfl rfl rfl (hidden fun w => ?_) b.1 b.2
  rw [e]
  unfold quickA
  by_cases h : 2700000 < n % 5400000
  · rw [if_pos h, if_pos h, if_pos h]
    exact quick_any _ _ w (by omega) (by omega)
  · rw [if_neg h, if_neg h, if_neg h]
    exact quick_any _ _ w (by omega) (by omega)

end Go.Proofs.YtjceofmhodcefaaGreat

namespace Go.Proofs.YtjceofmhodcefaaGreat
open Go.RowKit Rot

set_option maxHeartbeats 4000000 in
theorem exact_out (n t m z : Int) (w : World) (ht : n.tmod 21600000 = t) (t0 : -21600000 < t) (t1 : t < 21600000) (hm : (t < 0 ∧ t + 21600000 = m) ∨ (0 ≤ t ∧ t = m)) (m0 : 0 ≤ m) (m1 : m < 21600000)
    (hz : m % 1800000 = z) (z0 : (z == 0) = false) :
    Calls Tryz.prog 99 #[.int .i64 n] w fun e w' => e = .returned (.tuple #[.int .i64 0, .bool false]) ∧ Below w.heap.size w w' := by
  rcases hm with ⟨tn, hm⟩ | ⟨tp, rfl⟩
  all_goals
    go_enter Tryz.func99, Tryz.ntmps99
    go_wp2
    go_ret2
    exact ⟨rfl, by (repeat (first | exact Below.refl _ _ | refine bl_drewN ?_ | refine bl_drew ?_ | refine bl_alloc ?_ _ | refine Below.setCell ?_ (by (first | (simp; done) | (simp; omega) | omega)) _ | refine bl_step (by assumption) ?_))⟩

set_option maxRecDepth 100000 in
set_option maxHeartbeats 8000000 in
theorem exact_in (n t m k v : Int) (b : Bool) (w : World) (ht : n.tmod 21600000 = t) (t0 : -21600000 < t) (t1 : t < 21600000) (hm : (t < 0 ∧ t + 21600000 = m) ∨ (0 ≤ t ∧ t = m)) (hk : m = k * 1800000)
    (hv : (k = 0 ∧ v = 0 ∧ b = true) ∨ (k = 1 ∧ v = 536870912 ∧ b = true) ∨ (k = 2 ∧ v = 0 ∧ b = false) ∨ (k = 3 ∧ v = 1073741824 ∧ b = true) ∨ (k = 4 ∧ v = 0 ∧ b = false) ∨ (k = 5 ∧ v = 536870912 ∧ b = true) ∨
      (k = 6 ∧ v = 0 ∧ b = true) ∨ (k = 7 ∧ v = -536870912 ∧ b = true) ∨ (k = 8 ∧ v = 0 ∧ b = false) ∨ (k = 9 ∧ v = -1073741824 ∧ b = true) ∨ (k = 10 ∧ v = 0 ∧ b = false) ∨ (k = 11 ∧ v = -536870912 ∧ b = true)) :
    Calls Tryz.prog 99 #[.int .i64 n] w fun e w' => e = .returned (.tuple #[.int .i64 v, .bool b]) ∧ Below w.heap.size w w' := by
  rcases hm with ⟨tn, hm⟩ | ⟨tp, rfl⟩
  all_goals
    rcases hv with ⟨rfl, rfl, rfl⟩ | ⟨rfl, rfl, rfl⟩ | ⟨rfl, rfl, rfl⟩ | ⟨rfl, rfl, rfl⟩ | ⟨rfl, rfl, rfl⟩ | ⟨rfl, rfl, rfl⟩ | ⟨rfl, rfl, rfl⟩ | ⟨rfl, rfl, rfl⟩ | ⟨rfl, rfl, rfl⟩ | ⟨rfl, rfl, rfl⟩ | ⟨rfl, rfl, rfl⟩ | ⟨rfl, rfl, rfl⟩
    all_goals
      simp at hk
      subst hk
      first
        | omega
        | (go_enter Tryz.func99, Tryz.ntmps99
           go_wp2
           go_ret2
           exact ⟨rfl, by (repeat (first | exact Below.refl _ _ | refine bl_drewN ?_ | refine bl_drew ?_ | refine bl_alloc ?_ _ | refine Below.setCell ?_ (by (first | (simp; done) | (simp; omega) | omega)) _ | refine bl_step (by assumption) ?_))⟩)

theorem exact_any (n : Int) (w : World) :
    Calls Tryz.prog 99 #[.int .i64 n] w fun e w' => e = .returned (.tuple #[.int .i64 (if exactB (redA n) then bLo n else 0), .bool (exactB (redA n))]) ∧ Below w.heap.size w w' := by
  obtain ⟨t, ht, hm, t0, t1⟩ := tmod_turn n
  by_cases hz : n % 21600000 % 1800000 = 0
  · obtain ⟨k, hk⟩ : ∃ k, n % 21600000 = k * 1800000 := ⟨n % 21600000 / 1800000, by omega⟩
    have k12 : k = 0 ∨ k = 1 ∨ k = 2 ∨ k = 3 ∨ k = 4 ∨ k = 5 ∨ k = 6 ∨ k = 7 ∨ k = 8 ∨ k = 9 ∨ k = 10 ∨ k = 11 := by omega
    refine exact_in n t _ k _ _ w ht t0 t1 hm hk ?_
    have hr : redA n = if 10800000 < k * 1800000 then (if 5400000 < k * 1800000 - 10800000 then 10800000 - (k * 1800000 - 10800000) else k * 1800000 - 10800000) else (if 5400000 < k * 1800000 then 10800000 - k * 1800000 else k * 1800000) := by unfold redA; rw [hk]
    have hb : bLo n = if 10800000 < k * 1800000 then -(upB (redA n)) else sinLo (redA n) := by unfold bLo; rw [hk]
    rw [hb, hr]
    rcases k12 with rfl | rfl | rfl | rfl | rfl | rfl | rfl | rfl | rfl | rfl | rfl | rfl <;> simp [exactB, upB, sinLo]
  · have e : exactB (redA n) = false := by
      have : ¬ redA n = 0 ∧ ¬ redA n = 1800000 ∧ ¬ redA n = 5400000 := by
        unfold redA
        repeat' split
        all_goals omega
      simp [exactB, this]
    rw [e]
    exact exact_out n t _ _ w ht t0 t1 hm (by omega) (by omega) rfl (by simpa using hz)

end Go.Proofs.YtjceofmhodcefaaGreat

namespace Go.Proofs.YtjceofmhodcefaaGreat
open Go.RowKit Rot

set_option maxHeartbeats 4000000 in
theorem floor6_exact (n f : Int) (w : World)
    (X : Hid (∀ w, Calls Tryz.prog 99 #[.int .i64 n] w fun e w' => e = .returned (.tuple #[.int .i64 f, .bool true]) ∧ Below w.heap.size w w')) :
    Calls Tryz.prog 93 #[.int .i64 n] w fun e w' => e = .returned (.tuple #[.int .i64 f, .bool true]) ∧ Below w.heap.size w w' := by
  go_enter Tryz.func93, Tryz.ntmps93
  go_wp2_with (go_at_call 99; ((with_reducible refine (X.out _).mono ?_); rintro e w' ⟨rfl, hb⟩); (try replace hb := below_undrew hb); (try replace hb := below_undrewN hb); obtain ⟨hcell, hfroz⟩ := bcell hb; have hz := hb.size; (try simp at hz); (try (have z6 := Nat.lt_of_lt_of_le z7 hz)); (try (have z7 := Nat.lt_of_lt_of_le z8 hz)); (try (have z8 := Nat.lt_of_lt_of_le z9 hz)); (try (have z9 := Nat.lt_of_lt_of_le (Nat.lt_succ_self _) hz)); (try (have z0 : w.heap.size < w'.heap.size := by omega)); (try (have z1 : w.heap.size + 1 < w'.heap.size := by omega)); (try (have z2 : w.heap.size + 1 + 1 < w'.heap.size := by omega)); (try (have z3 : w.heap.size + 1 + 1 + 1 < w'.heap.size := by omega)))
  go_ret2
  exact ⟨rfl, by (repeat (first | exact Below.refl _ _ | refine bl_drewN ?_ | refine bl_drew ?_ | refine bl_alloc ?_ _ | refine Below.setCell ?_ (by (first | (simp; done) | (simp; omega) | omega)) _ | refine bl_step (by assumption) ?_))⟩
set_option maxHeartbeats 4000000 in
theorem floor6_quick (n f v g : Int) (w : World)
    (X : Hid (∀ w, Calls Tryz.prog 99 #[.int .i64 n] w fun e w' => e = .returned (.tuple #[.int .i64 g, .bool false]) ∧ Below w.heap.size w w'))
    (Q : Hid (∀ w, Calls Tryz.prog 100 #[.int .i64 n] w fun e w' => e = .returned (.int .i64 v) ∧ Below w.heap.size w w'))
    (v0 : -6917529027641081856 ≤ v) (v1 : v ≤ 6917529027641081856) (e1 : (v - 256) / 4294967296 = f) (e2 : (v + 256) / 4294967296 = f) (e3 : v / 4294967296 = f) :
    Calls Tryz.prog 93 #[.int .i64 n] w fun e w' => e = .returned (.tuple #[.int .i64 f, .bool false]) ∧ Below w.heap.size w w' := by
  go_enter Tryz.func93, Tryz.ntmps93
  go_wp2_with ((first | (go_at_call 99; ((with_reducible refine (X.out _).mono ?_); rintro e w' ⟨rfl, hb⟩)) | (go_at_call 100; ((with_reducible refine (Q.out _).mono ?_); rintro e w' ⟨rfl, hb⟩))); (try replace hb := below_undrew hb); (try replace hb := below_undrewN hb); obtain ⟨hcell, hfroz⟩ := bcell hb; have hz := hb.size; (try simp at hz); (try (have z6 := Nat.lt_of_lt_of_le z7 hz)); (try (have z7 := Nat.lt_of_lt_of_le z8 hz)); (try (have z8 := Nat.lt_of_lt_of_le z9 hz)); (try (have z9 := Nat.lt_of_lt_of_le (Nat.lt_succ_self _) hz)); (try (have z0 : w.heap.size < w'.heap.size := by omega)); (try (have z1 : w.heap.size + 1 < w'.heap.size := by omega)); (try (have z2 : w.heap.size + 1 + 1 < w'.heap.size := by omega)); (try (have z3 : w.heap.size + 1 + 1 + 1 < w'.heap.size := by omega)))
  go_ret2
  exact ⟨rfl, by (repeat (first | exact Below.refl _ _ | refine bl_drewN ?_ | refine bl_drew ?_ | refine bl_alloc ?_ _ | refine Below.setCell ?_ (by (first | (simp; done) | (simp; omega) | omega)) _ | refine bl_step (by assumption) ?_))⟩

theorem floor6_any (n : Int) (w : World) :
    Calls Tryz.prog 93 #[.int .i64 n] w fun e w' => e = .returned (.tuple #[.int .i64 (bLo n), .bool (exactB (redA n))]) ∧ Below w.heap.size w w' := by
  have X := fun w => exact_any n w
  cases h : exactB (redA n)
  · rw [h] at X
    have Q := fun w => bigquick_any n w
    have b := quickA_bd n
    have f := quick_floor n h
    have u : upB (redA n) = sinLo (redA n) + 1 := by unfold upB; rw [h]; rfl
    have hb : bLo n = if 10800000 < n % 21600000 then -(sinLo (redA n) + 1) else sinLo (redA n) := by unfold bLo; rw [u]
    have hm : ¬ n % 21600000 = 10800000 := by
      intro hm
      have : redA n = 0 := redA_zero (Or.inr hm)
      rw [this] at h
      cases h
    by_cases hs : 10800000 ≤ n % 21600000
    · rw [if_pos hs] at Q
      rw [if_pos (by omega)] at hb
      rw [hb]
      exact floor6_quick n _ _ _ w (hidden X) (hidden Q) (by omega) (by omega) (by omega) (by omega) (by omega)
    · rw [if_neg hs] at Q
      rw [if_neg (by omega)] at hb
      rw [hb]
      exact floor6_quick n _ _ _ w (hidden X) (hidden Q) (by omega) (by omega) (by omega) (by omega) (by omega)
  · rw [h, if_pos rfl] at X
    exact floor6_exact n _ w (hidden X)

end Go.Proofs.YtjceofmhodcefaaGreat

namespace Go.Proofs.YtjceofmhodcefaaGreat
open Go.RowKit Rot

theorem bHi_is (n : Int) : bHi n = if exactB (redA n) then bLo n else bLo n + 1 := by
  unfold bHi bLo upB
  cases exactB (redA n) <;> split <;> simp <;> omega

set_option maxHeartbeats 1000000 in
theorem ends_walk (n f : Int) (x : Bool) (w : World) (f0 : -1073741824 ≤ f) (f1 : f ≤ 1073741824)
    (F : Hid (∀ w, Calls Tryz.prog 93 #[.int .i64 n] w fun e w' => e = .returned (.tuple #[.int .i64 f, .bool x]) ∧ Below w.heap.size w w')) :
    Calls Tryz.prog 74 #[.int .i64 n] w fun e w' => e = .returned (.tuple #[.int .i64 f, .int .i64 (if x then f else f + 1)]) ∧ Below w.heap.size w w' := by
  cases x
  all_goals
    simp only [Bool.false_eq_true, if_false, if_true]
    go_enter Tryz.func74, Tryz.ntmps74
    go_wp2_with (go_at_call 93; ((with_reducible refine (F.out _).mono ?_); rintro e w' ⟨rfl, hb⟩); (try replace hb := below_undrew hb); (try replace hb := below_undrewN hb); obtain ⟨hcell, hfroz⟩ := bcell hb; have hz := hb.size; (try simp at hz); (try (have z6 := Nat.lt_of_lt_of_le z7 hz)); (try (have z7 := Nat.lt_of_lt_of_le z8 hz)); (try (have z8 := Nat.lt_of_lt_of_le z9 hz)); (try (have z9 := Nat.lt_of_lt_of_le (Nat.lt_succ_self _) hz)); (try (have z0 : w.heap.size < w'.heap.size := by omega)); (try (have z1 : w.heap.size + 1 < w'.heap.size := by omega)); (try (have z2 : w.heap.size + 1 + 1 < w'.heap.size := by omega)); (try (have z3 : w.heap.size + 1 + 1 + 1 < w'.heap.size := by omega)))
    go_ret2
    exact ⟨rfl, by (repeat (first | exact Below.refl _ _ | refine bl_drewN ?_ | refine bl_drew ?_ | refine bl_alloc ?_ _ | refine Below.setCell ?_ (by (first | (simp; done) | (simp; omega) | omega)) _ | refine bl_step (by assumption) ?_))⟩
theorem ends_any (n : Int) (w : World) :
    Calls Tryz.prog 74 #[.int .i64 n] w fun e w' => e = .returned (.tuple #[.int .i64 (bLo n), .int .i64 (bHi n)]) ∧ Below w.heap.size w w' := by
  have b := b_bd n
  rw [bHi_is]
  exact ends_walk n _ _ w (by omega) (by omega) (hidden fun w => floor6_any n w)

set_option maxHeartbeats 2000000 in
theorem has_walk (a b n t d : Int) (w : World) (a0 : -1099517027776 ≤ a) (a1 : a ≤ 1099517027776) (_b0 : -1099517027776 ≤ b) (_b1 : b ≤ 1099517027776) (n0 : -21600000 ≤ n) (n1 : n ≤ 21600000)
    (ht : (n - a).tmod 21600000 = t) (t0 : -21600000 < t) (t1 : t < 21600000) (hm : (t < 0 ∧ t + 21600000 = d) ∨ (0 ≤ t ∧ t = d)) (d0 : 0 ≤ d) (d1 : d < 21600000) :
    Calls Tryz.prog 75 #[.agg #[.int .i64 (a), .int .i64 (b)], .int .i64 n] w fun e w' => e = .returned (.bool (decide (a + d ≤ b))) ∧ Below w.heap.size w w' := by
  rcases hm with ⟨tn, hm⟩ | ⟨tp, rfl⟩
  · go_enter Tryz.func75, Tryz.ntmps75
    go_wp2
    go_ret
    exact ⟨rfl, by (repeat (first | exact Below.refl _ _ | refine bl_drewN ?_ | refine bl_drew ?_ | refine bl_alloc ?_ _ | refine Below.setCell ?_ (by (first | (simp; done) | (simp; omega) | omega)) _ | refine bl_step (by assumption) ?_))⟩
  · go_enter Tryz.func75, Tryz.ntmps75
    go_wp2
    go_ret
    exact ⟨rfl, by (repeat (first | exact Below.refl _ _ | refine bl_drewN ?_ | refine bl_drew ?_ | refine bl_alloc ?_ _ | refine Below.setCell ?_ (by (first | (simp; done) | (simp; omega) | omega)) _ | refine bl_step (by assumption) ?_))⟩
theorem has_any (a b n : Int) (w : World) (a0 : -1099517027776 ≤ a) (a1 : a ≤ 1099517027776) (b0 : -1099517027776 ≤ b) (b1 : b ≤ 1099517027776) (n0 : -21600000 ≤ n) (n1 : n ≤ 21600000) :
    Calls Tryz.prog 75 #[.agg #[.int .i64 (a), .int .i64 (b)], .int .i64 n] w fun e w' => e = .returned (.bool (meetB a b n)) ∧ Below w.heap.size w w' := by
  obtain ⟨t, ht, hm, t0, t1⟩ := tmod_turn (n - a)
  have h := has_walk a b n t _ w a0 a1 b0 b1 n0 n1 ht t0 t1 hm (by omega) (by omega)
  have e : meetB a b n = decide (a + (n - a) % 21600000 ≤ b) := by unfold meetB; rw [decide_eq_decide]; omega
  rw [e]
  exact h

set_option maxHeartbeats 1000000 in
theorem sine6_walk (a b p q r s L H : Int) (U V : Bool) (w : World)
    (A : Hid (∀ w, Calls Tryz.prog 74 #[.int .i64 a] w fun e w' => e = .returned (.tuple #[.int .i64 p, .int .i64 q]) ∧ Below w.heap.size w w'))
    (B : Hid (∀ w, Calls Tryz.prog 74 #[.int .i64 b] w fun e w' => e = .returned (.tuple #[.int .i64 r, .int .i64 s]) ∧ Below w.heap.size w w'))
    (M1 : Hid (∀ w, Calls Tryz.prog 75 #[.agg #[.int .i64 (a), .int .i64 (b)], .int .i64 5400000] w fun e w' => e = .returned (.bool U) ∧ Below w.heap.size w w'))
    (M3 : Hid (∀ w, Calls Tryz.prog 75 #[.agg #[.int .i64 (a), .int .i64 (b)], .int .i64 (-5400000)] w fun e w' => e = .returned (.bool V) ∧ Below w.heap.size w w'))
    (hL : (if V then -1073741824 else min p r) = L) (hH : (if U then 1073741824 else max q s) = H) :
    Calls Tryz.prog 50 #[.agg #[.int .i64 (a), .int .i64 (b)]] w fun e w' => e = .returned (.agg #[.int .i64 (L), .int .i64 (H)]) ∧ Below w.heap.size w w' := by
  cases U <;> cases V
  all_goals
    simp at hL hH
    subst hL hH
    go_enter Tryz.func50, Tryz.ntmps50
    go_wp2_with ((first | (go_at_call 74; ((with_reducible refine (A.out _).mono ?_); rintro e w' ⟨rfl, hb⟩)) | (go_at_call 74; ((with_reducible refine (B.out _).mono ?_); rintro e w' ⟨rfl, hb⟩)) | (go_at_call 75; ((with_reducible refine (M1.out _).mono ?_); rintro e w' ⟨rfl, hb⟩)) | (go_at_call 75; ((with_reducible refine (M3.out _).mono ?_); rintro e w' ⟨rfl, hb⟩))); (try replace hb := below_undrew hb); (try replace hb := below_undrewN hb); obtain ⟨hcell, hfroz⟩ := bcell hb; have hz := hb.size; (try simp at hz); (try (have z6 := Nat.lt_of_lt_of_le z7 hz)); (try (have z7 := Nat.lt_of_lt_of_le z8 hz)); (try (have z8 := Nat.lt_of_lt_of_le z9 hz)); (try (have z9 := Nat.lt_of_lt_of_le (Nat.lt_succ_self _) hz)); (try (have z0 : w.heap.size < w'.heap.size := by omega)); (try (have z1 : w.heap.size + 1 < w'.heap.size := by omega)); (try (have z2 : w.heap.size + 1 + 1 < w'.heap.size := by omega)); (try (have z3 : w.heap.size + 1 + 1 + 1 < w'.heap.size := by omega)))
    first
      | exact bodyPost_ret (v := .agg #[.int .i64 (min p r), .int .i64 (max q s)]) (by first | (simp only [results, Tryz.results50]; go_simp; done) | simp [results, Tryz.results50, go_sem, *]) rfl ⟨rfl, by (repeat (first | exact Below.refl _ _ | refine bl_drewN ?_ | refine bl_drew ?_ | refine bl_alloc ?_ _ | refine Below.setCell ?_ (by (first | (simp; done) | (simp; omega) | omega)) _ | refine bl_step (by assumption) ?_))⟩
      | exact bodyPost_ret (v := .agg #[.int .i64 (-1073741824), .int .i64 (max q s)]) (by first | (simp only [results, Tryz.results50]; go_simp; done) | simp [results, Tryz.results50, go_sem, *]) rfl ⟨rfl, by (repeat (first | exact Below.refl _ _ | refine bl_drewN ?_ | refine bl_drew ?_ | refine bl_alloc ?_ _ | refine Below.setCell ?_ (by (first | (simp; done) | (simp; omega) | omega)) _ | refine bl_step (by assumption) ?_))⟩
      | exact bodyPost_ret (v := .agg #[.int .i64 (min p r), .int .i64 (1073741824)]) (by first | (simp only [results, Tryz.results50]; go_simp; done) | simp [results, Tryz.results50, go_sem, *]) rfl ⟨rfl, by (repeat (first | exact Below.refl _ _ | refine bl_drewN ?_ | refine bl_drew ?_ | refine bl_alloc ?_ _ | refine Below.setCell ?_ (by (first | (simp; done) | (simp; omega) | omega)) _ | refine bl_step (by assumption) ?_))⟩
      | exact bodyPost_ret (v := .agg #[.int .i64 (-1073741824), .int .i64 (1073741824)]) (by first | (simp only [results, Tryz.results50]; go_simp; done) | simp [results, Tryz.results50, go_sem, *]) rfl ⟨rfl, by (repeat (first | exact Below.refl _ _ | refine bl_drewN ?_ | refine bl_drew ?_ | refine bl_alloc ?_ _ | refine Below.setCell ?_ (by (first | (simp; done) | (simp; omega) | omega)) _ | refine bl_step (by assumption) ?_))⟩
theorem meetB_down (a b : Int) : meetB a b (-5400000) = meetB a b 16200000 := by unfold meetB; rw [decide_eq_decide]; omega
theorem sine6_any (a b : Int) (w : World) (a0 : -1099517027776 ≤ a) (a1 : a ≤ 1099517027776) (b0 : -1099517027776 ≤ b) (b1 : b ≤ 1099517027776) :
    Calls Tryz.prog 50 #[.agg #[.int .i64 (a), .int .i64 (b)]] w fun e w' => e = .returned (.agg #[.int .i64 (encLo a b), .int .i64 (encHi a b)]) ∧ Below w.heap.size w w' :=
  sine6_walk a b _ _ _ _ _ _ _ _ w (hidden fun w => ends_any a w) (hidden fun w => ends_any b w) (hidden fun w => has_any a b 5400000 w a0 a1 b0 b1 (by omega) (by omega)) (hidden fun w => has_any a b (-5400000) w a0 a1 b0 b1 (by omega) (by omega)) (by rw [meetB_down]; rfl) rfl
theorem sin6_any (a b : Int) (w : World) (a0 : -1099517027776 ≤ a) (a1 : a ≤ 1099517027776) (b0 : -1099517027776 ≤ b) (b1 : b ≤ 1099517027776) :
    Calls Tryz.prog 24 #[.agg #[.int .i64 (a), .int .i64 (b)]] w fun e w' => e = .returned (.agg #[.int .i64 (encLo a b), .int .i64 (encHi a b)]) ∧ Below w.heap.size w w' := by
  have S := hidden fun w => sine6_any a b w a0 a1 b0 b1
  go_enter Tryz.func24, Tryz.ntmps24
  go_wp2_with (go_at_call 50; ((with_reducible refine (S.out _).mono ?_); rintro e w' ⟨rfl, hb⟩); (try replace hb := below_undrew hb); (try replace hb := below_undrewN hb); obtain ⟨hcell, hfroz⟩ := bcell hb; have hz := hb.size; (try simp at hz); (try (have z6 := Nat.lt_of_lt_of_le z7 hz)); (try (have z7 := Nat.lt_of_lt_of_le z8 hz)); (try (have z8 := Nat.lt_of_lt_of_le z9 hz)); (try (have z9 := Nat.lt_of_lt_of_le (Nat.lt_succ_self _) hz)); (try (have z0 : w.heap.size < w'.heap.size := by omega)); (try (have z1 : w.heap.size + 1 < w'.heap.size := by omega)); (try (have z2 : w.heap.size + 1 + 1 < w'.heap.size := by omega)); (try (have z3 : w.heap.size + 1 + 1 + 1 < w'.heap.size := by omega)))
  exact bodyPost_ret (v := .agg #[.int .i64 (encLo a b), .int .i64 (encHi a b)]) (by first | (simp only [results, Tryz.results24]; go_simp; done) | simp [results, Tryz.results24, go_sem, *]) rfl ⟨rfl, by (repeat (first | exact Below.refl _ _ | refine bl_drewN ?_ | refine bl_drew ?_ | refine bl_alloc ?_ _ | refine Below.setCell ?_ (by (first | (simp; done) | (simp; omega) | omega)) _ | refine bl_step (by assumption) ?_))⟩
theorem cos6_any (a b : Int) (w : World) (a0 : -1099511627776 ≤ a) (a1 : a ≤ 1099511627776) (b0 : -1099511627776 ≤ b) (b1 : b ≤ 1099511627776) :
    Calls Tryz.prog 25 #[.agg #[.int .i64 (a), .int .i64 (b)]] w fun e w' => e = .returned (.agg #[.int .i64 (encLo (a + 5400000) (b + 5400000)), .int .i64 (encHi (a + 5400000) (b + 5400000))]) ∧ Below w.heap.size w w' := by
  have S := hidden fun w => sine6_any (a + 5400000) (b + 5400000) w (by omega) (by omega) (by omega) (by omega)
  go_enter Tryz.func25, Tryz.ntmps25
  go_wp2_with (go_at_call 50; ((with_reducible refine (S.out _).mono ?_); rintro e w' ⟨rfl, hb⟩); (try replace hb := below_undrew hb); (try replace hb := below_undrewN hb); obtain ⟨hcell, hfroz⟩ := bcell hb; have hz := hb.size; (try simp at hz); (try (have z6 := Nat.lt_of_lt_of_le z7 hz)); (try (have z7 := Nat.lt_of_lt_of_le z8 hz)); (try (have z8 := Nat.lt_of_lt_of_le z9 hz)); (try (have z9 := Nat.lt_of_lt_of_le (Nat.lt_succ_self _) hz)); (try (have z0 : w.heap.size < w'.heap.size := by omega)); (try (have z1 : w.heap.size + 1 < w'.heap.size := by omega)); (try (have z2 : w.heap.size + 1 + 1 < w'.heap.size := by omega)); (try (have z3 : w.heap.size + 1 + 1 + 1 < w'.heap.size := by omega)))
  exact bodyPost_ret (v := .agg #[.int .i64 (encLo (a + 5400000) (b + 5400000)), .int .i64 (encHi (a + 5400000) (b + 5400000))]) (by first | (simp only [results, Tryz.results25]; go_simp; done) | simp [results, Tryz.results25, go_sem, *]) rfl ⟨rfl, by (repeat (first | exact Below.refl _ _ | refine bl_drewN ?_ | refine bl_drew ?_ | refine bl_alloc ?_ _ | refine Below.setCell ?_ (by (first | (simp; done) | (simp; omega) | omega)) _ | refine bl_step (by assumption) ?_))⟩

end Go.Proofs.YtjceofmhodcefaaGreat
