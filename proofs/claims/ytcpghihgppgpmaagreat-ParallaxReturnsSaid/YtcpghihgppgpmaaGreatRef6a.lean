/- The product and the quick sines of layer 6's reference, as contracts. -/
import Derived.Test.YtcpghihgppgpmaaGreatTrigP
namespace Go.Proofs.YtcpghihgppgpmaaGreat
open Go.RowKit

def highV (a b : Int) : Int := a / 2147483648 * (b / 2147483648) + a / 2147483648 * (b % 2147483648) / 2147483648 + a % 2147483648 * (b / 2147483648) / 2147483648
theorem wraps_i64 (n : Int) (h0 : 0 ≤ n) (h1 : n < 2 ^ 63) : IntKind.i64.wrap n = n := by rw [IntKind.wrap_i64]; omega
theorem and_low31 (x : Int) (h0 : 0 ≤ x) (h1 : x < 2 ^ 63) : bits BinOp.and IntKind.i64 x 2147483647 = x % 2147483648 := bits_mask .i64 63 (by decide) wraps_i64 31 (by decide) x h0 h1

theorem high_walk (a b a1 a0 b1 b0 p q r : Int) (w : World) (ha : a / 2147483648 = a1) (ha0 : bits BinOp.and IntKind.i64 a 2147483647 = a0) (hb : b / 2147483648 = b1) (hb0 : bits BinOp.and IntKind.i64 b 2147483647 = b0)
    (_a00 : 0 ≤ a) (_b00 : 0 ≤ b) (_a01 : a ≤ 4611686018427387904) (_b01 : b ≤ 4611686018427387904)
    (hp : a1 * b1 = p) (hq : a1 * b0 = q) (hr : a0 * b1 = r) (p0 : 0 ≤ p) (p1 : p ≤ 4611686018427387904) (q0 : 0 ≤ q) (q1 : q ≤ 4611686018427387904) (r0 : 0 ≤ r) (r1 : r ≤ 4611686018427387904) :
    Calls Tryz.prog 119 #[.int .i64 a, .int .i64 b] w fun e w' => e = .returned (.int .i64 (p + q / 2147483648 + r / 2147483648)) ∧ w = w' := by
  go_enter Tryz.func119, Tryz.ntmps119
  go_wp2
  go_ret
  exact ⟨rfl, rfl⟩
theorem high_any (a b : Int) (w : World) (a00 : 0 ≤ a) (b00 : 0 ≤ b) (a01 : a ≤ 4611686018427387904) (b01 : b ≤ 4611686018427387904) :
    Calls Tryz.prog 119 #[.int .i64 a, .int .i64 b] w fun e w' => e = .returned (.int .i64 (highV a b)) ∧ w = w' := by
  have m : ∀ x y : Int, 0 ≤ x → x ≤ 2147483648 → 0 ≤ y → y ≤ 2147483648 → 0 ≤ x * y ∧ x * y ≤ 4611686018427387904 := fun x y x0 x1 y0 y1 => ⟨Int.mul_nonneg x0 y0, Int.mul_le_mul x1 y1 y0 (by omega)⟩
  have h1 := m (a / 2147483648) (b / 2147483648) (by omega) (by omega) (by omega) (by omega)
  have h2 := m (a / 2147483648) (b % 2147483648) (by omega) (by omega) (by omega) (by omega)
  have h3 := m (a % 2147483648) (b / 2147483648) (by omega) (by omega) (by omega) (by omega)
  exact high_walk a b _ _ _ _ _ _ _ w rfl (and_low31 a a00 (by omega)) rfl (and_low31 b b00 (by omega)) a00 b00 a01 b01 rfl rfl rfl h1.1 h1.2 h2.1 h2.2 h3.1 h3.2

/-- the product, rounded down, but for 3 -/
theorem highV_near (a b : Int) : highV a b * 4611686018427387904 ≤ a * b - a % 2147483648 * (b % 2147483648) ∧ a * b - a % 2147483648 * (b % 2147483648) < highV a b * 4611686018427387904 + 2 * 4611686018427387904 := by
  unfold highV
  have ea : a = 2147483648 * (a / 2147483648) + a % 2147483648 := by omega
  have eb : b = 2147483648 * (b / 2147483648) + b % 2147483648 := by omega
  have e : a * b - a % 2147483648 * (b % 2147483648) = 4611686018427387904 * (a / 2147483648 * (b / 2147483648)) + 2147483648 * (a / 2147483648 * (b % 2147483648)) + 2147483648 * (a % 2147483648 * (b / 2147483648)) := by
    have : a * b = (2147483648 * (a / 2147483648) + a % 2147483648) * (2147483648 * (b / 2147483648) + b % 2147483648) := by rw [← ea, ← eb]
    rw [this]
    generalize a / 2147483648 = x
    generalize a % 2147483648 = y
    generalize b / 2147483648 = z
    generalize b % 2147483648 = u
    grind
  rw [e]
  generalize a / 2147483648 * (b / 2147483648) = p
  generalize a / 2147483648 * (b % 2147483648) = q
  generalize a % 2147483648 * (b / 2147483648) = r
  omega
theorem highV_bd (a b : Int) (a0 : 0 ≤ a) (b0 : 0 ≤ b) : 0 ≤ highV a b ∧ highV a b * 4611686018427387904 ≤ a * b ∧ a * b < highV a b * 4611686018427387904 + 3 * 4611686018427387904 := by
  have h := highV_near a b
  have m0 : 0 ≤ a % 2147483648 * (b % 2147483648) := Int.mul_nonneg (by omega) (by omega)
  have m1 : a % 2147483648 * (b % 2147483648) ≤ 2147483648 * 2147483648 := Int.mul_le_mul (by omega) (by omega) (by omega) (by omega)
  have k : 0 ≤ highV a b := by
    unfold highV
    have k1 : 0 ≤ a / 2147483648 * (b / 2147483648) := Int.mul_nonneg (by omega) (by omega)
    have k2 : 0 ≤ a / 2147483648 * (b % 2147483648) := Int.mul_nonneg (by omega) (by omega)
    have k3 : 0 ≤ a % 2147483648 * (b / 2147483648) := Int.mul_nonneg (by omega) (by omega)
    omega
  omega

/-- the terms and the sums of the quick series -/
def tQ (sq t d : Int) : Nat → Int
  | 0 => t
  | j + 1 => highV (tQ sq t d j) sq / ((d + 2 * j) * (d + 2 * j + 1))
def sQ (sq t d : Int) : Nat → Int
  | 0 => 0
  | j + 1 => if j % 2 = 0 then sQ sq t d j + tQ sq t d j else sQ sq t d j - tQ sq t d j
/-- the angle, times 2^62 -/
def xQ (r : Int) : Int := r * 2620088056 * 512 + r * 658911831 / 4194304
theorem xQ_bd (r : Int) (h0 : 0 ≤ r) (h1 : r ≤ 2700000) : 0 ≤ xQ r ∧ xQ r ≤ 3622009729100000000 := by unfold xQ; omega
theorem sq_bd (r : Int) (h0 : 0 ≤ r) (h1 : r ≤ 2700000) : 0 ≤ highV (xQ r) (xQ r) ∧ highV (xQ r) (xQ r) ≤ 2845000000000000000 := by
  have x := xQ_bd r h0 h1
  have h := highV_bd _ _ x.1 x.1
  have m : xQ r * xQ r ≤ 3622009729100000000 * 3622009729100000000 := Int.mul_le_mul x.2 x.2 x.1 (by omega)
  omega
theorem dd_bd (d : Int) (j : Nat) (d1 : 1 ≤ d) : (1 + 2 * (j : Int)) * (2 + 2 * j) ≤ (d + 2 * j) * (d + 2 * j + 1) ∧ 2 ≤ (1 + 2 * (j : Int)) * (2 + 2 * j) := by
  constructor
  · exact Int.mul_le_mul (by omega) (by omega) (by omega) (by omega)
  · have := Int.mul_le_mul (show (1 : Int) ≤ 1 + 2 * j by omega) (show (2 : Int) ≤ 2 + 2 * j by omega) (by omega) (by omega)
    omega
theorem tQ_step (sq t d : Int) (j : Nat) (s0 : 0 ≤ sq) (s1 : sq ≤ 2845000000000000000) (d1 : 1 ≤ d) (h0 : 0 ≤ tQ sq t d j) :
    0 ≤ tQ sq t d (j + 1) ∧ 3 * tQ sq t d (j + 1) ≤ tQ sq t d j ∧ 0 ≤ highV (tQ sq t d j) sq ∧ highV (tQ sq t d j) sq ≤ tQ sq t d j ∧ ∀ M, tQ sq t d j ≤ M → tQ sq t d (j + 1) ≤ M * 2845000000000000000 / 4611686018427387904 / ((1 + 2 * j) * (2 + 2 * j)) := by
  have h := highV_bd _ _ h0 s0
  have m : tQ sq t d j * sq ≤ tQ sq t d j * 2845000000000000000 := Int.mul_le_mul_of_nonneg_left s1 h0
  have dd := dd_bd d j d1
  show 0 ≤ highV (tQ sq t d j) sq / ((d + 2 * j) * (d + 2 * j + 1)) ∧ 3 * (highV (tQ sq t d j) sq / ((d + 2 * j) * (d + 2 * j + 1))) ≤ tQ sq t d j ∧ _ ∧ _ ∧ ∀ M, _ → highV (tQ sq t d j) sq / ((d + 2 * j) * (d + 2 * j + 1)) ≤ _
  generalize highV (tQ sq t d j) sq = H at *
  generalize (1 + 2 * (j : Int)) * (2 + 2 * j) = D' at *
  generalize (d + 2 * (j : Int)) * (d + 2 * j + 1) = D at *
  have q := Int.mul_ediv_self_le (x := H) (k := D) (by omega)
  have q0 : 0 ≤ H / D := Int.ediv_nonneg h.1 (by omega)
  have q2 : 2 * (H / D) ≤ D * (H / D) := Int.mul_le_mul_of_nonneg_right (by omega) q0
  refine ⟨q0, by omega, h.1, by omega, fun M hM => ?_⟩
  apply Int.le_ediv_of_mul_le (by omega)
  have q3 : D' * (H / D) ≤ D * (H / D) := Int.mul_le_mul_of_nonneg_right dd.1 q0
  rw [Int.mul_comm]
  omega
theorem tQ_bd (sq t d : Int) (j : Nat) (s0 : 0 ≤ sq) (s1 : sq ≤ 2845000000000000000) (d1 : 1 ≤ d) (t0 : 0 ≤ t) (t1 : t ≤ 4611686018427387904) :
    0 ≤ tQ sq t d j ∧ 2 * sQ sq t d j + 3 * tQ sq t d j ≤ 3 * t ∧ -(3 * t) ≤ 2 * sQ sq t d j - 3 * tQ sq t d j := by
  induction j with
  | zero => simp only [tQ, sQ]; omega
  | succ j ih =>
    have s := tQ_step sq t d j s0 s1 d1 ih.1
    refine ⟨s.1, ?_⟩
    simp only [sQ]
    split <;> omega
def mQ : Nat → Int
  | 0 => 4611686018427387904
  | j + 1 => mQ j * 2845000000000000000 / 4611686018427387904 / ((1 + 2 * (j : Int)) * (2 + 2 * j))
theorem tQ_most (sq t d : Int) (j : Nat) (s0 : 0 ≤ sq) (s1 : sq ≤ 2845000000000000000) (d1 : 1 ≤ d) (t0 : 0 ≤ t) (t1 : t ≤ 4611686018427387904) : tQ sq t d j ≤ mQ j := by
  induction j with
  | zero => exact t1
  | succ j ih =>
    exact (tQ_step sq t d j s0 s1 d1 (tQ_bd sq t d j s0 s1 d1 t0 t1).1).2.2.2.2 _ ih
theorem tQ_end (sq t d : Int) (j : Nat) (s0 : 0 ≤ sq) (s1 : sq ≤ 2845000000000000000) (d1 : 1 ≤ d) (t0 : 0 ≤ t) (t1 : t ≤ 4611686018427387904) : tQ sq t d (10 + j) = 0 := by
  induction j with
  | zero =>
    have a := tQ_most sq t d 10 s0 s1 d1 t0 t1
    have b := tQ_bd sq t d 10 s0 s1 d1 t0 t1
    rw [show mQ 10 = 0 by decide +kernel] at a
    show tQ sq t d 10 = 0
    omega
  | succ j ih =>
    have b := tQ_bd sq t d (10 + j) s0 s1 d1 t0 t1
    have c := tQ_step sq t d (10 + j) s0 s1 d1 b.1
    rw [← Nat.add_assoc]
    omega
/-- from a zero term on the sum stays -/
theorem tQ_zero (sq t d : Int) (j k : Nat) (s0 : 0 ≤ sq) (s1 : sq ≤ 2845000000000000000) (d1 : 1 ≤ d) (h : tQ sq t d j = 0) : tQ sq t d (j + k) = 0 ∧ sQ sq t d (j + k) = sQ sq t d j := by
  induction k with
  | zero => exact ⟨h, rfl⟩
  | succ k ih =>
    have s := tQ_step sq t d (j + k) s0 s1 d1 (by rw [ih.1]; omega)
    rw [← Nat.add_assoc]
    refine ⟨by omega, ?_⟩
    simp only [sQ, ih.1, ih.2]
    split <;> omega

/-- the quick sine, or cosine -/
def quickV (r : Int) (c : Bool) : Int := sQ (highV (xQ r) (xQ r)) (if c then 4611686018427387904 else xQ r) (if c then 1 else 2) 12

/-- a round of the loop: what it reckons -/
theorem quick_round (sq t d : Int) (i : Nat) (s0 : 0 ≤ sq) (s1 : sq ≤ 2845000000000000000) (d1 : 1 ≤ d) (d2 : d ≤ 2) (t0 : 0 ≤ t) (t1 : t ≤ 4611686018427387904) (hp : 0 < tQ sq t d (2 * i)) :
    i < 5 ∧ ∃ a h1 b h2 c D P1 P2 S : Int, tQ sq t d (2 * i) = a ∧ sQ sq t d (2 * i) = S ∧ d + 4 * i = D ∧ D * (D + 1) = P1 ∧ (D + 2) * (D + 3) = P2 ∧ h1 / P1 = b ∧ h2 / P2 = c ∧ tQ sq t d (2 * (i + 1)) = c ∧ sQ sq t d (2 * (i + 1)) = S + a - b ∧
      Hid (∀ w, Calls Tryz.prog 119 #[.int .i64 a, .int .i64 sq] w fun e w' => e = .returned (.int .i64 h1) ∧ w = w') ∧ Hid (∀ w, Calls Tryz.prog 119 #[.int .i64 b, .int .i64 sq] w fun e w' => e = .returned (.int .i64 h2) ∧ w = w') ∧
      0 ≤ a ∧ a ≤ 4611686018427387904 ∧ 0 ≤ h1 ∧ h1 ≤ 4611686018427387904 ∧ 0 ≤ b ∧ b ≤ 4611686018427387904 ∧ 0 ≤ h2 ∧ h2 ≤ 4611686018427387904 ∧ 1 ≤ D ∧ D ≤ 22 ∧ 2 ≤ P1 ∧ P1 ≤ 600 ∧ 2 ≤ P2 ∧ P2 ≤ 800 ∧
      -9223372036854775808 ≤ S + a ∧ S + a ≤ 9223372036854775807 ∧ -9223372036854775808 ≤ S + a - b ∧ S + a - b ≤ 9223372036854775807 := by
  have i5 : i < 5 := by
    apply Decidable.byContradiction
    intro h
    have := tQ_end sq t d (2 * i - 10) s0 s1 d1 t0 t1
    rw [show 10 + (2 * i - 10) = 2 * i by omega] at this
    omega
  have b0 := tQ_bd sq t d (2 * i) s0 s1 d1 t0 t1
  have b1 := tQ_bd sq t d (2 * i + 1) s0 s1 d1 t0 t1
  have b2 := tQ_bd sq t d (2 * i + 1 + 1) s0 s1 d1 t0 t1
  have c0 := tQ_step sq t d (2 * i) s0 s1 d1 b0.1
  have c1 := tQ_step sq t d (2 * i + 1) s0 s1 d1 b1.1
  have e1 : sQ sq t d (2 * i + 1) = sQ sq t d (2 * i) + tQ sq t d (2 * i) := by simp only [sQ]; rw [if_pos (by omega)]
  have e2 : sQ sq t d (2 * i + 1 + 1) = sQ sq t d (2 * i + 1) - tQ sq t d (2 * i + 1) := by simp only [sQ]; rw [if_neg (by omega)]
  have p1 := Int.mul_le_mul (show d + 4 * (i : Int) ≤ 18 by omega) (show d + 4 * (i : Int) + 1 ≤ 19 by omega) (by omega) (by omega)
  have p2 := Int.mul_le_mul (show d + 4 * (i : Int) + 2 ≤ 20 by omega) (show d + 4 * (i : Int) + 3 ≤ 21 by omega) (by omega) (by omega)
  have p3 := Int.mul_le_mul (show 1 ≤ d + 4 * (i : Int) by omega) (show 2 ≤ d + 4 * (i : Int) + 1 by omega) (by omega) (by omega)
  have p4 := Int.mul_le_mul (show 1 ≤ d + 4 * (i : Int) + 2 by omega) (show 2 ≤ d + 4 * (i : Int) + 3 by omega) (by omega) (by omega)
  refine ⟨i5, _, highV (tQ sq t d (2 * i)) sq, tQ sq t d (2 * i + 1), highV (tQ sq t d (2 * i + 1)) sq, tQ sq t d (2 * i + 1 + 1), _, _, _, _, rfl, rfl, rfl, rfl, rfl, ?_, ?_, rfl, ?_,
    hidden fun w => high_any _ _ w b0.1 s0 (by omega) (by omega), hidden fun w => high_any _ _ w b1.1 s0 (by omega) (by omega), b0.1, by omega, c0.2.2.1, by omega, b1.1, by omega, c1.2.2.1, by omega, by omega, by omega, by omega, by omega, by omega, by omega, by omega, by omega, by omega, by omega⟩
  · show _ = highV (tQ sq t d (2 * i)) sq / ((d + 2 * ((2 * i : Nat) : Int)) * (d + 2 * ((2 * i : Nat) : Int) + 1))
    rw [show d + 2 * ((2 * i : Nat) : Int) = d + 4 * i by omega]
  · show _ = highV (tQ sq t d (2 * i + 1)) sq / ((d + 2 * ((2 * i + 1 : Nat) : Int)) * (d + 2 * ((2 * i + 1 : Nat) : Int) + 1))
    rw [show d + 2 * ((2 * i + 1 : Nat) : Int) = d + 4 * i + 2 by omega, show d + 4 * (i : Int) + 2 + 1 = d + 4 * i + 3 by omega]
  · show sQ sq t d (2 * i + 1 + 1) = _
    rw [e2, e1]

set_option maxRecDepth 100000 in
set_option maxHeartbeats 4000000 in
theorem quick_walk (r x sq t d : Int) (c : Bool) (w : World) (r0 : 0 ≤ r) (r1 : r ≤ 2700000) (hx : r * 2620088056 * 512 + r * 658911831 / 4194304 = x) (x0 : 0 ≤ x) (x1 : x ≤ 3622009729100000000)
    (SQ : Hid (∀ w, Calls Tryz.prog 119 #[.int .i64 x, .int .i64 x] w fun e w' => e = .returned (.int .i64 sq) ∧ w = w'))
    (s0 : 0 ≤ sq) (s1 : sq ≤ 2845000000000000000) (ht : t = if c then 4611686018427387904 else x) (hd : d = if c then 1 else 2) :
    Calls Tryz.prog 107 #[.int .i64 r, .bool c] w fun e w' => e = .returned (.int .i64 (sQ sq t d 12)) ∧ w = w' := by
  have d1 : 1 ≤ d := by cases c <;> simp at hd <;> omega
  have d2 : d ≤ 2 := by cases c <;> simp at hd <;> omega
  have t0 : 0 ≤ t := by cases c <;> simp at ht <;> omega
  have t1 : t ≤ 4611686018427387904 := by cases c <;> simp at ht <;> omega
  have R := hidden fun i (h : 0 < tQ sq t d (2 * i)) => quick_round sq t d i s0 s1 d1 d2 t0 t1 h
  have Z := hidden fun j k (h : tQ sq t d j = 0) => tQ_zero sq t d j k s0 s1 d1 h
  have B := hidden fun i => (tQ_bd sq t d (2 * i) s0 s1 d1 t0 t1).1
  have S0 : Hid (Value.int .i64 0 = .int .i64 (sQ sq t d (2 * 0))) := rfl
  cases c
  all_goals
    simp at ht hd
    have T0 : Hid (Value.int .i64 t = .int .i64 (tQ sq t d (2 * 0))) := rfl
    have D0 : Hid (Value.int .i64 d = .int .i64 (d + 4 * ((0 : Nat) : Int))) := hidden (congrArg _ (by omega))
    have HD : Hid (d = _) := hidden hd
    have HT : Hid (t = _) := hidden ht
    have SD := hidden s0
    go_enter Tryz.func107, Tryz.ntmps107
    go_wp2_with (go_at_call 119; ((with_reducible refine (SQ.out _).mono ?_); rintro e w' ⟨rfl, rfl⟩))
    go_loop [7, 8, 9] (fun T D Sm => ∃ i : Nat, i ≤ 5 ∧ T = .int .i64 (tQ sq t d (2 * i)) ∧ D = .int .i64 (d + 4 * i) ∧ Sm = .int .i64 (sQ sq t d (2 * i))) (fun _ D _ => (40 - intOf D).toNat)
    case atStart => exact ⟨0, by omega, by first | exact T0.out | (rw [← HT.out]; exact T0.out), by first | exact D0.out | (rw [← HD.out]; exact D0.out), S0.out⟩
    case round =>
      obtain ⟨i, hi, rfl, rfl, rfl⟩ := hrel
      by_cases hp : 0 < tQ sq t d (2 * i)
      · obtain ⟨i5, a, h1, b, h2, cc, D, P1, P2, S, ea, eS, eD, eP1, eP2, eb, ec, ea2, eS2, HI, HJ, a0, a1, g0, g1, b0, b1, k0, k1, l0, l1, m0, m1, n0, n1, o0, o1, q0, q1⟩ := R.out i hp
        replace ea2 := hidden ea2
        replace eS2 := hidden eS2
        have eD2 : Hid (Value.int .i64 (D + 4) = .int .i64 (d + 4 * ((i + 1 : Nat) : Int))) := hidden (congrArg _ (by omega))
        rw [ea] at hp
        rw [ea, eS, eD]
        replace eD := hidden eD
        clear ea eS
        go_wp2_with (first | (go_at_call 119; ((with_reducible refine (HI.out _).mono ?_); rintro e w' ⟨rfl, rfl⟩)) | (go_at_call 119; ((with_reducible refine (HJ.out _).mono ?_); rintro e w' ⟨rfl, rfl⟩)))
        go_round
        case rel => exact ⟨i + 1, by omega, by rw [ea2.out, ec], eD2.out, by rw [eS2.out]⟩
        case measure => simp [intOf]; omega
      · have z : tQ sq t d (2 * i) = 0 := by have := B.out i; omega
        have z12 := (Z.out (2 * i) (12 - 2 * i) z).2
        rw [show 2 * i + (12 - 2 * i) = 12 by omega] at z12
        rw [z]
        replace z := hidden z
        replace z12 := hidden z12
        clear hp
        go_wp2
        go_ret
        have z13 := z12.out
        rw [HD.out, HT.out] at z13
        exact ⟨congrArg (fun v => Ending.returned (.int .i64 v)) z13.symm, rfl⟩

theorem quick_any (r : Int) (c : Bool) (w : World) (r0 : 0 ≤ r) (r1 : r ≤ 2700000) :
    Calls Tryz.prog 107 #[.int .i64 r, .bool c] w fun e w' => e = .returned (.int .i64 (quickV r c)) ∧ w = w' := by
  have x := xQ_bd r r0 r1
  have s := sq_bd r r0 r1
  exact quick_walk r (xQ r) _ _ _ c w r0 r1 rfl x.1 x.2 (hidden fun w => high_any _ _ w x.1 x.1 (by omega) (by omega)) s.1 s.2 rfl rfl

end Go.Proofs.YtcpghihgppgpmaaGreat
