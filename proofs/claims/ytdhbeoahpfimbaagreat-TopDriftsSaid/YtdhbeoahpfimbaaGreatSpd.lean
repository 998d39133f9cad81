/- Lengths of two components: what bounds them from both sides (plain, no program in sight). -/
import Derived.Test.YtdhbeoahpfimbaaGreatProg
namespace Go.Proofs.YtdhbeoahpfimbaaGreat
namespace Spd
theorem sq_le {x y : Int} (h0 : 0 ≤ x) (h : x ≤ y) : x * x ≤ y * y := Int.mul_le_mul h h h0 (Int.le_trans h0 h)
theorem le_of_sq {x y : Int} (h0 : 0 ≤ y) (h : x * x ≤ y * y) : x ≤ y := by
  rcases Int.lt_or_le y x with k | k
  · have a : y * y ≤ y * x := Int.mul_le_mul_of_nonneg_left (Int.le_of_lt k) h0
    have b : y * x < x * x := Int.mul_lt_mul_of_pos_right k (by omega)
    omega
  · exact k
theorem sq_nn (x : Int) : 0 ≤ x * x := by
  rcases Int.lt_or_le x 0 with k | k
  · have := Int.mul_nonneg_of_nonpos_of_nonpos (Int.le_of_lt k) (Int.le_of_lt k); exact this
  · exact Int.mul_nonneg k k
theorem sq_abs {x y : Int} (h1 : -y ≤ x) (h2 : x ≤ y) : x * x ≤ y * y := by
  rcases Int.lt_or_le x 0 with k | k
  · have := sq_le (x := -x) (y := y) (by omega) (by omega)
    rw [Int.neg_mul_neg] at this
    exact this
  · exact sq_le k h2
theorem sq_mul (x y : Int) : (x * y) * (x * y) = (x * x) * (y * y) := by
  rw [Int.mul_assoc, Int.mul_assoc, Int.mul_left_comm y x y]
def zB (lo hi : Int) : Bool := decide (lo ≤ 0) && decide (0 ≤ hi)
/-- the least square of an interval, times m², is at most the square of U a, where a's multiple lies in the interval -/
theorem least_sq {xl xh m a U : Int} (hm : 0 < m) (h1 : xl * m ≤ a * U) (h2 : a * U ≤ xh * m) : (if zB xl xh = true then 0 else min (xl * xl) (xh * xh)) * (m * m) ≤ (a * U) * (a * U) := by
  by_cases hz : zB xl xh = true
  · rw [if_pos hz, Int.zero_mul]; exact sq_nn _
  · rw [if_neg hz]
    simp only [zB, Bool.and_eq_true, decide_eq_true_eq] at hz
    have mm := sq_nn m
    rcases Int.lt_or_le 0 xl with k | k
    · have a1 : min (xl * xl) (xh * xh) * (m * m) ≤ xl * xl * (m * m) := Int.mul_le_mul_of_nonneg_right (by omega) mm
      have a2 := sq_le (Int.mul_nonneg (Int.le_of_lt k) (Int.le_of_lt hm)) h1
      rw [sq_mul] at a2
      omega
    · have kh : xh < 0 := by omega
      have a1 : min (xl * xl) (xh * xh) * (m * m) ≤ xh * xh * (m * m) := Int.mul_le_mul_of_nonneg_right (by omega) mm
      have a3 : 0 ≤ (-xh) * m := Int.mul_nonneg (by omega) (Int.le_of_lt hm)
      have a2 := sq_le (x := (-xh) * m) (y := -(a * U)) a3 (by rw [Int.neg_mul]; omega)
      rw [Int.neg_mul, Int.neg_mul_neg, Int.neg_mul_neg, sq_mul] at a2
      omega
/-- the greatest square of an interval, times m², is at least the square of U a -/
theorem most_sq {xl xh m a U : Int} (_hm : 0 < m) (h1 : xl * m ≤ a * U) (h2 : a * U ≤ xh * m) : (a * U) * (a * U) ≤ max (xl * xl) (xh * xh) * (m * m) := by
  have mm := sq_nn m
  rcases Int.lt_or_le (a * U) 0 with k | k
  · have a1 : xl * xl * (m * m) ≤ max (xl * xl) (xh * xh) * (m * m) := Int.mul_le_mul_of_nonneg_right (by omega) mm
    have a2 := sq_le (x := -(a * U)) (y := -(xl * m)) (by omega) (by omega)
    rw [Int.neg_mul_neg, Int.neg_mul_neg, sq_mul xl m] at a2
    omega
  · have a1 : xh * xh * (m * m) ≤ max (xl * xl) (xh * xh) * (m * m) := Int.mul_le_mul_of_nonneg_right (by omega) mm
    have a2 := sq_le k h2
    rw [sq_mul xh m] at a2
    omega
/-- lower end of a length: lo U ≤ r m, r² ≤ (q1 + q2) U, q U ≤ least square -/
theorem low_len {a b m U lo r q1 q2 s1 s2 : Int} (hU : 0 < U) (_hm : 0 < m) (h0 : 0 ≤ lo) (hl : lo * U ≤ r * m) (hr : r * r ≤ (q1 + q2) * U) (k1 : q1 * U ≤ s1) (k2 : q2 * U ≤ s2)
    (e1 : s1 * (m * m) ≤ (a * U) * (a * U)) (e2 : s2 * (m * m) ≤ (b * U) * (b * U)) : lo * lo ≤ a * a + b * b := by
  have mm := sq_nn m
  have A := sq_le (Int.mul_nonneg h0 (Int.le_of_lt hU)) hl
  rw [sq_mul lo U, sq_mul r m] at A
  have B : r * r * (m * m) ≤ (q1 + q2) * U * (m * m) := Int.mul_le_mul_of_nonneg_right hr mm
  have C : (q1 + q2) * U * (m * m) ≤ (s1 + s2) * (m * m) := Int.mul_le_mul_of_nonneg_right (by rw [Int.add_mul]; omega) mm
  rw [sq_mul a U] at e1
  rw [sq_mul b U] at e2
  have D : (s1 + s2) * (m * m) ≤ (a * a + b * b) * (U * U) := by rw [Int.add_mul, Int.add_mul]; omega
  exact Int.le_of_mul_le_mul_right (by omega : lo * lo * (U * U) ≤ (a * a + b * b) * (U * U)) (Int.mul_pos hU hU)
theorem high_len {a b m U hi r q1 q2 s1 s2 : Int} (hU : 0 < U) (hm : 0 < m) (r0 : 0 ≤ r) (hl : r * m ≤ hi * U) (hr : (q1 + q2) * U ≤ r * r) (k1 : s1 ≤ q1 * U) (k2 : s2 ≤ q2 * U)
    (e1 : (a * U) * (a * U) ≤ s1 * (m * m)) (e2 : (b * U) * (b * U) ≤ s2 * (m * m)) : a * a + b * b ≤ hi * hi := by
  have mm := sq_nn m
  have A := sq_le (Int.mul_nonneg r0 (Int.le_of_lt hm)) hl
  rw [sq_mul hi U, sq_mul r m] at A
  have B : (q1 + q2) * U * (m * m) ≤ r * r * (m * m) := Int.mul_le_mul_of_nonneg_right hr mm
  have C : (s1 + s2) * (m * m) ≤ (q1 + q2) * U * (m * m) := Int.mul_le_mul_of_nonneg_right (by rw [Int.add_mul]; omega) mm
  rw [sq_mul a U] at e1
  rw [sq_mul b U] at e2
  have D : (a * a + b * b) * (U * U) ≤ (s1 + s2) * (m * m) := by rw [Int.add_mul, Int.add_mul]; omega
  exact Int.le_of_mul_le_mul_right (by omega : (a * a + b * b) * (U * U) ≤ hi * hi * (U * U)) (Int.mul_pos hU hU)
/-- the least and the greatest absolute value of an arc -/
def leastA (a b : Int) : Int := max 0 (max a (-b))
def mostA (a b : Int) : Int := max b (-a)
theorem leastA_sq {a b x : Int} (h1 : a ≤ x) (h2 : x ≤ b) : leastA a b * leastA a b ≤ x * x := by
  unfold leastA
  rcases Int.lt_or_le 0 a with k | k
  · rw [show max 0 (max a (-b)) = a by omega]; exact sq_le (Int.le_of_lt k) h1
  · rcases Int.lt_or_le b 0 with j | j
    · rw [show max 0 (max a (-b)) = -b by omega, Int.neg_mul_neg]
      have := sq_le (x := -b) (y := -x) (by omega) (by omega)
      rw [Int.neg_mul_neg, Int.neg_mul_neg] at this
      exact this
    · rw [show max 0 (max a (-b)) = 0 by omega]; exact sq_nn x
theorem mostA_sq {a b x : Int} (h1 : a ≤ x) (h2 : x ≤ b) : x * x ≤ mostA a b * mostA a b := by
  unfold mostA
  exact sq_abs (by omega) (by omega)
end Spd
end Go.Proofs.YtdhbeoahpfimbaaGreat
