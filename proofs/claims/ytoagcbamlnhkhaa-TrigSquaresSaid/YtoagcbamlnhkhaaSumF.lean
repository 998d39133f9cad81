/- The ideal sine of any number of units, and the formulas for sums. Plain arithmetic. -/
import Derived.Test.YtoagcbamlnhkhaaRotE
namespace Go.Proofs.Ytoagcbamlnhkhaa.Rot

/-- the sine in the first quarter, of any angle, and the cosine, times 2^128 -/
def gS (r : Int) : Int := if r ≤ 2700000 then eS r.toNat else eC (5400000 - r).toNat
def red (n : Int) : Int :=
  if 10800000 < n % 21600000 then (if 5400000 < n % 21600000 - 10800000 then 10800000 - (n % 21600000 - 10800000) else n % 21600000 - 10800000)
  else (if 5400000 < n % 21600000 then 10800000 - n % 21600000 else n % 21600000)
def iS (n : Int) : Int := if 10800000 < n % 21600000 then -(gS (red n)) else gS (red n)
def iC (n : Int) : Int := iS (n + 5400000)

theorem gS_low (k : Nat) (h : k ≤ 2700000) : gS k = eS k := by
  unfold gS; rw [if_pos (by omega)]; congr 1
theorem gS_high (k : Nat) (h : k < 2700000) : gS (5400000 - (k : Int)) = eC k := by
  unfold gS; rw [if_neg (by omega)]; congr 1; omega
theorem eighth_near (n : Nat) (hn : n = 2700000) : -(2 ^ 26) ≤ eS n - eC n ∧ eS n - eC n ≤ 2 ^ 26 := by
  have h := near_eighth
  have e : E n = stEnd := by rw [hn]; exact E_eighth
  unfold eS eC
  rw [e]
  omega
theorem gS_zero : gS 0 = 0 := by rw [show (0 : Int) = (0 : Nat) by rfl, gS_low 0 (by omega)]; exact e_zero.1
theorem gS_quarter : gS 5400000 = 2 ^ 128 := by
  have := gS_high 0 (by omega)
  rw [show (5400000 : Int) - ((0 : Nat) : Int) = 5400000 by omega] at this
  rw [this]; exact e_zero.2

/-- one step back -/
theorem e_back (n : Nat) (hn : n < 2700000) :
    -(2 ^ 130) ≤ 2 ^ 128 * eS n - (340282366920924066805512056100497561939 * eS (n + 1) - 98984128154162191825446416122235 * eC (n + 1)) ∧ 2 ^ 128 * eS n - (340282366920924066805512056100497561939 * eS (n + 1) - 98984128154162191825446416122235 * eC (n + 1)) ≤ 2 ^ 130 ∧
    -(2 ^ 130) ≤ 2 ^ 128 * eC n - (340282366920924066805512056100497561939 * eC (n + 1) + 98984128154162191825446416122235 * eS (n + 1)) ∧ 2 ^ 128 * eC n - (340282366920924066805512056100497561939 * eC (n + 1) + 98984128154162191825446416122235 * eS (n + 1)) ≤ 2 ^ 130 := by
  have a := e_step n hn
  have b := e_bd n (by omega)
  have c := e_bd (n + 1) (by omega)
  generalize eS (n + 1) = s1 at *
  generalize eC (n + 1) = c1 at *
  generalize eS n = s0 at *
  generalize eC n = c0 at *
  omega

/-- a step in the first quarter -/
theorem g_step (m : Int) (h0 : 0 ≤ m) (h1 : m < 5400000) :
    (-(2 ^ 156) ≤ 2 ^ 128 * gS (m + 1) - (340282366920924066805512056100497561939 * gS m + 98984128154162191825446416122235 * gS (5400000 - m)) ∧ 2 ^ 128 * gS (m + 1) - (340282366920924066805512056100497561939 * gS m + 98984128154162191825446416122235 * gS (5400000 - m)) ≤ 2 ^ 156) ∧
    (-(2 ^ 156) ≤ 2 ^ 128 * gS (5400000 - (m + 1)) - (340282366920924066805512056100497561939 * gS (5400000 - m) - 98984128154162191825446416122235 * gS m) ∧ 2 ^ 128 * gS (5400000 - (m + 1)) - (340282366920924066805512056100497561939 * gS (5400000 - m) - 98984128154162191825446416122235 * gS m) ≤ 2 ^ 156) := by
  by_cases hm : m < 2700000
  · obtain ⟨k, rfl⟩ : ∃ k : Nat, m = k := ⟨m.toNat, by omega⟩
    have a := e_step k (by omega)
    have e1 := gS_low k (by omega)
    have e2 := gS_low (k + 1) (by omega)
    have e3 := gS_high k (by omega)
    rw [show ((k + 1 : Nat) : Int) = (k : Int) + 1 by omega] at e2
    rw [e1, e2, e3]
    by_cases hk : k + 1 < 2700000
    · have e4 := gS_high (k + 1) hk
      rw [show ((k + 1 : Nat) : Int) = (k : Int) + 1 by omega] at e4
      rw [e4]
      omega
    · have en := eighth_near (k + 1) (by omega)
      rw [show 5400000 - ((k : Int) + 1) = (k : Int) + 1 by omega, e2]
      omega
  · obtain ⟨k, hk⟩ : ∃ k : Nat, 5400000 - m = (k : Int) + 1 := ⟨(5400000 - m - 1).toNat, by omega⟩
    have a := e_back k (by omega)
    have e1 := gS_low k (by omega)
    have e2 := gS_low (k + 1) (by omega)
    have e3 := gS_high k (by omega)
    rw [show ((k + 1 : Nat) : Int) = (k : Int) + 1 by omega] at e2
    rw [show m + 1 = 5400000 - (k : Int) by omega, show 5400000 - (5400000 - (k : Int)) = k by omega, hk, e1, e2, e3]
    by_cases hk2 : k + 1 < 2700000
    · have e4 := gS_high (k + 1) hk2
      rw [show m = 5400000 - ((k + 1 : Nat) : Int) by omega, e4]
      omega
    · have en := eighth_near (k + 1) (by omega)
      rw [show m = (k : Int) + 1 by omega, e2]
      omega

theorem iS_half (n : Int) : iS (n + 10800000) = -iS n := by
  by_cases z : n % 21600000 = 0 ∨ n % 21600000 = 10800000
  · have a : red n = 0 := by unfold red; rcases z with z | z <;> rw [z] <;> rfl
    have b : red (n + 10800000) = 0 := by
      have : (n + 10800000) % 21600000 = 0 ∨ (n + 10800000) % 21600000 = 10800000 := by omega
      unfold red; rcases this with z | z <;> rw [z] <;> rfl
    unfold iS
    rw [a, b, gS_zero]
    split <;> split <;> rfl
  · have e : red (n + 10800000) = red n := by
      unfold red; repeat' split
      all_goals omega
    unfold iS
    rw [e]
    split <;> split <;> omega
theorem iS_turn (n k : Int) : iS (n + k * 21600000) = iS n := by
  have e : (n + k * 21600000) % 21600000 = n % 21600000 := by omega
  unfold iS red
  rw [e]
theorem iC_quarter (n : Int) : iC (n + 5400000) = -iS n := by
  unfold iC
  rw [show n + 5400000 + 5400000 = n + 10800000 by omega]
  exact iS_half n
/-- in the first quarter -/
theorem i_first (m : Int) (h0 : 0 ≤ m) (h1 : m ≤ 5400000) : iS m = gS m ∧ iC m = gS (5400000 - m) := by
  have a : red m = m := by unfold red; repeat' split
                           all_goals omega
  have b : red (m + 5400000) = 5400000 - m := by unfold red; repeat' split
                                                 all_goals omega
  unfold iC iS
  rw [a, b, if_neg (by omega), if_neg (by omega)]
  exact ⟨rfl, rfl⟩

def stepP (n : Int) : Prop :=
  (-(2 ^ 156) ≤ 2 ^ 128 * iS (n + 1) - (340282366920924066805512056100497561939 * iS n + 98984128154162191825446416122235 * iC n) ∧ 2 ^ 128 * iS (n + 1) - (340282366920924066805512056100497561939 * iS n + 98984128154162191825446416122235 * iC n) ≤ 2 ^ 156) ∧
  (-(2 ^ 156) ≤ 2 ^ 128 * iC (n + 1) - (340282366920924066805512056100497561939 * iC n - 98984128154162191825446416122235 * iS n) ∧ 2 ^ 128 * iC (n + 1) - (340282366920924066805512056100497561939 * iC n - 98984128154162191825446416122235 * iS n) ≤ 2 ^ 156)
theorem step_first (m : Int) (h0 : 0 ≤ m) (h1 : m < 5400000) : stepP m := by
  have a := i_first m h0 (by omega)
  have b := i_first (m + 1) (by omega) (by omega)
  have g := g_step m h0 h1
  unfold stepP
  rw [a.1, a.2, b.1, b.2]
  exact g
theorem step_quarter (n : Int) (h : stepP n) : stepP (n + 5400000) := by
  unfold stepP at *
  have a := iC_quarter n
  have b := iC_quarter (n + 1)
  have c : iS (n + 5400000) = iC n := rfl
  have d : iS (n + 1 + 5400000) = iC (n + 1) := rfl
  rw [show n + 5400000 + 1 = n + 1 + 5400000 by omega, a, b, c, d]
  omega
theorem i_turn (n k : Int) : iS (n + k * 21600000) = iS n ∧ iC (n + k * 21600000) = iC n := by
  refine ⟨iS_turn n k, ?_⟩
  unfold iC
  rw [show n + k * 21600000 + 5400000 = n + 5400000 + k * 21600000 by omega]
  exact iS_turn _ k
theorem step_any (n : Int) : stepP n := by
  obtain ⟨q, r, k, hr0, hr1, hq0, hq1, rfl⟩ : ∃ q r k : Int, 0 ≤ r ∧ r < 5400000 ∧ 0 ≤ q ∧ q ≤ 3 ∧ n = r + q * 5400000 + k * 21600000 := ⟨n % 21600000 / 5400000, n % 21600000 % 5400000, n / 21600000, by omega, by omega, by omega, by omega, by omega⟩
  have s0 := step_first r hr0 hr1
  have s1 := step_quarter _ s0
  have s2 := step_quarter _ s1
  have s3 := step_quarter _ s2
  have t : stepP (r + q * 5400000) := by
    have : q = 0 ∨ q = 1 ∨ q = 2 ∨ q = 3 := by omega
    rcases this with rfl | rfl | rfl | rfl
    · rw [show r + 0 * 5400000 = r by omega]; exact s0
    · rw [show r + 1 * 5400000 = r + 5400000 by omega]; exact s1
    · rw [show r + 2 * 5400000 = r + 5400000 + 5400000 by omega]; exact s2
    · rw [show r + 3 * 5400000 = r + 5400000 + 5400000 + 5400000 by omega]; exact s3
  generalize r + q * 5400000 = p at *
  unfold stepP at *
  have a := i_turn p k
  have b := i_turn (p + 1) k
  rw [show p + k * 21600000 + 1 = p + 1 + k * 21600000 by omega, a.1, a.2, b.1, b.2]
  exact t

theorem gS_bd (r : Int) (h0 : 0 ≤ r) (_h1 : r ≤ 5400000) : 0 ≤ gS r ∧ gS r ≤ 2 ^ 128 := by
  unfold gS
  split
  · have := e_bd r.toNat (by omega); omega
  · have := e_bd (5400000 - r).toNat (by omega); omega
theorem red_bd (n : Int) : 0 ≤ red n ∧ red n ≤ 5400000 := by unfold red; split <;> split <;> omega
theorem i_bd (n : Int) : (-(2 ^ 128) ≤ iS n ∧ iS n ≤ 2 ^ 128) ∧ (-(2 ^ 128) ≤ iC n ∧ iC n ≤ 2 ^ 128) := by
  have a : ∀ n, -(2 ^ 128) ≤ iS n ∧ iS n ≤ 2 ^ 128 := fun n => by
    have r := red_bd n
    have g := gS_bd _ r.1 r.2
    unfold iS
    split <;> omega
  exact ⟨a n, a _⟩

def sumP (a b : Int) : Prop :=
  (-(2 ^ 184) ≤ 2 ^ 128 * iS (a + b) - (iS a * iC b + iC a * iS b) ∧ 2 ^ 128 * iS (a + b) - (iS a * iC b + iC a * iS b) ≤ 2 ^ 184) ∧
  (-(2 ^ 184) ≤ 2 ^ 128 * iC (a + b) - (iC a * iC b - iS a * iS b) ∧ 2 ^ 128 * iC (a + b) - (iC a * iC b - iS a * iS b) ≤ 2 ^ 184)
theorem i_zero : iS 0 = 0 ∧ iC 0 = 2 ^ 128 := by
  have := i_first 0 (by omega) (by omega)
  rw [this.1, this.2]
  exact ⟨gS_zero, gS_quarter⟩
theorem sum_first (a : Int) (b : Nat) (hb : b ≤ 5400000) : sumP a b := by
  have h := rot_err (fun b => 2 ^ 128 * iS (a + b) - (iS a * iC b + iC a * iS b)) (fun b => 2 ^ 128 * iC (a + b) - (iC a * iC b - iS a * iS b)) (3 * 2 ^ 284) 5400000 (by omega)
    (by rw [show ((0 : Nat) : Int) = 0 by rfl, i_zero.1, i_zero.2, Int.add_zero]; omega)
    (by rw [show ((0 : Nat) : Int) = 0 by rfl, i_zero.1, i_zero.2, Int.add_zero]; omega) (by decide)
    (fun n hn => by
      rw [show a + ((n + 1 : Nat) : Int) = a + n + 1 by omega, show ((n + 1 : Nat) : Int) = (n : Int) + 1 by omega]
      have p := step_any (a + n)
      have q := step_any n
      unfold stepP at p q
      have b := i_bd a
      have e1 : ∀ t : Int, -(2 ^ 156) ≤ t → t ≤ 2 ^ 156 → ∀ s : Int, -(2 ^ 128) ≤ s → s ≤ 2 ^ 128 → -(2 ^ 284) ≤ s * t ∧ s * t ≤ 2 ^ 284 := fun t t0 t1 s s0 s1 => by
        have k := abs_mul (a := s.natAbs) (by omega) t0 t1
        have l : (s.natAbs : Int) * 2 ^ 156 ≤ 2 ^ 128 * 2 ^ 156 := Int.mul_le_mul_of_nonneg_right (by omega) (by decide)
        rcases Int.natAbs_eq s with h | h
        · rw [← h] at k l; omega
        · have : s * t = -((s.natAbs : Int) * t) := by rw [← Int.neg_mul, ← h]
          omega
      have k1 := e1 _ q.2.1 q.2.2 _ b.1.1 b.1.2
      have k2 := e1 _ q.1.1 q.1.2 _ b.2.1 b.2.2
      simp only [Int.mul_sub, Int.mul_add, Int.mul_left_comm (iS a), Int.mul_left_comm (iC a)] at k1 k2
      omega)
    (fun n hn => by
      rw [show a + ((n + 1 : Nat) : Int) = a + n + 1 by omega, show ((n + 1 : Nat) : Int) = (n : Int) + 1 by omega]
      have p := step_any (a + n)
      have q := step_any n
      unfold stepP at p q
      have b := i_bd a
      have e1 : ∀ t : Int, -(2 ^ 156) ≤ t → t ≤ 2 ^ 156 → ∀ s : Int, -(2 ^ 128) ≤ s → s ≤ 2 ^ 128 → -(2 ^ 284) ≤ s * t ∧ s * t ≤ 2 ^ 284 := fun t t0 t1 s s0 s1 => by
        have k := abs_mul (a := s.natAbs) (by omega) t0 t1
        have l : (s.natAbs : Int) * 2 ^ 156 ≤ 2 ^ 128 * 2 ^ 156 := Int.mul_le_mul_of_nonneg_right (by omega) (by decide)
        rcases Int.natAbs_eq s with h | h
        · rw [← h] at k l; omega
        · have : s * t = -((s.natAbs : Int) * t) := by rw [← Int.neg_mul, ← h]
          omega
      have k1 := e1 _ q.2.1 q.2.2 _ b.2.1 b.2.2
      have k2 := e1 _ q.1.1 q.1.2 _ b.1.1 b.1.2
      simp only [Int.mul_sub, Int.mul_add, Int.mul_left_comm (iS a), Int.mul_left_comm (iC a)] at k1 k2
      omega) b hb
  have g : gF b ≤ 3437746 * 31000000 := by
    unfold gF
    have : (b : Int) * (3437746 + 3 * b) ≤ 5400000 * (3437746 + 3 * 5400000) := Int.mul_le_mul (by omega) (by omega) (by omega) (by omega)
    omega
  have k : 3 * 2 ^ 284 * gF b ≤ 3 * 2 ^ 284 * (3437746 * 31000000) := Int.mul_le_mul_of_nonneg_left g (by decide)
  unfold sumP
  omega
theorem sum_quarter (a b : Int) (h : sumP a b) : sumP a (b + 5400000) := by
  unfold sumP at *
  have k1 := iC_quarter b
  have k2 := iC_quarter (a + b)
  have k3 : iS (b + 5400000) = iC b := rfl
  have k4 : iS (a + b + 5400000) = iC (a + b) := rfl
  rw [show a + (b + 5400000) = a + b + 5400000 by omega, k1, k2, k3, k4]
  simp only [Int.mul_neg]
  omega
theorem sum_any (a b : Int) : sumP a b := by
  obtain ⟨q, r, k, hr, hq0, hq1, rfl⟩ : ∃ (q : Int) (r : Nat) (k : Int), r ≤ 5400000 ∧ 0 ≤ q ∧ q ≤ 3 ∧ b = r + q * 5400000 + k * 21600000 := ⟨b % 21600000 / 5400000, (b % 21600000 % 5400000).toNat, b / 21600000, by omega, by omega, by omega, by omega⟩
  have s0 := sum_first a r hr
  have s1 := sum_quarter _ _ s0
  have s2 := sum_quarter _ _ s1
  have s3 := sum_quarter _ _ s2
  have t : sumP a (r + q * 5400000) := by
    have : q = 0 ∨ q = 1 ∨ q = 2 ∨ q = 3 := by omega
    rcases this with rfl | rfl | rfl | rfl
    · rw [show (r : Int) + 0 * 5400000 = r by omega]; exact s0
    · rw [show (r : Int) + 1 * 5400000 = r + 5400000 by omega]; exact s1
    · rw [show (r : Int) + 2 * 5400000 = r + 5400000 + 5400000 by omega]; exact s2
    · rw [show (r : Int) + 3 * 5400000 = r + 5400000 + 5400000 + 5400000 by omega]; exact s3
  generalize (r : Int) + q * 5400000 = p at *
  unfold sumP at *
  have a1 := i_turn p k
  have b1 := i_turn (a + p) k
  rw [show a + (p + k * 21600000) = a + p + k * 21600000 by omega, a1.1, a1.2, b1.1, b1.2]
  exact t

/-- the sine grows in the first quarter -/
theorem g_grow (m : Int) (h0 : 0 ≤ m) (h1 : m < 5400000) : gS m + 2 ^ 81 ≤ gS (m + 1) := by
  by_cases hm : m < 2700000
  · obtain ⟨k, rfl⟩ : ∃ k : Nat, m = k := ⟨m.toNat, by omega⟩
    have a := e_step k (by omega)
    have b := e_bd k (by omega)
    have e1 := gS_low k (by omega)
    have e2 := gS_low (k + 1) (by omega)
    rw [show ((k + 1 : Nat) : Int) = (k : Int) + 1 by omega] at e2
    rw [e1, e2]
    omega
  · obtain ⟨k, hk⟩ : ∃ k : Nat, 5400000 - m = (k : Int) + 1 := ⟨(5400000 - m - 1).toNat, by omega⟩
    have a := e_step k (by omega)
    have b := e_bd k (by omega)
    have b1 := e_bd (k + 1) (by omega)
    have e3 := gS_high k (by omega)
    rw [show m + 1 = 5400000 - (k : Int) by omega, e3]
    by_cases hk2 : k + 1 < 2700000
    · have e4 := gS_high (k + 1) hk2
      rw [show m = 5400000 - ((k + 1 : Nat) : Int) by omega, e4]
      omega
    · have en := eighth_near (k + 1) (by omega)
      have e2 := gS_low (k + 1) (by omega)
      rw [show m = ((k + 1 : Nat) : Int) by omega, e2]
      omega

end Go.Proofs.Ytoagcbamlnhkhaa.Rot
