/- The sines that trig works off are near the ideal ones, and its bounds enclose these. -/
import Derived.Test.YtoagcbamlnhkhaaTrig5
import Derived.Test.YtoagcbamlnhkhaaHorn
import Derived.Test.YtoagcbamlnhkhaaSumF
namespace Go.Proofs.Ytoagcbamlnhkhaa
open Go.RowKit Rot

theorem W_is : W256 = 2 ^ 256 := by decide
theorem piW_is : piW = piN := by decide
theorem rad_near (n : Int) : radV n * 10800000 ≤ piN * n ∧ piN * n < radV n * 10800000 + 10800000 := by
  unfold radV
  rw [piW_is]
  omega
theorem dTerm_dT (odd : Int) (k : Nat) : dTerm odd k = dT odd k := rfl

theorem mulV_le (A B : Int) (a0 : 0 ≤ A) (a1 : A < W256) (b0 : 0 ≤ B) (b1 : B < W256) : mulV A B ≤ A := by
  have mn := (mulV_near A B a0 a1 b0 b1).2.2.1
  have h1 : A * B ≤ A * W256 := Int.mul_le_mul_of_nonneg_left (Int.le_of_lt b1) a0
  exact Int.le_of_mul_le_mul_right (Int.le_trans mn h1) W256_pos
/-- a round of the series -/
theorem lessR_step (Y odd : Int) (m : Nat) (y0 : 0 ≤ Y) (y1 : Y < W256) (ho : odd = 0 ∨ odd = 1) (hm : m < 34) :
    ∃ t, t * 2 ^ 256 ≤ Y / dT odd (34 - m) * lessR Y odd m ∧ Y / dT odd (34 - m) * lessR Y odd m < t * 2 ^ 256 + 2 * 2 ^ 256 ∧ lessR Y odd (m + 1) = Y / dT odd (34 - m) - t ∧ 0 ≤ t := by
  have d0 : 1 ≤ dT odd (34 - m) := by
    obtain ⟨k, hk⟩ : ∃ k : Nat, 34 - m = k := ⟨_, rfl⟩
    rw [hk]
    unfold dT
    have a1 : 1 ≤ 2 * (k : Int) - 1 + odd := by omega
    have b1 : 1 ≤ 2 * (k : Int) + odd := by omega
    have := Int.mul_le_mul a1 b1 (by omega) (by omega)
    omega
  have q0 : 0 ≤ Y / dT odd (34 - m) := Int.ediv_nonneg y0 (by omega)
  have q1 : Y / dT odd (34 - m) < W256 := by
    have := Int.ediv_le_self (dT odd (34 - m)) y0
    omega
  have ub := lessR_bd Y odd m
  have mn := mulV_near (Y / dT odd (34 - m)) (lessR Y odd m) q0 q1 ub.1 ub.2
  rw [W_is] at mn
  refine ⟨mulV (Y / dT odd (34 - m)) (lessR Y odd m), mn.2.2.1, mn.2.2.2, ?_, mn.1⟩
  have e : lessR Y odd (m + 1) = (Y / dT odd (34 - m) - mulV (Y / dT odd (34 - m)) (lessR Y odd m)) % W256 := rfl
  rw [e]
  apply Int.emod_eq_of_lt
  · have := mulV_le _ _ q0 q1 ub.1 ub.2
    omega
  · omega

theorem less_near (odd n : Int) (ho : odd = 0 ∨ odd = 1) (n0 : 0 ≤ n) (n1 : n ≤ 2700000) :
    -(2 ^ 168 * qN odd 12) ≤ lessV (radV n) odd * qN odd 12 - 2 ^ 256 * aN odd n 12 ∧ lessV (radV n) odd * qN odd 12 - 2 ^ 256 * aN odd n 12 ≤ 2 ^ 168 * qN odd 12 := by
  have X := radV_bd n n0 n1
  have Yb := mulV_near (radV n) (radV n) X.1 X.2 X.1 X.2
  have r := rad_near n
  have s := fun (j : Nat) (hj : j < 34) => lessR_step (mulV (radV n) (radV n)) odd j Yb.1 Yb.2.1 ho hj
  refine series_near odd n (radV n) (mulV (radV n) (radV n)) (fun j => lessR (mulV (radV n) (radV n)) odd (22 + j)) ho n0 n1 r.1 r.2 X.1 (by rw [← W_is]; exact Yb.2.2.1) (by rw [← W_is]; exact Yb.2.2.2) Yb.1 ?_ ?_ ?_
  · intro j _
    have := lessR_bd (mulV (radV n) (radV n)) odd (22 + j)
    rw [W_is] at this
    exact ⟨this.1, Int.le_of_lt this.2⟩
  · obtain ⟨t, _, _, e, t0⟩ := s 21 (by omega)
    show lessR _ odd (21 + 1) ≤ _
    rw [e]
    have d : dT odd (34 - 21) = 650 ∨ dT odd (34 - 21) = 702 := by rcases ho with rfl | rfl <;> decide
    have y := Yb.2.1
    rw [W_is] at y
    generalize mulV (radV n) (radV n) = Y at *
    rcases d with d | d <;> rw [d] <;> omega
  · intro j hj
    obtain ⟨t, h1, h2, h3, _⟩ := s (22 + j) (by omega)
    rw [show 34 - (22 + j) = 12 - j by omega] at h1 h2 h3
    exact ⟨t, h1, h2, h3⟩

theorem eC_less (n : Nat) (n0 : 1 ≤ n) (n1 : n ≤ 2700000) : eC n ≤ 2 ^ 128 - 2 ^ 83 := by
  obtain ⟨k, rfl⟩ : ∃ k, n = k + 1 := ⟨n - 1, by omega⟩
  have a := e_step k (by omega)
  have b := e_bd k (by omega)
  omega
/-- the cosine, in plain numbers -/
theorem cos_plain (L q A z B e c : Int) (hz : z = 25 * B * q) (z0 : 0 < z) (B0 : 0 ≤ B) (hc : c = 25 * B * (q - A)) (l1 : -(2 ^ 168 * q) ≤ L * q - 2 ^ 256 * A) (l2 : L * q - 2 ^ 256 * A ≤ 2 ^ 168 * q)
    (p1 : -(z * 2 ^ 40) ≤ z * e - 2 ^ 128 * c) (p2 : z * e - 2 ^ 128 * c ≤ z * 2 ^ 40) (he : e ≤ 2 ^ 128 - 2 ^ 83) :
    0 < L ∧ -(2 ^ 170) ≤ 2 ^ 256 - L - 2 ^ 128 * e ∧ 2 ^ 256 - L - 2 ^ 128 * e ≤ 2 ^ 170 := by
  have k1 := mul_mid (show (0 : Int) ≤ 25 * B by omega) l1 l2
  have k2 : 25 * B * (L * q - 2 ^ 256 * A) = z * L - 2 ^ 256 * z + 2 ^ 256 * c := by rw [hz, hc]; grind
  have k3 : 25 * B * (2 ^ 168 * q) = 2 ^ 168 * z := by rw [hz]; grind
  rw [Int.mul_neg, k2, k3] at k1
  have k4 : z * e ≤ z * (2 ^ 128 - 2 ^ 83) := Int.mul_le_mul_of_nonneg_left he (by omega)
  clear hz hc l1 l2 k2 k3
  refine ⟨?_, ?_, ?_⟩
  · apply Int.lt_of_mul_lt_mul_left (a := z) _ (by omega)
    rw [Int.mul_zero]
    generalize z * L = a at *
    generalize z * e = b at *
    omega
  · apply Int.le_of_mul_le_mul_left _ z0
    rw [Int.mul_sub, Int.mul_sub, Int.mul_neg, Int.mul_left_comm z]
    generalize z * L = a at *
    generalize z * e = b at *
    omega
  · apply Int.le_of_mul_le_mul_left _ z0
    rw [Int.mul_sub, Int.mul_sub, Int.mul_left_comm z]
    generalize z * L = a at *
    generalize z * e = b at *
    omega
theorem mod_neg (L : Int) (h0 : 0 < L) (h1 : L < W256) : (0 - L) % W256 = 2 ^ 256 - L := by
  rw [W_is] at *
  omega
theorem cos_near (n : Nat) (n0 : 1 ≤ n) (n1 : n ≤ 2700000) : -(2 ^ 170) ≤ cosS n - 2 ^ 128 * eC n ∧ cosS n - 2 ^ 128 * eC n ≤ 2 ^ 170 := by
  have l := less_near 0 n (Or.inl rfl) (by omega) (by omega)
  have p := (near_poly n n1).2
  have k := cos_plain _ _ _ zN bN (eC n) (cN n) zN_is zN_pos (by decide) rfl l.1 l.2 p.1 p.2 (eC_less n n0 n1)
  have e : cosS n = 2 ^ 256 - lessV (radV n) 0 := mod_neg _ k.1 (lessV_bd (radV n) 0).2
  rw [e]
  exact k.2

theorem sin_plain (S z s e : Int) (z0 : 0 < z) (h1 : -((3 + 2 ^ 168) * z) ≤ S * z - 2 ^ 256 * s) (h2 : S * z - 2 ^ 256 * s ≤ (3 + 2 ^ 168) * z) (p1 : -(z * 2 ^ 40) ≤ z * e - 2 ^ 128 * s) (p2 : z * e - 2 ^ 128 * s ≤ z * 2 ^ 40) :
    -(2 ^ 170) ≤ S - 2 ^ 128 * e ∧ S - 2 ^ 128 * e ≤ 2 ^ 170 := by
  have f : z * (S - 2 ^ 128 * e) = S * z - 2 ^ 128 * (z * e) := by grind
  constructor
  · apply Int.le_of_mul_le_mul_left _ z0
    rw [f]
    generalize S * z = a at *
    generalize z * e = b at *
    omega
  · apply Int.le_of_mul_le_mul_left _ z0
    rw [f]
    generalize S * z = a at *
    generalize z * e = b at *
    omega
theorem piN_bd (n : Int) (n0 : 0 ≤ n) (n1 : n ≤ 2700000) : 0 ≤ piN * n ∧ piN * n ≤ bN := by unfold piN bN; omega
theorem rad_bN (n : Int) : -(1 * bN) ≤ radV n * bN - 2 ^ 256 * (piN * n) ∧ radV n * bN - 2 ^ 256 * (piN * n) ≤ 1 * bN := by
  have r := rad_near n
  generalize radV n = x at *
  generalize piN * n = y at *
  unfold bN
  omega
theorem mod_small (a b : Int) (h0 : 0 ≤ b) (h1 : b ≤ a) (h2 : a < W256) : (a - b) % W256 = a - b := Int.emod_eq_of_lt (by omega) (by omega)
/-- the sine -/
theorem sin_near (n : Nat) (n1 : n ≤ 2700000) : -(2 ^ 170) ≤ sinS n - 2 ^ 128 * eS n ∧ sinS n - 2 ^ 128 * eS n ≤ 2 ^ 170 := by
  have l := less_near 1 n (Or.inr rfl) (by omega) (by omega)
  have p := (near_poly n n1).1
  have lb := lessV_bd (radV n) 1
  have X := radV_bd n (by omega) (by omega)
  have mn := mulV_near (radV n) (lessV (radV n) 1) X.1 X.2 lb.1 lb.2
  have ml := mulV_le (radV n) (lessV (radV n) 1) X.1 X.2 lb.1 lb.2
  have e : sinS n = radV n - mulV (radV n) (lessV (radV n) 1) := mod_small _ _ mn.1 ml X.2
  have xb := piN_bd n (by omega) (by omega)
  have rb := rad_bN n
  rw [W_is] at lb mn
  have h := horn (2 ^ 256) (piN * n) bN (radV n) 1 (lessV (radV n) 1) (sinS n) (radV n) (mulV (radV n) (lessV (radV n) 1)) (qN 1 12) (aN 1 n 12) 1 (2 ^ 168) (3 + 2 ^ 168)
    (by decide) (by decide) (by decide) (qN_pos 1 12 (by decide) (by decide)) xb.1 xb.2 lb.1 (Int.le_of_lt lb.2) (by decide) (by decide) (by rw [Int.mul_one]; exact Int.le_refl _) (by rw [Int.mul_one]; exact Int.lt_succ _) mn.2.2.1 mn.2.2.2 e
    rb l (by decide)
  have k1 : (1 : Int) * bN * qN 1 12 = zN := by rw [Int.one_mul]; rfl
  have k2 : piN * n * (qN 1 12 - aN 1 n 12) = sN n := rfl
  rw [k1, k2] at h
  exact sin_plain _ _ _ _ zN_pos h.1 h.2 p.1 p.2

theorem red_is (n : Int) : redA n = red n := rfl
/-- in the first quarter: the program's number, but for the angles that it does not work off -/
theorem sinN_near (r : Int) (h0 : 0 ≤ r) (h1 : r < 5400000) : -(2 ^ 170) ≤ sinN r - 2 ^ 128 * gS r ∧ sinN r - 2 ^ 128 * gS r ≤ 2 ^ 170 := by
  unfold sinN gS
  by_cases h : r ≤ 2700000
  · rw [if_pos (by omega), if_pos h]
    have := sin_near r.toNat (by omega)
    rw [show ((r.toNat : Nat) : Int) = r by omega] at this
    exact this
  · rw [if_neg (by omega), if_neg h]
    have := cos_near (5400000 - r).toNat (by omega) (by omega)
    rw [show (((5400000 - r).toNat : Nat) : Int) = 5400000 - r by omega] at this
    exact this
theorem third_near : -(2 ^ 26) ≤ gS 1800000 - 2 ^ 127 ∧ gS 1800000 - 2 ^ 127 ≤ 2 ^ 26 := by
  have h := near_half
  have e := gS_low 1800000 (by omega)
  rw [show (1800000 : Int) = ((1800000 : Nat) : Int) by rfl, e]
  unfold eS
  rw [E_third]
  omega
/-- the program's bounds enclose the ideal sine of the first quarter, nearly -/
theorem sinLo_near (r : Int) (h0 : 0 ≤ r) (h1 : r ≤ 5400000) : sinLo r * 2 ^ 98 ≤ gS r + 2 ^ 42 ∧ gS r ≤ upB r * 2 ^ 98 + 2 ^ 42 := by
  cases h : exactB r
  · have k : ¬ r = 0 ∧ ¬ r = 1800000 ∧ ¬ r = 5400000 := by
      unfold exactB at h; simp at h; omega
    have s := sinN_near r h0 (by omega)
    have b := sinN_bd r
    unfold upB
    rw [h]
    unfold sinLo W64
    rw [if_neg k.1, if_neg k.2.1, if_neg k.2.2]
    simp only [Bool.false_eq_true, if_false]
    generalize sinN r = x at *
    generalize gS r = y at *
    omega
  · have k : r = 0 ∨ r = 1800000 ∨ r = 5400000 := by
      unfold exactB at h; simp at h; omega
    unfold upB
    rw [h, if_pos rfl]
    rcases k with rfl | rfl | rfl
    · rw [gS_zero]; decide
    · have t := third_near
      have e : sinLo 1800000 = 536870912 := rfl
      rw [e]
      omega
    · rw [gS_quarter]; decide
/-- and those of any angle -/
theorem b_near (n : Int) : bLo n * 2 ^ 98 ≤ iS n + 2 ^ 42 ∧ iS n ≤ bHi n * 2 ^ 98 + 2 ^ 42 := by
  have r := redA_bd n
  have s := sinLo_near (redA n) r.1 r.2
  unfold bLo bHi iS
  rw [red_is] at *
  split <;> omega

end Go.Proofs.Ytoagcbamlnhkhaa
