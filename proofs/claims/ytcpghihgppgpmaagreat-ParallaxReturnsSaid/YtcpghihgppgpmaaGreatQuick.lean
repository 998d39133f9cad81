/- The quick sines of layer 6's reference are near the ideal ones. Plain arithmetic. -/
import Derived.Test.YtcpghihgppgpmaaGreatRef6a
import Derived.Test.YtcpghihgppgpmaaGreatNear
namespace Go.Proofs.YtcpghihgppgpmaaGreat
open Go.RowKit Rot

theorem aN_bd (odd n : Int) (j : Nat) (ho : 0 ≤ odd) (hj : j ≤ 12) (T0 : 0 ≤ (piN * n) * (piN * n)) (T1 : (piN * n) * (piN * n) ≤ bN * bN) : 0 ≤ aN odd n j ∧ aN odd n j ≤ qN odd j := by
  induction j with
  | zero => exact ⟨Int.le_refl _, by show (0 : Int) ≤ 1; decide⟩
  | succ j ih =>
    have h := ih (by omega)
    have d := dT_pos odd j ho (by omega)
    have q := qN_pos odd j ho (by omega)
    have k : 0 ≤ qN odd j - aN odd n j ∧ qN odd j - aN odd n j ≤ qN odd j := by omega
    have e1 : aN odd n (j + 1) = (piN * n) * (piN * n) * (qN odd j - aN odd n j) := rfl
    have e2 : qN odd (j + 1) = dT odd (12 - j) * (bN * bN) * qN odd j := rfl
    rw [e1, e2]
    have b0 : 0 ≤ bN * bN := by decide
    have m1 : (piN * n) * (piN * n) * (qN odd j - aN odd n j) ≤ bN * bN * qN odd j := Int.mul_le_mul T1 k.2 k.1 b0
    have m2 : 1 * (bN * bN * qN odd j) ≤ dT odd (12 - j) * (bN * bN * qN odd j) := Int.mul_le_mul_of_nonneg_right (by omega) (Int.mul_nonneg b0 (by omega))
    rw [Int.mul_assoc (dT odd (12 - j)) (bN * bN) (qN odd j)]
    exact ⟨Int.mul_nonneg T0 k.1, by omega⟩

/-- one step back of the alternating sum, in plain numbers -/
theorem quick_step (W T BB d t t2 h sq R R2 Q A err err2 : Int) (hW : 0 < W) (hd : 1 ≤ d) (hB : 0 < BB) (hQ : 0 ≤ Q) (a0 : 0 ≤ A) (a1 : A ≤ Q) (t0 : 0 ≤ t) (t1 : t ≤ W)
    (h1 : h * W ≤ t * sq) (h2 : t * sq < h * W + 3 * W) (ht1 : t2 * d ≤ h) (ht2 : h < t2 * d + d) (s1 : -(8 * BB) ≤ sq * BB - W * T) (s2 : sq * BB - W * T ≤ 8 * BB)
    (r1 : -(err * Q) ≤ R2 * Q - t2 * (Q - A)) (r2 : R2 * Q - t2 * (Q - A) ≤ err * Q) (hR : R = t - R2) (he : err + 12 ≤ err2) :
    -(err2 * (d * BB * Q)) ≤ R * (d * BB * Q) - t * (d * BB * Q - T * (Q - A)) ∧ R * (d * BB * Q) - t * (d * BB * Q - T * (Q - A)) ≤ err2 * (d * BB * Q) := by
  subst hR
  have dB : 0 ≤ d * BB := Int.mul_nonneg (by omega) (by omega)
  -- d BB t2 against T t
  have k1 := mul_mid t0 s1 s2
  have k2 := Int.mul_le_mul_of_nonneg_right t1 (show 0 ≤ 8 * BB by omega)
  have k3 := Int.mul_le_mul_of_nonneg_right h1 (show 0 ≤ BB by omega)
  have k4 := Int.mul_le_mul_of_nonneg_right (Int.le_of_lt h2) (show 0 ≤ BB by omega)
  have k5 := Int.mul_le_mul_of_nonneg_left (Int.mul_le_mul_of_nonneg_right ht1 (show 0 ≤ BB by omega)) (show 0 ≤ W by omega)
  have k6 := Int.mul_le_mul_of_nonneg_left (Int.mul_le_mul_of_nonneg_right (Int.le_of_lt ht2) (show 0 ≤ BB by omega)) (show 0 ≤ W by omega)
  have k7 := Int.mul_le_mul_of_nonneg_right hd (show 0 ≤ W * BB from Int.mul_nonneg (by omega) (by omega))
  have i1 : t * (sq * BB - W * T) = t * sq * BB - W * (t * T) := by grind
  have i2 : (h * W + 3 * W) * BB = h * W * BB + 3 * (W * BB) := by grind
  have i3 : W * ((t2 * d + d) * BB) = W * (d * BB * t2) + d * (W * BB) := by grind
  have i4 : W * (t2 * d * BB) = W * (d * BB * t2) := by ac_rfl
  have i5 : W * (h * BB) = h * W * BB := by ac_rfl
  have i6 : W * (8 * BB) = 8 * (W * BB) := by ac_rfl
  have i7 : t * (8 * BB) = 8 * (t * BB) := by ac_rfl
  rw [i1, Int.mul_neg] at k1
  rw [i2] at k4
  rw [i3, i5] at k6
  rw [i4, i5] at k5
  have m : -(12 * (d * (W * BB))) ≤ W * (t * T) - W * (d * BB * t2) ∧ W * (t * T) - W * (d * BB * t2) ≤ 12 * (d * (W * BB)) := by
    rw [i6] at k2
    omega
  have m1 : -(12 * (d * BB)) ≤ t * T - d * BB * t2 ∧ t * T - d * BB * t2 ≤ 12 * (d * BB) := by
    have e1 : 12 * (d * (W * BB)) = W * (12 * (d * BB)) := by ac_rfl
    rw [e1] at m
    constructor
    · apply Int.le_of_mul_le_mul_left _ hW; rw [Int.mul_neg, Int.mul_sub]; exact m.1
    · apply Int.le_of_mul_le_mul_left _ hW; rw [Int.mul_sub]; exact m.2
  have n1 := abs_mul (show 0 ≤ Q - A by omega) m1.1 m1.2
  have n2 := Int.mul_le_mul_of_nonneg_right (show Q - A ≤ Q by omega) (show 0 ≤ 12 * (d * BB) by omega)
  have n3 := abs_mul dB r1 r2
  have n4 := Int.mul_le_mul_of_nonneg_right he (Int.mul_nonneg dB hQ)
  have j1 : (t - R2) * (d * BB * Q) - t * (d * BB * Q - T * (Q - A)) = (Q - A) * (t * T - d * BB * t2) - d * BB * (R2 * Q - t2 * (Q - A)) := by grind
  have j2 : (err + 12) * (d * BB * Q) = d * BB * (err * Q) + Q * (12 * (d * BB)) := by grind
  rw [j1]
  rw [j2] at n4
  constructor <;> omega

/-- the alternating sum from a term on -/
def rQ (sq t d : Int) : Nat → Int
  | 0 => 0
  | k + 1 => tQ sq t d (11 - k) - rQ sq t d k
theorem rQ_sum (sq t d : Int) (k : Nat) (hk : k ≤ 12) : sQ sq t d 12 = if (12 - k) % 2 = 0 then sQ sq t d (12 - k) + rQ sq t d k else sQ sq t d (12 - k) - rQ sq t d k := by
  induction k with
  | zero => simp [rQ]
  | succ k ih =>
    rw [ih (by omega)]
    obtain ⟨m, hm⟩ : ∃ m, 12 - (k + 1) = m := ⟨_, rfl⟩
    rw [show 12 - k = m + 1 by omega, hm]
    simp only [rQ, sQ]
    rw [show 11 - k = m by omega]
    by_cases h : m % 2 = 0
    · rw [if_neg (by omega), if_pos h, if_pos h]; omega
    · rw [if_pos (by omega), if_neg h, if_neg h]; omega

theorem quick_sum (odd n sq t d : Int) (ho : odd = 0 ∨ odd = 1) (hd : d = 1 + odd) (s0 : 0 ≤ sq) (s1 : sq ≤ 2845000000000000000) (t0 : 0 ≤ t) (t1 : t ≤ 4611686018427387904)
    (T0 : 0 ≤ (piN * n) * (piN * n)) (T1 : (piN * n) * (piN * n) ≤ bN * bN)
    (q1 : -(8 * (bN * bN)) ≤ sq * (bN * bN) - 4611686018427387904 * ((piN * n) * (piN * n))) (q2 : sq * (bN * bN) - 4611686018427387904 * ((piN * n) * (piN * n)) ≤ 8 * (bN * bN)) :
    -(144 * qN odd 12) ≤ sQ sq t d 12 * qN odd 12 - t * (qN odd 12 - aN odd n 12) ∧ sQ sq t d 12 * qN odd 12 - t * (qN odd 12 - aN odd n 12) ≤ 144 * qN odd 12 := by
  have d1 : 1 ≤ d := by omega
  have key : ∀ k : Nat, k ≤ 12 → -(12 * (k : Int) * qN odd k) ≤ rQ sq t d k * qN odd k - tQ sq t d (12 - k) * (qN odd k - aN odd n k) ∧ rQ sq t d k * qN odd k - tQ sq t d (12 - k) * (qN odd k - aN odd n k) ≤ 12 * (k : Int) * qN odd k := by
    intro k
    induction k with
    | zero =>
      intro _
      have z := tQ_end sq t d 2 s0 s1 d1 t0 t1
      rw [show 12 - 0 = 10 + 2 by rfl, z]
      simp [rQ]
    | succ k ih =>
      intro hk
      have h := ih (by omega)
      have b := tQ_bd sq t d (11 - k) s0 s1 d1 t0 t1
      have st := tQ_step sq t d (11 - k) s0 s1 d1 b.1
      have hv := highV_bd _ _ b.1 s0
      have dd : (d + 2 * ((11 - k : Nat) : Int)) * (d + 2 * ((11 - k : Nat) : Int) + 1) = dT odd (12 - k) := by
        unfold dT
        rw [show d + 2 * ((11 - k : Nat) : Int) = 2 * ((12 - k : Nat) : Int) - 1 + odd by omega]
        congr 1
        omega
      have e2 : tQ sq t d (12 - k) = highV (tQ sq t d (11 - k)) sq / dT odd (12 - k) := by
        rw [← dd, show 12 - k = 11 - k + 1 by omega]; rfl
      have d2 := dT_pos odd k (by omega) (by omega)
      have dm := Int.mul_ediv_self_le (x := highV (tQ sq t d (11 - k)) sq) (k := dT odd (12 - k)) (by omega)
      have dl := Int.lt_mul_ediv_self_add (x := highV (tQ sq t d (11 - k)) sq) (k := dT odd (12 - k)) (by omega)
      rw [← e2, Int.mul_comm] at dm dl
      have ab := aN_bd odd n k (by omega) (by omega) T0 T1
      have r := quick_step 4611686018427387904 ((piN * n) * (piN * n)) (bN * bN) (dT odd (12 - k)) (tQ sq t d (11 - k)) (tQ sq t d (12 - k)) (highV (tQ sq t d (11 - k)) sq) sq (rQ sq t d (k + 1)) (rQ sq t d k) (qN odd k) (aN odd n k) (12 * (k : Int)) (12 * ((k + 1 : Nat) : Int))
        (by decide) (by omega) (by decide) (Int.le_of_lt (qN_pos odd k (by omega) (by omega))) ab.1 ab.2 b.1 (by have := st.2.2.2.1; omega) hv.2.1 hv.2.2 dm dl q1 q2 h.1 h.2 rfl (by omega)
      rw [show 12 - (k + 1) = 11 - k by omega]
      exact r
  have k := key 12 (by omega)
  have e := rQ_sum sq t d 12 (by omega)
  rw [if_pos (by rfl)] at e
  have e3 : sQ sq t d (12 - 12) = 0 := rfl
  rw [e3, Int.zero_add] at e
  rw [e]
  exact k

theorem xQ_near (r : Int) (h0 : 0 ≤ r) (h1 : r ≤ 2700000) : -(2 * bN) ≤ xQ r * bN - 4611686018427387904 * (piN * r) ∧ xQ r * bN - 4611686018427387904 * (piN * r) ≤ 2 * bN := by
  unfold xQ bN piN
  omega
theorem sq_near (r : Int) (h0 : 0 ≤ r) (h1 : r ≤ 2700000) :
    -(8 * (bN * bN)) ≤ highV (xQ r) (xQ r) * (bN * bN) - 4611686018427387904 * ((piN * r) * (piN * r)) ∧ highV (xQ r) (xQ r) * (bN * bN) - 4611686018427387904 * ((piN * r) * (piN * r)) ≤ 8 * (bN * bN) := by
  have x := xQ_bd r h0 h1
  have n := xQ_near r h0 h1
  have h := highV_bd _ _ x.1 x.1
  have p := piN_bd r h0 h1
  generalize highV (xQ r) (xQ r) = sq at *
  generalize xQ r = X at *
  generalize piN * r = Y at *
  obtain ⟨e, he⟩ : ∃ e, X * bN - 4611686018427387904 * Y = e := ⟨_, rfl⟩
  rw [he] at n
  have hX : X * bN = 4611686018427387904 * Y + e := by omega
  -- the square of X bN
  have e0 : (X * bN) * (X * bN) = 4611686018427387904 * (4611686018427387904 * (Y * Y)) + 4611686018427387904 * (2 * (Y * e)) + e * e := by rw [hX]; grind
  have e1 : (X * bN) * (X * bN) = X * X * (bN * bN) := by ac_rfl
  have y1 := abs_mul p.1 n.1 n.2
  have y2 := Int.mul_le_mul_of_nonneg_right p.2 (show (0 : Int) ≤ 2 * bN by decide)
  have a1 := abs_mul (show (0 : Int) ≤ 2 * bN by decide) n.1 n.2
  have a2 : -(2 * bN * (2 * bN)) ≤ e * e ∧ e * e ≤ 2 * bN * (2 * bN) := by
    have f1 : 0 ≤ e * e := by
      rcases Int.le_total 0 e with g | g
      · exact Int.mul_nonneg g g
      · have := Int.mul_nonneg (show 0 ≤ -e by omega) (show 0 ≤ -e by omega)
        rw [Int.neg_mul_neg] at this
        exact this
    have f2 : e.natAbs * e.natAbs ≤ (2 * bN).natAbs * (2 * bN).natAbs := Nat.mul_le_mul (by omega) (by omega)
    have f3 : ((e.natAbs * e.natAbs : Nat) : Int) = e * e := Int.natAbs_mul_self
    have f4 : (((2 * bN).natAbs * (2 * bN).natAbs : Nat) : Int) = 2 * bN * (2 * bN) := Int.natAbs_mul_self
    have f0 : 0 ≤ 2 * bN * (2 * bN) := by decide
    omega
  have k1 := Int.mul_le_mul_of_nonneg_right h.2.1 (show (0 : Int) ≤ bN * bN by decide)
  have k2 := Int.mul_le_mul_of_nonneg_right (Int.le_of_lt h.2.2) (show (0 : Int) ≤ bN * bN by decide)
  have k3 : (sq * 4611686018427387904 + 3 * 4611686018427387904) * (bN * bN) = 4611686018427387904 * (sq * (bN * bN)) + 3 * 4611686018427387904 * (bN * bN) := by grind
  have k4 : sq * 4611686018427387904 * (bN * bN) = 4611686018427387904 * (sq * (bN * bN)) := by ac_rfl
  have k5 : bN * (2 * bN) = 2 * (bN * bN) := by ac_rfl
  have k6 : 2 * bN * (2 * bN) = 4 * (bN * bN) := by grind
  rw [k3] at k2
  rw [k4] at k1
  rw [k5] at y2
  rw [k6] at a2
  clear k3 k4 k5 k6 hX he a1 h x n p
  generalize sq * (bN * bN) = s at *
  generalize Y * Y = yy at *
  generalize Y * e = ye at *
  generalize e * e = ee at *
  generalize X * X * (bN * bN) = xx at *
  generalize bN * bN = bb at *
  generalize Y * (2 * bN) = z at *
  omega

/-- the quick sine or cosine of an angle up to an eighth of a turn -/
theorem quick_near (r : Nat) (c : Bool) (h1 : r ≤ 2700000) : -(147 * 73786976294838206464) ≤ 73786976294838206464 * quickV r c - (if c then eC r else eS r) ∧ 73786976294838206464 * quickV r c - (if c then eC r else eS r) ≤ 147 * 73786976294838206464 := by
  have x := xQ_bd r (by omega) (by omega)
  have s := sq_bd r (by omega) (by omega)
  have sn := sq_near r (by omega) (by omega)
  have p := piN_bd r (by omega) (by omega)
  have T0 := Int.mul_nonneg p.1 p.1
  have T1 := Int.mul_le_mul p.2 p.2 p.1 (by decide)
  have xn := xQ_near r (by omega) (by omega)
  have z0 := zN_pos
  cases c
  · have q := quick_sum 1 r _ (xQ r) 2 (Or.inr rfl) rfl s.1 s.2 x.1 (by omega) T0 T1 sn.1 sn.2
    have e : quickV r false = sQ (highV (xQ r) (xQ r)) (xQ r) 2 12 := rfl
    rw [← e] at q
    have np := (near_poly r h1).1
    simp only [Bool.false_eq_true, if_false]
    have k1 := mul_mid (show (0 : Int) ≤ bN by decide) q.1 q.2
    have ab := aN_bd 1 r 12 (by decide) (by omega) T0 T1
    have k2 := abs_mul (show 0 ≤ qN 1 12 - aN 1 r 12 by omega) xn.1 xn.2
    have k3 := Int.mul_le_mul_of_nonneg_right (show qN 1 12 - aN 1 r 12 ≤ qN 1 12 by omega) (show (0 : Int) ≤ 2 * bN by decide)
    have j1 : bN * (quickV r false * qN 1 12 - xQ r * (qN 1 12 - aN 1 r 12)) = zN * quickV r false - bN * (xQ r * (qN 1 12 - aN 1 r 12)) := by unfold zN; grind
    have j2 : (qN 1 12 - aN 1 r 12) * (xQ r * bN - 4611686018427387904 * (piN * r)) = bN * (xQ r * (qN 1 12 - aN 1 r 12)) - 4611686018427387904 * sN r := by unfold sN; grind
    have j3 : bN * (144 * qN 1 12) = 144 * zN := by unfold zN; grind
    have j4 : qN 1 12 * (2 * bN) = 2 * zN := by unfold zN; grind
    rw [Int.mul_neg, j1, j3] at k1
    rw [j2] at k2
    rw [j4] at k3
    clear e q T0 T1 sn s x xn ab j1 j2 j3 j4 p
    generalize quickV r false = v at *
    generalize eS r = u at *
    generalize bN * (xQ r * (qN 1 12 - aN 1 r 12)) = y at *
    generalize (qN 1 12 - aN 1 r 12) * (2 * bN) = y2 at *
    generalize sN r = y3 at *
    have i1 : zN * (73786976294838206464 * v - u) = 73786976294838206464 * (zN * v) - zN * u := by grind
    constructor
    · apply Int.le_of_mul_le_mul_left _ z0
      rw [i1]
      generalize zN * v = a1 at *
      generalize zN * u = a2 at *
      generalize zN = z at *
      omega
    · apply Int.le_of_mul_le_mul_left _ z0
      rw [i1]
      generalize zN * v = a1 at *
      generalize zN * u = a2 at *
      generalize zN = z at *
      omega
  · have q := quick_sum 0 r _ 4611686018427387904 1 (Or.inl rfl) rfl s.1 s.2 (by decide) (by omega) T0 T1 sn.1 sn.2
    have e : quickV r true = sQ (highV (xQ r) (xQ r)) 4611686018427387904 1 12 := rfl
    rw [← e] at q
    have np := (near_poly r h1).2
    simp only [if_true]
    have k1 := mul_mid (show (0 : Int) ≤ 25 * bN by decide) q.1 q.2
    have j1 : 25 * bN * (quickV r true * qN 0 12 - 4611686018427387904 * (qN 0 12 - aN 0 r 12)) = zN * quickV r true - 4611686018427387904 * cN r := by rw [zN_is]; unfold cN; grind
    have j3 : 25 * bN * (144 * qN 0 12) = 144 * zN := by rw [zN_is]; grind
    rw [Int.mul_neg, j1, j3] at k1
    clear e q T0 T1 sn s x xn j1 j3 p
    generalize quickV r true = v at *
    generalize eC r = u at *
    generalize cN r = y3 at *
    have i1 : zN * (73786976294838206464 * v - u) = 73786976294838206464 * (zN * v) - zN * u := by grind
    constructor
    · apply Int.le_of_mul_le_mul_left _ z0
      rw [i1]
      generalize zN * v = a1 at *
      generalize zN * u = a2 at *
      generalize zN = z at *
      omega
    · apply Int.le_of_mul_le_mul_left _ z0
      rw [i1]
      generalize zN * v = a1 at *
      generalize zN * u = a2 at *
      generalize zN = z at *
      omega

/-- the quick sine of an angle: its part of the first quarter -/
def quickA (n : Int) : Int :=
  if 2700000 < n % 5400000 then quickV (5400000 - n % 5400000) (!decide (n % 21600000 / 5400000 % 2 = 1)) else quickV (n % 5400000) (decide (n % 21600000 / 5400000 % 2 = 1))
theorem quickA_near (n : Int) : -(148 * 73786976294838206464) ≤ 73786976294838206464 * quickA n - gS (redA n) ∧ 73786976294838206464 * quickA n - gS (redA n) ≤ 148 * 73786976294838206464 := by
  have o : n % 21600000 / 5400000 % 2 = 0 ∨ n % 21600000 / 5400000 % 2 = 1 := by omega
  have en := fun k h => eighth_near k h
  unfold quickA
  by_cases h : 2700000 < n % 5400000
  · rw [if_pos h]
    obtain ⟨k, hk⟩ : ∃ k : Nat, 5400000 - n % 5400000 = k := ⟨(5400000 - n % 5400000).toNat, by omega⟩
    rw [hk]
    rcases o with o | o
    · have e : redA n = 5400000 - (k : Int) := by unfold redA; repeat' split
                                                  all_goals omega
      have q := quick_near k true (by omega)
      have d : decide (n % 21600000 / 5400000 % 2 = 1) = false := by simp [o]
      rw [d, e, gS_high k (by omega)]
      simp only [if_true, Bool.not_false] at q ⊢
      omega
    · have e : redA n = (k : Int) := by unfold redA; repeat' split
                                        all_goals omega
      have q := quick_near k false (by omega)
      have d : decide (n % 21600000 / 5400000 % 2 = 1) = true := by simp [o]
      rw [d, e, gS_low k (by omega)]
      simp only [Bool.false_eq_true, if_false, Bool.not_true] at q ⊢
      omega
  · rw [if_neg h]
    obtain ⟨k, hk⟩ : ∃ k : Nat, n % 5400000 = k := ⟨(n % 5400000).toNat, by omega⟩
    rw [hk]
    rcases o with o | o
    · have e : redA n = (k : Int) := by unfold redA; repeat' split
                                        all_goals omega
      have q := quick_near k false (by omega)
      have d : decide (n % 21600000 / 5400000 % 2 = 1) = false := by simp [o]
      rw [d, e, gS_low k (by omega)]
      simp only [Bool.false_eq_true, if_false] at q ⊢
      omega
    · have e : redA n = 5400000 - (k : Int) := by unfold redA; repeat' split
                                                  all_goals omega
      have q := quick_near k true (by omega)
      have d : decide (n % 21600000 / 5400000 % 2 = 1) = true := by simp [o]
      rw [d, e]
      simp only [if_true] at q ⊢
      by_cases g : k < 2700000
      · rw [gS_high k g]; omega
      · have e8 := en k (by omega)
        rw [show 5400000 - (k : Int) = k by omega, gS_low k (by omega)]
        omega

theorem good_cases (r : Int) (h0 : 0 ≤ r) (h1 : r ≤ 5400000) (h : exactB r = false) : ∃ m, gS r = m ∧ 2 ^ 76 ≤ m % 2 ^ 98 ∧ m % 2 ^ 98 ≤ 2 ^ 98 - 2 ^ 76 := by
  have k : ¬ r = 0 ∧ ¬ r = 1800000 ∧ ¬ r = 5400000 := by
    unfold exactB at h; simp at h; omega
  refine ⟨_, rfl, ?_⟩
  by_cases h2 : r ≤ 2700000
  · obtain ⟨j, rfl⟩ : ∃ j : Nat, r = j := ⟨r.toNat, by omega⟩
    have g := (E_good j (by omega) (by omega)).1 (by omega)
    rw [gS_low j (by omega)]
    unfold eS
    unfold good at g
    omega
  · obtain ⟨j, hj⟩ : ∃ j : Nat, r = 5400000 - (j : Int) := ⟨(5400000 - r).toNat, by omega⟩
    have g := (E_good j (by omega) (by omega)).2
    rw [hj, gS_high j (by omega)]
    unfold eC
    unfold good at g
    omega
/-- what the quick sine tells, for an angle that is not exact -/
theorem quick_floor (n : Int) (h : exactB (redA n) = false) : (quickA n - 256) / 4294967296 = sinLo (redA n) ∧ (quickA n + 256) / 4294967296 = sinLo (redA n) ∧ 300 ≤ quickA n - 4294967296 * sinLo (redA n) ∧ quickA n - 4294967296 * sinLo (redA n) ≤ 4294967296 - 300 := by
  have r := redA_bd n
  have q := quickA_near n
  obtain ⟨m, e, g⟩ := good_cases (redA n) r.1 r.2 h
  have s := sinLo_near (redA n) r.1 r.2
  have u : upB (redA n) = sinLo (redA n) + 1 := by unfold upB; rw [h]; rfl
  rw [u] at s
  rw [e] at q s
  generalize quickA n = v at *
  generalize sinLo (redA n) = l at *
  omega

end Go.Proofs.YtcpghihgppgpmaaGreat
