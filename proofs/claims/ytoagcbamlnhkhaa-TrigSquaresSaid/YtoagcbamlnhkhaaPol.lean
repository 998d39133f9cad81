/- Taylor's polynomials of sine and cosine in the number of units: they go on by a rotation, nearly; so the sequence of sines is near them. Plain arithmetic. -/
import Derived.Test.YtoagcbamlnhkhaaRotE
namespace Go.Proofs.Ytoagcbamlnhkhaa.Rot

/-- a polynomial's value, the least coefficient first -/
def ev (l : List Int) (n : Int) : Int := l.foldr (fun a r => a + n * r) 0
def pAdd : List Int → List Int → List Int
  | [], m => m
  | l, [] => l
  | a :: l, b :: m => (a + b) :: pAdd l m
def pMul (k : Int) (l : List Int) : List Int := l.map (k * ·)
def pNext : List Int → List Int
  | [] => []
  | a :: l => pAdd [a] (pAdd (pNext l) (0 :: pNext l))
def pMost (l : List Int) (N : Int) : Int := l.foldr (fun a r => (a.natAbs : Int) + N * r) 0

theorem ev_cons (a : Int) (l : List Int) (n : Int) : ev (a :: l) n = a + n * ev l n := rfl
theorem ev_add (l m : List Int) (n : Int) : ev (pAdd l m) n = ev l n + ev m n := by
  induction l generalizing m with
  | nil => simp [pAdd, ev]
  | cons a l ih =>
    cases m with
    | nil => simp [pAdd, ev]
    | cons b m => simp only [pAdd, ev_cons, ih, Int.mul_add]; omega
theorem ev_mul (k : Int) (l : List Int) (n : Int) : ev (pMul k l) n = k * ev l n := by
  induction l with
  | nil => simp [pMul, ev]
  | cons a l ih => simp only [pMul, List.map_cons, ev_cons] at *; rw [ih, Int.mul_add, Int.mul_left_comm]
theorem ev_next (l : List Int) (n : Int) : ev (pNext l) n = ev l (n + 1) := by
  induction l with
  | nil => rfl
  | cons a l ih =>
    simp only [pNext, ev_add, ev_cons, ih]
    rw [Int.add_mul, Int.one_mul]
    simp only [ev, List.foldr_nil, Int.mul_zero]
    omega
theorem ev_most (l : List Int) (n N : Int) (h0 : 0 ≤ n) (h1 : n ≤ N) : -(pMost l N) ≤ ev l n ∧ ev l n ≤ pMost l N := by
  induction l with
  | nil => exact ⟨by simp [pMost, ev], by simp [pMost, ev]⟩
  | cons a l ih =>
    rw [ev_cons]
    have p : pMost (a :: l) N = (a.natAbs : Int) + N * pMost l N := rfl
    rw [p]
    have q := abs_mul h0 ih.1 ih.2
    have p0 : 0 ≤ pMost l N := by omega
    have r := Int.mul_le_mul_of_nonneg_right h1 p0
    omega

/-- pi and a half turn, times 2^256 -/
def piN : Int := 3 * 2 ^ 256 + 16395309179817738009521987751666139093583423331470737840399399094199505546377
def bN : Int := 10800000 * 2 ^ 256
def dT (odd : Int) (k : Nat) : Int := (2 * (k : Int) - 1 + odd) * (2 * (k : Int) + odd)
/-- the denominators of the series from its last term on: after j terms of 12 -/
def qN (odd : Int) : Nat → Int
  | 0 => 1
  | j + 1 => dT odd (12 - j) * (bN * bN) * qN odd j
/-- its numerators, as numbers and as polynomials -/
def aN (odd n : Int) : Nat → Int
  | 0 => 0
  | j + 1 => (piN * n) * (piN * n) * (qN odd j - aN odd n j)
def pN (odd : Int) : Nat → List Int
  | 0 => []
  | j + 1 => 0 :: 0 :: pMul (piN * piN) (pAdd [qN odd j] (pMul (-1) (pN odd j)))
theorem ev_pN (odd n : Int) (j : Nat) : ev (pN odd j) n = aN odd n j := by
  induction j with
  | zero => rfl
  | succ j ih =>
    simp only [pN, aN, ev_cons, ev_mul, ev_add, ih]
    simp only [ev, List.foldr_nil, Int.mul_zero, Int.add_zero, Int.zero_add]
    rw [show qN odd j + -1 * aN odd n j = qN odd j - aN odd n j by omega]
    ac_rfl
/-- the polynomials: sine and cosine times zN -/
def zN : Int := bN * qN 1 12
def sP : List Int := 0 :: pMul piN (pAdd [qN 1 12] (pMul (-1) (pN 1 12)))
def cP : List Int := pMul (25 * bN) (pAdd [qN 0 12] (pMul (-1) (pN 0 12)))
def sN (n : Int) : Int := piN * n * (qN 1 12 - aN 1 n 12)
def cN (n : Int) : Int := 25 * bN * (qN 0 12 - aN 0 n 12)
theorem ev_sP (n : Int) : ev sP n = sN n := by
  unfold sP sN
  rw [ev_cons, ev_mul, ev_add, ev_mul, ev_pN]
  simp only [ev, List.foldr_nil, List.foldr_cons, Int.mul_zero, Int.add_zero, Int.zero_add]
  rw [Int.mul_comm piN n, Int.mul_assoc, Int.sub_eq_add_neg, Int.neg_one_mul]
theorem ev_cP (n : Int) : ev cP n = cN n := by
  unfold cP cN
  rw [ev_mul, ev_add, ev_mul, ev_pN]
  simp only [ev, List.foldr_nil, List.foldr_cons, Int.mul_zero, Int.add_zero]
  rw [Int.sub_eq_add_neg, Int.neg_one_mul]
theorem zN_is : zN = 25 * bN * qN 0 12 := by decide +kernel
theorem zN_pos : 0 < zN := by decide +kernel

def sR : List Int := pAdd (pMul (2 ^ 128) (pNext sP)) (pAdd (pMul (-340282366920924066805512056100497561939) sP) (pMul (-98984128154162191825446416122235) cP))
def cR : List Int := pAdd (pMul (2 ^ 128) (pNext cP)) (pAdd (pMul (-340282366920924066805512056100497561939) cP) (pMul 98984128154162191825446416122235 sP))
theorem sR_small : pMost sR 2700000 ≤ 2 ^ 16 * zN := by decide +kernel
theorem cR_small : pMost cR 2700000 ≤ 2 ^ 16 * zN := by decide +kernel
theorem p_step (n : Int) (h0 : 0 ≤ n) (h1 : n ≤ 2700000) :
    (-(2 ^ 16 * zN) ≤ 2 ^ 128 * sN (n + 1) - (340282366920924066805512056100497561939 * sN n + 98984128154162191825446416122235 * cN n) ∧ 2 ^ 128 * sN (n + 1) - (340282366920924066805512056100497561939 * sN n + 98984128154162191825446416122235 * cN n) ≤ 2 ^ 16 * zN) ∧
    (-(2 ^ 16 * zN) ≤ 2 ^ 128 * cN (n + 1) - (340282366920924066805512056100497561939 * cN n - 98984128154162191825446416122235 * sN n) ∧ 2 ^ 128 * cN (n + 1) - (340282366920924066805512056100497561939 * cN n - 98984128154162191825446416122235 * sN n) ≤ 2 ^ 16 * zN) := by
  have a := ev_most sR n 2700000 h0 h1
  have b := ev_most cR n 2700000 h0 h1
  have a2 := sR_small
  have b2 := cR_small
  obtain ⟨x, hx⟩ : ∃ x, pMost sR 2700000 = x := ⟨_, rfl⟩
  obtain ⟨y, hy⟩ : ∃ y, pMost cR 2700000 = y := ⟨_, rfl⟩
  rw [hx] at a a2
  rw [hy] at b b2
  clear hx hy
  unfold sR at a
  unfold cR at b
  simp only [ev_add, ev_mul, ev_next, ev_sP, ev_cP] at a b
  generalize sN (n + 1) = s1 at *
  generalize cN (n + 1) = c1 at *
  generalize sN n = s0 at *
  generalize cN n = c0 at *
  generalize zN = z at *
  omega

/-- the sequence is near the polynomials -/
theorem near_poly (n : Nat) (hn : n ≤ 2700000) : (-(zN * 2 ^ 40) ≤ zN * eS n - 2 ^ 128 * sN n ∧ zN * eS n - 2 ^ 128 * sN n ≤ zN * 2 ^ 40) ∧ (-(zN * 2 ^ 40) ≤ zN * eC n - 2 ^ 128 * cN n ∧ zN * eC n - 2 ^ 128 * cN n ≤ zN * 2 ^ 40) := by
  have z0 := zN_pos
  have h := rot_err (fun n => zN * eS n - 2 ^ 128 * sN n) (fun n => zN * eC n - 2 ^ 128 * cN n) ((2 ^ 16 + 1) * 2 ^ 128 * zN) 2700000 (by omega) (by decide +kernel) (by decide +kernel) (by omega)
    (fun n hn => by
      have e := e_step n hn
      have p := (p_step n (by omega) (by omega)).1
      have e1 := Int.mul_le_mul_of_nonneg_left e.1 (Int.le_of_lt z0)
      have e2 := Int.mul_le_mul_of_nonneg_left (Int.le_of_lt e.2.1) (Int.le_of_lt z0)
      simp only [Int.mul_add, Int.mul_left_comm zN] at e1 e2
      rw [show ((n + 1 : Nat) : Int) = (n : Int) + 1 by omega]
      generalize zN * eS (n + 1) = x1 at *
      generalize zN * eS n = x0 at *
      generalize zN * eC n = y0 at *
      generalize sN (n + 1) = s1 at *
      generalize sN n = s0 at *
      generalize cN n = c0 at *
      generalize zN = z at *
      omega)
    (fun n hn => by
      have e := e_step n hn
      have p := (p_step n (by omega) (by omega)).2
      have e1 := Int.mul_le_mul_of_nonneg_left e.2.2.1 (Int.le_of_lt z0)
      have e2 := Int.mul_le_mul_of_nonneg_left (Int.le_of_lt e.2.2.2) (Int.le_of_lt z0)
      simp only [Int.mul_add, Int.mul_sub, Int.mul_left_comm zN] at e1 e2
      rw [show ((n + 1 : Nat) : Int) = (n : Int) + 1 by omega]
      generalize zN * eC (n + 1) = x1 at *
      generalize zN * eS n = x0 at *
      generalize zN * eC n = y0 at *
      generalize cN (n + 1) = s1 at *
      generalize sN n = s0 at *
      generalize cN n = c0 at *
      generalize zN = z at *
      omega) n hn
  have g : gF n ≤ 3437746 * 9100000 := by
    unfold gF
    have : (n : Int) * (3437746 + 3 * n) ≤ 2700000 * (3437746 + 3 * 2700000) := Int.mul_le_mul (by omega) (by omega) (by omega) (by omega)
    omega
  have k : (2 ^ 16 + 1) * 2 ^ 128 * zN * gF n ≤ (2 ^ 16 + 1) * 2 ^ 128 * zN * (3437746 * 9100000) := Int.mul_le_mul_of_nonneg_left g (by omega)
  generalize (2 ^ 16 + 1) * 2 ^ 128 * zN * gF n = w at *
  generalize zN * eS n = a at *
  generalize zN * eC n = b at *
  generalize zN = z at *
  omega

end Go.Proofs.Ytoagcbamlnhkhaa.Rot
