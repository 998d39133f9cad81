/- The numbers of the best point of lines: their definitions and bounds. -/
import Derived.Test.YtjceofmhodcefaaGreatLs1
import Derived.Test.YtjceofmhodcefaaGreatLa
import Derived.Test.YtjceofmhodcefaaGreatTq
namespace Go.Proofs.YtjceofmhodcefaaGreat
open Go.RowKit

def zL (f : Nat → Nat → Int) (i : Nat) : Int := (f i 2 + f i 3) / 2
def sL (f : Nat → Nat → Int) (i : Nat) : Int := bLo (zL f i) / 131072
def dL (f : Nat → Nat → Int) (i : Nat) : Int := bLo (zL f i + 5400000) / 131072
def pL (f : Nat → Nat → Int) (i : Nat) : Int := (f i 4 + f i 5) / 2
def aL (f : Nat → Nat → Int) : Nat → Int := sm fun i => sL f i * sL f i
def bL (f : Nat → Nat → Int) : Nat → Int := sm fun i => sL f i * dL f i
def cL (f : Nat → Nat → Int) : Nat → Int := sm fun i => dL f i * dL f i
def uL (f : Nat → Nat → Int) : Nat → Int := sm fun i => sL f i * pL f i
def vL (f : Nat → Nat → Int) : Nat → Int := sm fun i => dL f i * pL f i
def detL (f : Nat → Nat → Int) (n : Nat) : Int := aL f n * cL f n - bL f n * bL f n
def xL (f : Nat → Nat → Int) (n : Nat) : Int := if detL f n < 1099511627776 then 0 else (uL f n * cL f n + -(vL f n * bL f n)) * 8192 / detL f n
def yL (f : Nat → Nat → Int) (n : Nat) : Int := if detL f n < 1099511627776 then 0 else (vL f n * aL f n + -(uL f n * bL f n)) * 8192 / detL f n
def kL (f : Nat → Nat → Int) : Int := bLo (f 0 0 + 5400000)
def eL (f : Nat → Nat → Int) (n : Nat) : Int := xL f n * 1073741824 / kL f
def lonL (f : Nat → Nat → Int) (n : Nat) : Int := sgn (f 0 1 + eL f n)
def rL (f : Nat → Nat → Int) (n i : Nat) : Int := pL f i - (sL f i * xL f n + dL f i * yL f n) / 8192

theorem lineB_u {c d a b p q : Int} (h : lineB c d a b p q = true) : (-5340000 ≤ c ∧ c ≤ 5340000) ∧ (-10800000 ≤ d ∧ d < 10800000) ∧ a ≤ b ∧ 0 ≤ a ∧ a < 21600000 ∧ b - a < 10800000 ∧ p ≤ q ∧ -600000 ≤ p ∧ q ≤ 600000 := by
  simp [lineB, nearB, arcB] at h
  omega
theorem mulB {a b M N : Int} (h0 : -M ≤ a) (h1 : a ≤ M) (h2 : -N ≤ b) (h3 : b ≤ N) : -(M * N) ≤ a * b ∧ a * b ≤ M * N := by
  have e := Int.natAbs_mul a b
  have h : a.natAbs * b.natAbs ≤ M.natAbs * N.natAbs := Nat.mul_le_mul (by omega) (by omega)
  rw [← e, ← Int.natAbs_mul] at h
  have p : 0 ≤ M * N := Int.mul_nonneg (by omega) (by omega)
  omega
theorem sL_bd (f : Nat → Nat → Int) (i : Nat) : -8192 ≤ sL f i ∧ sL f i ≤ 8192 := by
  have b := b_bd (zL f i)
  unfold sL
  omega
theorem dL_bd (f : Nat → Nat → Int) (i : Nat) : -8192 ≤ dL f i ∧ dL f i ≤ 8192 := by
  have b := b_bd (zL f i + 5400000)
  unfold dL
  omega
theorem pL_bd {f : Nat → Nat → Int} {i : Nat} (h : lineB (f i 0) (f i 1) (f i 2) (f i 3) (f i 4) (f i 5) = true) : -600000 ≤ pL f i ∧ pL f i ≤ 600000 := by
  have b := lineB_u h
  unfold pL
  omega
theorem prods {f : Nat → Nat → Int} {n : Nat} (hv : ∀ i, i < n → lineB (f i 0) (f i 1) (f i 2) (f i 3) (f i 4) (f i 5) = true) :
    ∀ i, i < n → (-67108864 ≤ sL f i * sL f i ∧ sL f i * sL f i ≤ 67108864) ∧ (-67108864 ≤ sL f i * dL f i ∧ sL f i * dL f i ≤ 67108864) ∧ (-67108864 ≤ dL f i * dL f i ∧ dL f i * dL f i ≤ 67108864) ∧ (-4915200000 ≤ sL f i * pL f i ∧ sL f i * pL f i ≤ 4915200000) ∧ (-4915200000 ≤ dL f i * pL f i ∧ dL f i * pL f i ≤ 4915200000) := by
  intro i hi
  have s := sL_bd f i
  have d := dL_bd f i
  have p := pL_bd (hv i hi)
  exact ⟨mulB s.1 s.2 s.1 s.2, mulB s.1 s.2 d.1 d.2, mulB d.1 d.2 d.1 d.2, mulB s.1 s.2 p.1 p.2, mulB d.1 d.2 p.1 p.2⟩
theorem sums {f : Nat → Nat → Int} {n : Nat} (n16 : n ≤ 16) (hv : ∀ i, i < n → lineB (f i 0) (f i 1) (f i 2) (f i 3) (f i 4) (f i 5) = true) :
    ∀ k, k ≤ n → (-1073741824 ≤ aL f k ∧ aL f k ≤ 1073741824) ∧ (-1073741824 ≤ bL f k ∧ bL f k ≤ 1073741824) ∧ (-1073741824 ≤ cL f k ∧ cL f k ≤ 1073741824) ∧ (-78643200000 ≤ uL f k ∧ uL f k ≤ 78643200000) ∧ (-78643200000 ≤ vL f k ∧ vL f k ≤ 78643200000) := by
  intro k hk
  have q := prods hv
  have t1 := sm_bd (fun i hi => (q i hi).1) (by decide) k hk
  have t2 := sm_bd (fun i hi => (q i hi).2.1) (by decide) k hk
  have t3 := sm_bd (fun i hi => (q i hi).2.2.1) (by decide) k hk
  have t4 := sm_bd (fun i hi => (q i hi).2.2.2.1) (by decide) k hk
  have t5 := sm_bd (fun i hi => (q i hi).2.2.2.2) (by decide) k hk
  unfold aL bL cL uL vL
  omega
theorem sums_zero (f : Nat → Nat → Int) : aL f 0 = 0 ∧ bL f 0 = 0 ∧ cL f 0 = 0 ∧ uL f 0 = 0 ∧ vL f 0 = 0 := ⟨rfl, rfl, rfl, rfl, rfl⟩
theorem sums_succ (f : Nat → Nat → Int) (k : Nat) : aL f (k + 1) = aL f k + sL f k * sL f k ∧ bL f (k + 1) = bL f k + sL f k * dL f k ∧ cL f (k + 1) = cL f k + dL f k * dL f k ∧ uL f (k + 1) = uL f k + sL f k * pL f k ∧ vL f (k + 1) = vL f k + dL f k * pL f k := ⟨rfl, rfl, rfl, rfl, rfl⟩
theorem dets {f : Nat → Nat → Int} {n : Nat} (n16 : n ≤ 16) (hv : ∀ i, i < n → lineB (f i 0) (f i 1) (f i 2) (f i 3) (f i 4) (f i 5) = true) :
    (-1152921504606846976 ≤ aL f n * cL f n ∧ aL f n * cL f n ≤ 1152921504606846976) ∧ -1152921504606846976 ≤ bL f n * bL f n ∧ bL f n * bL f n ≤ 1152921504606846976 := by
  have t := sums n16 hv n (Nat.le_refl _)
  exact ⟨mulB t.1.1 t.1.2 t.2.2.1.1 t.2.2.1.2, mulB t.2.1.1 t.2.1.2 t.2.1.1 t.2.1.2⟩
theorem quo_bd {a b c d e : Int} (a0 : -78643200000 ≤ a) (a1 : a ≤ 78643200000) (b0 : -1073741824 ≤ b) (b1 : b ≤ 1073741824) (c0 : -78643200000 ≤ c) (c1 : c ≤ 78643200000) (d0 : -1073741824 ≤ d) (d1 : d ≤ 1073741824) (he : 1099511627776 ≤ e) :
    -1300000000000 ≤ (a * b + -(c * d)) * 8192 / e ∧ (a * b + -(c * d)) * 8192 / e ≤ 1300000000000 := by
  have m1 := mulB a0 a1 b0 b1
  have m2 := mulB c0 c1 d0 d1
  constructor
  · exact Int.le_ediv_of_mul_le (by omega) (by omega)
  · exact Int.ediv_le_of_le_mul (by omega) (by omega)
theorem xL_bd {f : Nat → Nat → Int} {n : Nat} (n16 : n ≤ 16) (hv : ∀ i, i < n → lineB (f i 0) (f i 1) (f i 2) (f i 3) (f i 4) (f i 5) = true) :
    (-1300000000000 ≤ xL f n ∧ xL f n ≤ 1300000000000) ∧ (-1300000000000 ≤ yL f n ∧ yL f n ≤ 1300000000000) := by
  have t := sums n16 hv n (Nat.le_refl _)
  unfold xL yL
  by_cases h : detL f n < 1099511627776
  · simp only [if_pos h]; omega
  · simp only [if_neg h]
    exact ⟨quo_bd t.2.2.2.1.1 t.2.2.2.1.2 t.2.2.1.1 t.2.2.1.2 t.2.2.2.2.1 t.2.2.2.2.2 t.2.1.1 t.2.1.2 (by omega), quo_bd t.2.2.2.2.1 t.2.2.2.2.2 t.1.1 t.1.2 t.2.2.2.1.1 t.2.2.2.1.2 t.2.1.1 t.2.1.2 (by omega)⟩
theorem b_deg : 18000000 ≤ bLo 60000 := by decide +kernel
theorem kL_bd {f : Nat → Nat → Int} (h0 : -5340000 ≤ f 0 0) (h1 : f 0 0 ≤ 5340000) : 18000000 ≤ kL f ∧ kL f ≤ 1073741824 := by
  have b := b_bd (f 0 0 + 5400000)
  refine ⟨?_, by unfold kL; omega⟩
  have d := b_deg
  unfold kL
  by_cases h : f 0 0 ≤ 0
  · have := (b_up (-5400000) 60000 (f 0 0 + 5400000) (by omega) (by omega) (by omega) (by omega)).1
    omega
  · rw [← (b_mirror (f 0 0 + 5400000)).1]
    have := (b_up (-5400000) 60000 (10800000 - (f 0 0 + 5400000)) (by omega) (by omega) (by omega) (by omega)).1
    omega
theorem eL_bd {f : Nat → Nat → Int} {n : Nat} (h0 : -5340000 ≤ f 0 0) (h1 : f 0 0 ≤ 5340000) (x0 : -2000000 ≤ xL f n) (x1 : xL f n ≤ 2000000) : -4000000000000 ≤ eL f n ∧ eL f n ≤ 4000000000000 := by
  have k := kL_bd h0 h1
  unfold eL
  constructor
  · exact Int.le_ediv_of_mul_le (by omega) (by omega)
  · exact Int.ediv_le_of_le_mul (by omega) (by omega)
theorem rest_bd {f : Nat → Nat → Int} {n : Nat} (hv : ∀ i, i < n → lineB (f i 0) (f i 1) (f i 2) (f i 3) (f i 4) (f i 5) = true) (x0 : -2000000 ≤ xL f n) (x1 : xL f n ≤ 2000000) (y0 : -2000000 ≤ yL f n) (y1 : yL f n ≤ 2000000) :
    ∀ i, i < n → (-17179869184 ≤ sL f i * xL f n ∧ sL f i * xL f n ≤ 17179869184) ∧ (-17179869184 ≤ dL f i * yL f n ∧ dL f i * yL f n ≤ 17179869184) ∧ -600000 ≤ pL f i ∧ pL f i ≤ 600000 := by
  intro i hi
  have s := sL_bd f i
  have d := dL_bd f i
  have p := pL_bd (hv i hi)
  have m1 := mulB s.1 s.2 x0 x1
  have m2 := mulB d.1 d.2 y0 y1
  omega

end Go.Proofs.YtjceofmhodcefaaGreat
