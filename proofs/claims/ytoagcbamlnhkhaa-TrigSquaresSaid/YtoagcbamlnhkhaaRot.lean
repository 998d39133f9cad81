/- The sines of the units up to an eighth of a turn, as one sequence of integers. Plain arithmetic. -/
import Derived.Test.YtoagcbamlnhkhaaLaneR
namespace Go.Proofs.Ytoagcbamlnhkhaa.Rot

def full (i : Nat) : Nat × Nat := (st ++ [stEnd]).getD i (0, 0)
theorem st_range : st = (List.range 60).map full := by decide +kernel
theorem ends_at : sAt5 = pack ((List.range 60).map fun i => (full (i + 1)).1) ∧ dAt5 = pack ((List.range 60).map fun i => (full (i + 1)).2) := by
  constructor
  · decide +kernel
  · decide +kernel
theorem full_small : ∀ i, i < 61 → roomy (full i) := by
  have h : ((List.range 61).all fun i => Nat.ble (full i).1 (2 ^ 127 + 2 ^ 126) && Nat.ble (full i).2 (2 ^ 126 + 2 ^ 124)) = true := by decide +kernel
  intro i hi
  have := List.all_eq_true.1 h i (List.mem_range.2 hi)
  simp only [Bool.and_eq_true] at this
  exact ⟨Nat.le_of_ble_eq_true this.1, Nat.le_of_ble_eq_true this.2⟩
theorem full_next (i : Nat) (hi : i < 60) : it 45000 (full i) = full (i + 1) := by
  have h := laid.1
  unfold isAt at h
  rw [st_range, List.map_map, List.map_map] at h
  have e := ends_at
  have r : ∀ i ∈ List.range 60, i < 60 := fun i h => List.mem_range.1 h
  have b : ∀ i ∈ List.range 60, (it 45000 (full i)).1 < 2 ^ 256 ∧ (it 45000 (full i)).2 < 2 ^ 256 := fun i h => by
    have := it_lt 45000 (full i) (Nat.le_refl _) (full_small i (by have := r i h; omega)); omega
  have b2 : ∀ i ∈ List.range 60, (full (i + 1)).1 < 2 ^ 256 ∧ (full (i + 1)).2 < 2 ^ 256 := fun i h => by
    have := full_small (i + 1) (by have := r i h; omega); unfold roomy at this; omega
  have x := pk_inj (fun i => (it 45000 (full i)).1) (fun i => (full (i + 1)).1) _ (fun i h => (b i h).1) (fun i h => (b2 i h).1) (h.1.symm.trans e.1)
  have y := pk_inj (fun i => (it 45000 (full i)).2) (fun i => (full (i + 1)).2) _ (fun i h => (b i h).2) (fun i h => (b2 i h).2) (h.2.symm.trans e.2)
  exact Prod.ext (x i (List.mem_range.2 hi)) (y i (List.mem_range.2 hi))

/-- 2^128 times the sine of n units, and what the cosine lacks to 2^128 -/
def E (n : Nat) : Nat × Nat := it n (0, 0)
theorem E_lane (i : Nat) (hi : i ≤ 60) : E (45000 * i) = full i := by
  induction i with
  | zero => decide +kernel
  | succ i ih => rw [Nat.mul_succ]; unfold E; rw [it_add]; show it 45000 (E (45000 * i)) = _; rw [ih (by omega), full_next i (by omega)]
theorem E_in (i j : Nat) (hi : i ≤ 60) : E (45000 * i + j) = it j (full i) := by
  unfold E; rw [it_add]; show it j (E (45000 * i)) = _; rw [E_lane i hi]
def goodB (v : Nat) : Bool := Nat.ble (2 ^ 77) ((v + 2 ^ 76) % 2 ^ 98)
theorem starts_good : ((List.range 61).all fun i => (Nat.beq i 0 || Nat.beq i 40 || goodB (full i).1) && (Nat.beq i 0 || goodB (full i).2)) = true := by decide +kernel
theorem start_good (i : Nat) (hi : i ≤ 60) (h0 : i ≠ 0) : (i ≠ 40 → good (full i).1) ∧ good (full i).2 := by
  have := List.all_eq_true.1 starts_good i (List.mem_range.2 (by omega))
  have e : Nat.beq i 0 = false := by cases h : Nat.beq i 0; rfl; exact absurd (Nat.eq_of_beq_eq_true h) h0
  simp only [Bool.and_eq_true, e, Bool.false_or] at this
  refine ⟨fun h4 => ?_, Nat.le_of_ble_eq_true this.2⟩
  have e4 : Nat.beq i 40 = false := by cases h : Nat.beq i 40; rfl; exact absurd (Nat.eq_of_beq_eq_true h) h4
  rw [e4, Bool.false_or] at this
  exact Nat.le_of_ble_eq_true this.1
theorem E_good (n : Nat) (hn : n ≤ 2700000) (h0 : n ≠ 0) : (n ≠ 1800000 → good (E n).1) ∧ good (E n).2 := by
  obtain ⟨i, j, hj, rfl⟩ : ∃ i j, j < 45000 ∧ n = 45000 * i + j := ⟨n / 45000, n % 45000, Nat.mod_lt _ (by omega), by omega⟩
  by_cases h : j = 0
  · subst h
    rw [E_in i 0 (by omega)]
    have g := start_good i (by omega) (by omega)
    exact ⟨fun h => g.1 (by omega), g.2⟩
  · rw [E_in i j (by omega)]
    have hi : i < 60 := by omega
    have hm : full i ∈ st := by rw [st_range]; exact List.mem_map.2 ⟨i, List.mem_range.2 hi, rfl⟩
    have g := laid.2 j (by omega) hj (full i) hm
    exact ⟨fun _ => g.1, g.2⟩
theorem E_lt (n : Nat) (hn : n ≤ 2700000) : (E n).1 < 2 ^ 127 + 2 ^ 126 + 2 ^ 125 ∧ (E n).2 < 2 ^ 127 := by
  obtain ⟨i, j, hj, rfl⟩ : ∃ i j, j < 45000 ∧ n = 45000 * i + j := ⟨n / 45000, n % 45000, Nat.mod_lt _ (by omega), by omega⟩
  rw [E_in i j (by omega)]
  exact it_lt j (full i) (by omega) (full_small i (by omega))
theorem E_third : E 1800000 = full 40 := E_lane 40 (by omega)
theorem E_eighth : E 2700000 = stEnd := by have h := E_lane 60 (by omega); rw [h]; decide +kernel
theorem near_half : (full 40).1 + 2 ^ 26 ≥ 2 ^ 127 ∧ (full 40).1 ≤ 2 ^ 127 + 2 ^ 26 := by decide +kernel
theorem near_eighth : stEnd.1 + stEnd.2 + 2 ^ 26 ≥ 2 ^ 128 ∧ stEnd.1 + stEnd.2 ≤ 2 ^ 128 + 2 ^ 26 := by decide +kernel

/-- the same as integers: sine and cosine -/
def eS (n : Nat) : Int := (E n).1
def eC (n : Nat) : Int := 2 ^ 128 - ((E n).2 : Int)
theorem e_zero : eS 0 = 0 ∧ eC 0 = 2 ^ 128 := ⟨rfl, rfl⟩
theorem e_bd (n : Nat) (hn : n ≤ 2700000) : 0 ≤ eS n ∧ eS n < 2 ^ 127 + 2 ^ 126 + 2 ^ 125 ∧ 2 ^ 127 < eC n ∧ eC n ≤ 2 ^ 128 := by
  have h := E_lt n hn
  unfold eS eC
  omega
theorem e_step (n : Nat) (hn : n < 2700000) :
    2 ^ 128 * eS (n + 1) ≤ 340282366920924066805512056100497561939 * eS n + 98984128154162191825446416122235 * eC n ∧ 340282366920924066805512056100497561939 * eS n + 98984128154162191825446416122235 * eC n < 2 ^ 128 * eS (n + 1) + 2 ^ 128 ∧
    340282366920924066805512056100497561939 * eC n - 98984128154162191825446416122235 * eS n ≤ 2 ^ 128 * eC (n + 1) ∧ 2 ^ 128 * eC (n + 1) < 340282366920924066805512056100497561939 * eC n - 98984128154162191825446416122235 * eS n + 2 ^ 128 := by
  have h := E_lt n (by omega)
  have e : E (n + 1) = (stepS (E n).1 (E n).2, stepD (E n).1 (E n).2) := rfl
  unfold eS eC
  rw [e]
  unfold stepS stepD uC uS
  dsimp only
  omega

end Go.Proofs.Ytoagcbamlnhkhaa.Rot
