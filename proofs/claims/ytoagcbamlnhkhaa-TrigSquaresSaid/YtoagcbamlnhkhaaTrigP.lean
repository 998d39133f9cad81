/- How the sine's bounds turn with the angle: odd, the opposite half a turn further, the same a turn further; in plain arithmetic. -/
import Derived.Test.YtoagcbamlnhkhaaTrig7
namespace Go.Proofs.Ytoagcbamlnhkhaa
open Go.RowKit

/-- over a single angle the enclosure is that of the sine -/
theorem enc_point (n : Int) : encLo n n = bLo n ∧ encHi n n = bHi n := by
  constructor
  · unfold encLo
    split
    · rename_i h
      unfold meetB at h
      simp at h
      have e : n % 21600000 = 16200000 := by omega
      have r : redA n = 5400000 := by unfold redA; rw [e]; rfl
      unfold bLo; rw [r, if_pos (by omega)]; rfl
    · omega
  · unfold encHi
    split
    · rename_i h
      unfold meetB at h
      simp at h
      have e : n % 21600000 = 5400000 := by omega
      have r : redA n = 5400000 := by unfold redA; rw [e]; rfl
      unfold bHi; rw [r, if_neg (by omega)]; rfl
    · omega


theorem up0 : sinLo 0 = 0 ∧ upB 0 = 0 := ⟨rfl, rfl⟩
theorem redA_zero {n : Int} (h : n % 21600000 = 0 ∨ n % 21600000 = 10800000) : redA n = 0 := by
  unfold redA
  rcases h with h | h <;> rw [h] <;> rfl
theorem b_zero {n : Int} (h : n % 21600000 = 0 ∨ n % 21600000 = 10800000) : bLo n = 0 ∧ bHi n = 0 := by
  have r := redA_zero h
  unfold bLo bHi
  rw [r, up0.1, up0.2]
  constructor <;> split <;> rfl
theorem b_flip {n m : Int} (h : redA n = redA m) (h1 : 10800000 < n % 21600000 ↔ ¬ 10800000 < m % 21600000) : bLo n = -bHi m ∧ bHi n = -bLo m := by
  unfold bLo bHi
  rw [h]
  by_cases g : 10800000 < m % 21600000
  · have g2 : ¬ 10800000 < n % 21600000 := fun k => (h1.1 k) g
    rw [if_pos g, if_pos g, if_neg g2, if_neg g2]
    omega
  · have g2 : 10800000 < n % 21600000 := h1.2 g
    rw [if_neg g, if_neg g, if_pos g2, if_pos g2]
    omega
theorem b_same {n m : Int} (h : redA n = redA m) (h1 : 10800000 < n % 21600000 ↔ 10800000 < m % 21600000) : bLo n = bLo m ∧ bHi n = bHi m := by
  unfold bLo bHi
  rw [h]
  by_cases g : 10800000 < m % 21600000
  · have g2 : 10800000 < n % 21600000 := h1.2 g
    rw [if_pos g, if_pos g, if_pos g2, if_pos g2]
    exact ⟨rfl, rfl⟩
  · have g2 : ¬ 10800000 < n % 21600000 := fun k => g (h1.1 k)
    rw [if_neg g, if_neg g, if_neg g2, if_neg g2]
    exact ⟨rfl, rfl⟩

theorem b_neg (n : Int) : bLo (-n) = -bHi n ∧ bHi (-n) = -bLo n := by
  by_cases z : n % 21600000 = 0 ∨ n % 21600000 = 10800000
  · have a := b_zero z
    have b := b_zero (n := -n) (by omega)
    omega
  · apply b_flip
    · unfold redA; repeat' split
      all_goals omega
    · omega
theorem b_half (n : Int) : bLo (n + 10800000) = -bHi n ∧ bHi (n + 10800000) = -bLo n := by
  by_cases z : n % 21600000 = 0 ∨ n % 21600000 = 10800000
  · have a := b_zero z
    have b := b_zero (n := n + 10800000) (by omega)
    omega
  · apply b_flip
    · unfold redA; repeat' split
      all_goals omega
    · omega
theorem b_mirror (n : Int) : bLo (10800000 - n) = bLo n ∧ bHi (10800000 - n) = bHi n := by
  by_cases z : n % 21600000 = 0 ∨ n % 21600000 = 10800000
  · have a := b_zero z
    have b := b_zero (n := 10800000 - n) (by omega)
    omega
  · apply b_same
    · unfold redA; repeat' split
      all_goals omega
    · omega
theorem b_turn (n k : Int) : bLo (n + k * 21600000) = bLo n ∧ bHi (n + k * 21600000) = bHi n := by
  have e : (n + k * 21600000) % 21600000 = n % 21600000 := by omega
  apply b_same
  · unfold redA; rw [e]
  · rw [e]

theorem enc_neg (a b : Int) : encLo (-b) (-a) = -encHi a b ∧ encHi (-b) (-a) = -encLo a b := by
  have m1 : meetB (-b) (-a) 16200000 = meetB a b 5400000 := by unfold meetB; rw [decide_eq_decide]; omega
  have m3 : meetB (-b) (-a) 5400000 = meetB a b 16200000 := by unfold meetB; rw [decide_eq_decide]; omega
  have p := b_neg a
  have q := b_neg b
  unfold encLo encHi
  rw [m1, m3, p.1, p.2, q.1, q.2]
  constructor <;> split <;> omega
theorem enc_half (a b : Int) : encLo (a + 10800000) (b + 10800000) = -encHi a b ∧ encHi (a + 10800000) (b + 10800000) = -encLo a b := by
  have m1 : meetB (a + 10800000) (b + 10800000) 16200000 = meetB a b 5400000 := by unfold meetB; rw [decide_eq_decide]; omega
  have m3 : meetB (a + 10800000) (b + 10800000) 5400000 = meetB a b 16200000 := by unfold meetB; rw [decide_eq_decide]; omega
  have p := b_half a
  have q := b_half b
  unfold encLo encHi
  rw [m1, m3, p.1, p.2, q.1, q.2]
  constructor <;> split <;> omega
theorem enc_turn (a b k : Int) : encLo (a + k * 21600000) (b + k * 21600000) = encLo a b ∧ encHi (a + k * 21600000) (b + k * 21600000) = encHi a b := by
  have m1 : ∀ n, meetB (a + k * 21600000) (b + k * 21600000) n = meetB a b n := by intro n; unfold meetB; rw [decide_eq_decide]; omega
  have p := b_turn a k
  have q := b_turn b k
  unfold encLo encHi
  rw [m1, m1, p.1, p.2, q.1, q.2]
  exact ⟨rfl, rfl⟩
/-- the cosine is even -/
theorem enc_even (a b : Int) : encLo (-b + 5400000) (-a + 5400000) = encLo (a + 5400000) (b + 5400000) ∧ encHi (-b + 5400000) (-a + 5400000) = encHi (a + 5400000) (b + 5400000) := by
  have m1 : meetB (-b + 5400000) (-a + 5400000) 16200000 = meetB (a + 5400000) (b + 5400000) 16200000 := by unfold meetB; rw [decide_eq_decide]; omega
  have m3 : meetB (-b + 5400000) (-a + 5400000) 5400000 = meetB (a + 5400000) (b + 5400000) 5400000 := by unfold meetB; rw [decide_eq_decide]; omega
  have p := b_mirror (a + 5400000)
  have q := b_mirror (b + 5400000)
  rw [show 10800000 - (a + 5400000) = -a + 5400000 by omega] at p
  rw [show 10800000 - (b + 5400000) = -b + 5400000 by omega] at q
  unfold encLo encHi
  rw [m1, m3, p.1, p.2, q.1, q.2]
  constructor <;> split <;> omega

end Go.Proofs.Ytoagcbamlnhkhaa
