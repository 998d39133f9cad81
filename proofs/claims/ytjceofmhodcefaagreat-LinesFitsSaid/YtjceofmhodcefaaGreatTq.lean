/- Several small texts in one: XTrigP, XTrigQ. -/
import Derived.Test.YtjceofmhodcefaaGreatTg
import Derived.Test.YtjceofmhodcefaaGreatLn
namespace Go.Proofs.YtjceofmhodcefaaGreat
open Go.RowKit

/-- over a single angle the enclosure is that of the sine -/
theorem enc_point (n : Int) : encLo n n = bLo n ∧ encHi n n = bHi n := by
  constructor
  · unfold encLo
    split
    · rename_i h
      unfold meetB at h
      simp at h
      have e : n % 21600000 = 16200000 := by omega
      have r : redA n = 5400000 := by unfold redA; rw [e]; rfl
      unfold bLo; rw [r, if_pos (by omega)]; rfl
    · omega
  · unfold encHi
    split
    · rename_i h
      unfold meetB at h
      simp at h
      have e : n % 21600000 = 5400000 := by omega
      have r : redA n = 5400000 := by unfold redA; rw [e]; rfl
      unfold bHi; rw [r, if_neg (by omega)]; rfl
    · omega


theorem up0 : sinLo 0 = 0 ∧ upB 0 = 0 := ⟨rfl, rfl⟩
theorem redA_zero {n : Int} (h : n % 21600000 = 0 ∨ n % 21600000 = 10800000) : redA n = 0 := by
  unfold redA
  rcases h with h | h <;> rw [h] <;> rfl
theorem b_zero {n : Int} (h : n % 21600000 = 0 ∨ n % 21600000 = 10800000) : bLo n = 0 ∧ bHi n = 0 := by
  have r := redA_zero h
  unfold bLo bHi
  rw [r, up0.1, up0.2]
  constructor <;> split <;> rfl
theorem b_same {n m : Int} (h : redA n = redA m) (h1 : 10800000 < n % 21600000 ↔ 10800000 < m % 21600000) : bLo n = bLo m ∧ bHi n = bHi m := by
  unfold bLo bHi
  rw [h]
  by_cases g : 10800000 < m % 21600000
  · have g2 : 10800000 < n % 21600000 := h1.2 g
    rw [if_pos g, if_pos g, if_pos g2, if_pos g2]
    exact ⟨rfl, rfl⟩
  · have g2 : ¬ 10800000 < n % 21600000 := fun k => g (h1.1 k)
    rw [if_neg g, if_neg g, if_neg g2, if_neg g2]
    exact ⟨rfl, rfl⟩

theorem b_mirror (n : Int) : bLo (10800000 - n) = bLo n ∧ bHi (10800000 - n) = bHi n := by
  by_cases z : n % 21600000 = 0 ∨ n % 21600000 = 10800000
  · have a := b_zero z
    have b := b_zero (n := 10800000 - n) (by omega)
    omega
  · apply b_same
    · unfold redA; repeat' split
      all_goals omega
    · omega
end Go.Proofs.YtjceofmhodcefaaGreat

namespace Go.Proofs.YtjceofmhodcefaaGreat
open Go.RowKit Rot

theorem sin_strict (r : Int) (h0 : 0 ≤ r) (h1 : r < 5400000) : sinLo r < upB (r + 1) := by
  have g := g_grow r h0 h1
  have a := sinLo_near r h0 (by omega)
  have b := sinLo_near (r + 1) (by omega) (by omega)
  generalize sinLo r = x at *
  generalize upB (r + 1) = y at *
  generalize gS r = u at *
  generalize gS (r + 1) = v at *
  omega
theorem sin_mono (r : Int) (h0 : 0 ≤ r) (h1 : r < 5400000) : sinLo r ≤ sinLo (r + 1) ∧ upB r ≤ upB (r + 1) := by
  have s := sin_strict r h0 h1
  have a : upB r = if exactB r then sinLo r else sinLo r + 1 := rfl
  have b : upB (r + 1) = if exactB (r + 1) then sinLo (r + 1) else sinLo (r + 1) + 1 := rfl
  constructor
  · cases h : exactB (r + 1) <;> rw [h] at b <;> simp at b <;> omega
  · cases h : exactB r <;> rw [h] at a <;> simp at a <;> omega
/-- the bounds grow from 270 to 90 degrees -/
theorem b_grow (n : Int) (h : n % 21600000 < 5400000 ∨ 16200000 ≤ n % 21600000) : bLo n ≤ bLo (n + 1) ∧ bHi n ≤ bHi (n + 1) := by
  rcases h with h | h
  · have r1 : redA n = n % 21600000 := by unfold redA; repeat' split
                                          all_goals omega
    have r2 : redA (n + 1) = n % 21600000 + 1 := by unfold redA; repeat' split
                                                    all_goals omega
    have m := sin_mono (n % 21600000) (by omega) h
    unfold bLo bHi
    rw [r1, r2, if_neg (by omega), if_neg (by omega), if_neg (by omega), if_neg (by omega)]
    exact m
  · by_cases e : n % 21600000 = 21599999
    · have r1 : redA n = 1 := by unfold redA; rw [e]; rfl
      have z := b_zero (n := n + 1) (by omega)
      have s := sinLo_bd 1 (by omega) (by omega)
      have u := upB_bd 1 (by omega)
      rw [z.1, z.2]
      unfold bLo bHi
      rw [r1, if_pos (by omega), if_pos (by omega)]
      omega
    · have r1 : redA n = 21600000 - n % 21600000 := by unfold redA; repeat' split
                                                       all_goals omega
      have r2 : redA (n + 1) = 21600000 - n % 21600000 - 1 := by unfold redA; repeat' split
                                                                 all_goals omega
      have m := sin_mono (21600000 - n % 21600000 - 1) (by omega) (by omega)
      rw [show 21600000 - n % 21600000 - 1 + 1 = 21600000 - n % 21600000 by omega] at m
      unfold bLo bHi
      rw [r1, r2, if_pos (by omega), if_pos (by omega), if_pos (by omega), if_pos (by omega)]
      omega
theorem b_grows (c m : Int) (hc : c % 21600000 = 16200000) (h0 : c ≤ m) (k : Nat) (h1 : m + k ≤ c + 10800000) : bLo m ≤ bLo (m + k) ∧ bHi m ≤ bHi (m + k) := by
  induction k with
  | zero => simp
  | succ k ih =>
    have a := ih (by omega)
    have b := b_grow (m + k) (by omega)
    rw [show m + ((k + 1 : Nat) : Int) = m + k + 1 by omega]
    omega
theorem b_up (c m n : Int) (hc : c % 21600000 = 16200000) (h0 : c ≤ m) (h1 : m ≤ n) (h2 : n ≤ c + 10800000) : bLo m ≤ bLo n ∧ bHi m ≤ bHi n := by
  have := b_grows c m hc h0 (n - m).toNat (by omega)
  rw [show m + ((n - m).toNat : Int) = n by omega] at this
  exact this
end Go.Proofs.YtjceofmhodcefaaGreat
