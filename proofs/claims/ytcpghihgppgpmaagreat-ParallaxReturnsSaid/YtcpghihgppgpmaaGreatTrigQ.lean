/- A part of an arc has a part of the enclosure: how the bounds grow and fall. Plain arithmetic. -/
import Derived.Test.YtcpghihgppgpmaaGreatNear
import Derived.Test.YtcpghihgppgpmaaGreatTrigP
namespace Go.Proofs.YtcpghihgppgpmaaGreat
open Go.RowKit Rot

theorem sin_strict (r : Int) (h0 : 0 ≤ r) (h1 : r < 5400000) : sinLo r < upB (r + 1) := by
  have g := g_grow r h0 h1
  have a := sinLo_near r h0 (by omega)
  have b := sinLo_near (r + 1) (by omega) (by omega)
  generalize sinLo r = x at *
  generalize upB (r + 1) = y at *
  generalize gS r = u at *
  generalize gS (r + 1) = v at *
  omega
theorem sin_mono (r : Int) (h0 : 0 ≤ r) (h1 : r < 5400000) : sinLo r ≤ sinLo (r + 1) ∧ upB r ≤ upB (r + 1) := by
  have s := sin_strict r h0 h1
  have a : upB r = if exactB r then sinLo r else sinLo r + 1 := rfl
  have b : upB (r + 1) = if exactB (r + 1) then sinLo (r + 1) else sinLo (r + 1) + 1 := rfl
  constructor
  · cases h : exactB (r + 1) <;> rw [h] at b <;> simp at b <;> omega
  · cases h : exactB r <;> rw [h] at a <;> simp at a <;> omega
/-- the bounds grow from 270 to 90 degrees -/
theorem b_grow (n : Int) (h : n % 21600000 < 5400000 ∨ 16200000 ≤ n % 21600000) : bLo n ≤ bLo (n + 1) ∧ bHi n ≤ bHi (n + 1) := by
  rcases h with h | h
  · have r1 : redA n = n % 21600000 := by unfold redA; repeat' split
                                          all_goals omega
    have r2 : redA (n + 1) = n % 21600000 + 1 := by unfold redA; repeat' split
                                                    all_goals omega
    have m := sin_mono (n % 21600000) (by omega) h
    unfold bLo bHi
    rw [r1, r2, if_neg (by omega), if_neg (by omega), if_neg (by omega), if_neg (by omega)]
    exact m
  · by_cases e : n % 21600000 = 21599999
    · have r1 : redA n = 1 := by unfold redA; rw [e]; rfl
      have z := b_zero (n := n + 1) (by omega)
      have s := sinLo_bd 1 (by omega) (by omega)
      have u := upB_bd 1 (by omega)
      rw [z.1, z.2]
      unfold bLo bHi
      rw [r1, if_pos (by omega), if_pos (by omega)]
      omega
    · have r1 : redA n = 21600000 - n % 21600000 := by unfold redA; repeat' split
                                                       all_goals omega
      have r2 : redA (n + 1) = 21600000 - n % 21600000 - 1 := by unfold redA; repeat' split
                                                                 all_goals omega
      have m := sin_mono (21600000 - n % 21600000 - 1) (by omega) (by omega)
      rw [show 21600000 - n % 21600000 - 1 + 1 = 21600000 - n % 21600000 by omega] at m
      unfold bLo bHi
      rw [r1, r2, if_pos (by omega), if_pos (by omega), if_pos (by omega), if_pos (by omega)]
      omega
theorem b_grows (c m : Int) (hc : c % 21600000 = 16200000) (h0 : c ≤ m) (k : Nat) (h1 : m + k ≤ c + 10800000) : bLo m ≤ bLo (m + k) ∧ bHi m ≤ bHi (m + k) := by
  induction k with
  | zero => simp
  | succ k ih =>
    have a := ih (by omega)
    have b := b_grow (m + k) (by omega)
    rw [show m + ((k + 1 : Nat) : Int) = m + k + 1 by omega]
    omega
theorem b_up (c m n : Int) (hc : c % 21600000 = 16200000) (h0 : c ≤ m) (h1 : m ≤ n) (h2 : n ≤ c + 10800000) : bLo m ≤ bLo n ∧ bHi m ≤ bHi n := by
  have := b_grows c m hc h0 (n - m).toNat (by omega)
  rw [show m + ((n - m).toNat : Int) = n by omega] at this
  exact this
/-- and fall from 90 to 270 -/
theorem b_down (c m n : Int) (hc : c % 21600000 = 5400000) (h0 : c ≤ m) (h1 : m ≤ n) (h2 : n ≤ c + 10800000) : bLo n ≤ bLo m ∧ bHi n ≤ bHi m := by
  have a := b_up (10800000 - (c + 10800000)) (10800000 - n) (10800000 - m) (by omega) (by omega) (by omega) (by omega)
  have p := b_mirror m
  have q := b_mirror n
  rw [p.1, p.2, q.1, q.2] at a
  exact a
theorem b_down' (c m n : Int) (hc : c % 21600000 = 16200000) (h0 : c + 10800000 ≤ m) (h1 : m ≤ n) (h2 : n ≤ c + 21600000) : bLo n ≤ bLo m ∧ bHi n ≤ bHi m := b_down (c + 10800000) m n (by omega) h0 h1 (by omega)

/-- every angle of an arc lies in the enclosure -/
theorem enc_has (a b n : Int) (h0 : a ≤ n) (h1 : n ≤ b) : encLo a b ≤ bLo n ∧ bHi n ≤ encHi a b := by
  have bd := b_bd n
  constructor
  · unfold encLo
    by_cases h : meetB a b 16200000 = true
    · rw [if_pos h]; omega
    · rw [if_neg h]
      have h2 : ¬ (16200000 - a) % 21600000 ≤ b - a := by unfold meetB at h; simpa using h
      -- the last 270 degrees ahead of the arc
      obtain ⟨c, hc⟩ : ∃ c, c = a + (16200000 - a) % 21600000 - 21600000 := ⟨_, rfl⟩
      have hc1 : c % 21600000 = 16200000 := by omega
      by_cases hn : n ≤ c + 10800000
      · have := (b_up c a n hc1 (by omega) h0 hn).1
        omega
      · have := (b_down' c n b hc1 (by omega) h1 (by omega)).1
        omega
  · unfold encHi
    by_cases h : meetB a b 5400000 = true
    · rw [if_pos h]; omega
    · rw [if_neg h]
      have h2 : ¬ (5400000 - a) % 21600000 ≤ b - a := by unfold meetB at h; simpa using h
      obtain ⟨c, hc⟩ : ∃ c, c = a + (5400000 - a) % 21600000 - 21600000 := ⟨_, rfl⟩
      have hc1 : c % 21600000 = 5400000 := by omega
      by_cases hn : n ≤ c + 10800000
      · have := (b_down c a n hc1 (by omega) h0 hn).2
        omega
      · have := (b_up (c + 10800000) n b (by omega) (by omega) h1 (by omega)).2
        omega
theorem meet_sub (a b p q n : Int) (h0 : a ≤ p) (h1 : q ≤ b) (h : meetB p q n = true) : meetB a b n = true := by
  unfold meetB at *
  simp at *
  omega
theorem enc_part (a b p q : Int) (h0 : a ≤ p) (h1 : p ≤ q) (h2 : q ≤ b) : encLo a b ≤ encLo p q ∧ encHi p q ≤ encHi a b := by
  have x := enc_has a b p h0 (by omega)
  have y := enc_has a b q (by omega) h2
  constructor
  · by_cases h : meetB p q 16200000 = true
    · have e : encLo a b = -1073741824 := by unfold encLo; rw [if_pos (meet_sub a b p q _ h0 h2 h)]
      have := enc_bd p q
      omega
    · have e : encLo p q = min (bLo p) (bLo q) := by unfold encLo; rw [if_neg h]
      omega
  · by_cases h : meetB p q 5400000 = true
    · have e : encHi a b = 1073741824 := by unfold encHi; rw [if_pos (meet_sub a b p q _ h0 h2 h)]
      have := enc_bd p q
      omega
    · have e : encHi p q = max (bHi p) (bHi q) := by unfold encHi; rw [if_neg h]
      omega
theorem enc_whole (a b : Int) (h : 21600000 ≤ b - a) : encLo a b = -1073741824 ∧ encHi a b = 1073741824 := by
  constructor
  · unfold encLo; rw [if_pos (by unfold meetB; simp; omega)]
  · unfold encHi; rw [if_pos (by unfold meetB; simp; omega)]

/-- what the law asks of three enclosures -/
def partOk (least xl xh yl yh zl zh : Int) : Prop := least ≤ xl ∧ xh ≤ 1073741824 ∧ xl ≤ xh ∧ xl ≤ yl ∧ yh ≤ xh ∧ yl ≤ zl ∧ zh ≤ yh ∧ zh - zl ≤ 1 ∧ zl ≤ zh
theorem part_sin (a b p q : Int) (h0 : a ≤ p) (h1 : p ≤ q) (h2 : q ≤ b) : partOk (-1073741824) (encLo a b) (encHi a b) (encLo p q) (encHi p q) (encLo p p) (encHi p p) := by
  have x := enc_part a b p q h0 h1 h2
  have y := enc_part p q p p (by omega) (by omega) h1
  have z := enc_point p
  have bd := b_bd p
  have eb := enc_bd a b
  unfold partOk
  omega
theorem part_hav (a b p q : Int) (h0 : a ≤ p) (h1 : p ≤ q) (h2 : q ≤ b) : partOk 0 (havLo a b) (havHi a b) (havLo p q) (havHi p q) (havLo p p) (havHi p p) := by
  have x := part_sin (a + 5400000) (b + 5400000) (p + 5400000) (q + 5400000) (by omega) (by omega) (by omega)
  unfold partOk havLo havHi at *
  omega

end Go.Proofs.YtcpghihgppgpmaaGreat
