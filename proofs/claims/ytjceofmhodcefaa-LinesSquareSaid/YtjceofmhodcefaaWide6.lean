/- Floor and Ceil of package wide, as contracts: the quotient of a wide integer by an integer, rounded down and up, if it fits an int. -/
import Derived.Test.YtjceofmhodcefaaWide5
namespace Go.Proofs.Ytjceofmhodcefaa
open Go.RowKit

/-- a quotient rounded down, whatever the divisor's sign; and up -/
def fl (V d : Int) : Int := if 0 < d then V / d else (-V) / (-d)
def ce (V d : Int) : Int := -(fl (-V) d)

theorem neg_div (M D : Int) (hD : 0 < D) : (-M) / D = if 0 < M % D then -(M / D) - 1 else -(M / D) := by
  have e := Int.mul_ediv_add_emod M D
  have r0 := Int.emod_nonneg M (Int.ne_of_gt hD)
  have r1 := Int.emod_lt_of_pos M hD
  generalize M / D = Q at *
  generalize M % D = R at *
  split
  · apply Int.le_antisymm
    · have : (-M) / D < -Q := Int.ediv_lt_of_lt_mul hD (by rw [Int.neg_mul, Int.mul_comm Q D]; omega)
      omega
    · apply (Int.le_ediv_iff_mul_le hD).2
      rw [Int.sub_mul, Int.neg_mul, Int.mul_comm Q D]; omega
  · apply Int.le_antisymm
    · have : (-M) / D < -Q + 1 := Int.ediv_lt_of_lt_mul hD (by rw [Int.add_mul, Int.neg_mul, Int.mul_comm Q D]; omega)
      omega
    · apply (Int.le_ediv_iff_mul_le hD).2
      rw [Int.neg_mul, Int.mul_comm Q D]; omega

theorem fl_abs (V d : Int) (hd : d ≠ 0) : fl V d = if (decide (V < 0) != decide (d < 0)) = true then (if 0 < absI V % absI d then -(absI V / absI d) - 1 else -(absI V / absI d)) else absI V / absI d := by
  have hD : 0 < absI d := by unfold absI; split <;> omega
  have h1 := neg_div (absI V) (absI d) hD
  unfold fl
  by_cases hv : V < 0
  · have ev : absI V = -V := by unfold absI; rw [if_pos hv]
    by_cases hn : d < 0
    · have ed : absI d = -d := by unfold absI; rw [if_pos hn]
      have e2 : -V / -d = absI V / absI d := by rw [ev, ed]
      rw [if_neg (by omega), e2]; simp [hv, hn]
    · have ed : absI d = d := by unfold absI; rw [if_neg hn]
      have e2 : V / d = -absI V / absI d := by rw [ev, ed, Int.neg_neg]
      rw [if_pos (by omega), e2, h1]; simp [hv, hn]
  · have ev : absI V = V := by unfold absI; rw [if_neg hv]
    by_cases hn : d < 0
    · have ed : absI d = -d := by unfold absI; rw [if_pos hn]
      have e2 : -V / -d = -absI V / absI d := by rw [ev, ed]
      rw [if_neg (by omega), e2, h1]; simp [hv, hn]
    · have ed : absI d = d := by unfold absI; rw [if_neg hn]
      have e2 : V / d = absI V / absI d := by rw [ev, ed]
      rw [if_pos (by omega), e2]; simp [hv, hn]

theorem ce_abs (V d : Int) (hd : d ≠ 0) : ce V d = if (decide (V < 0) != decide (d < 0)) = true then -(absI V / absI d) else (if 0 < absI V % absI d then absI V / absI d + 1 else absI V / absI d) := by
  unfold ce
  rw [fl_abs (-V) d hd]
  have ev : absI (-V) = absI V := by unfold absI; split <;> split <;> omega
  rw [ev]
  by_cases hz : V = 0
  · subst hz
    have : absI 0 = 0 := rfl
    rw [this]; simp
  · have e : decide (-V < 0) = !decide (V < 0) := by
      by_cases hv : V < 0
      · simp [hv]; omega
      · simp [hv]; omega
    rw [e]
    by_cases hv : V < 0 <;> by_cases hn : d < 0 <;> simp [hv, hn] <;> split <;> omega

end Go.Proofs.Ytjceofmhodcefaa
