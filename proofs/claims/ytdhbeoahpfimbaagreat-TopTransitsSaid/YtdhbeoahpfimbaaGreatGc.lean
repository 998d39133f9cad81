/- Several small texts in one: XRoot, XRef4a, XRef4b, XFixB, XRef4c, XRef4d, XRef4e, XRef4f. -/
import Derived.Test.YtdhbeoahpfimbaaGreatGb
import Derived.LoopN
namespace Go.Proofs.YtdhbeoahpfimbaaGreat
open Go.RowKit
theorem fl_30 (n : Int) : fl n 1073741824 = n / 1073741824 := by unfold fl; rw [if_pos (by omega)]
theorem ce_30 (n : Int) : ce n 1073741824 = -(-n / 1073741824) := by unfold ce; rw [fl_30]
theorem fl_pos' {n d : Int} (h : 0 < d) : fl n d = n / d := by unfold fl; rw [if_pos h]
def reachB (n : Int) : Bool := decide (-1099511627776 ≤ n) && decide (n ≤ 1099511627776)
theorem reachB_t {n : Int} (h : reachB n = true) : -1099511627776 ≤ n ∧ n ≤ 1099511627776 := by simp [reachB] at h; omega
theorem reachB_mk {n : Int} (h : -1099511627776 ≤ n ∧ n ≤ 1099511627776) : reachB n = true := by simp [reachB]; omega
theorem reachB_not {n : Int} (h : ¬ (-1099511627776 ≤ n ∧ n ≤ 1099511627776)) : reachB n = false := by simp [reachB]; omega
theorem factor_any (n : Int) (w : World) :
    Calls Tryz.prog 137 #[.int .i64 n] w fun e w' => e = .returned (.bool (reachB n)) ∧ w = w' := by
  by_cases h1 : -1099511627776 ≤ n
  · by_cases h2 : n ≤ 1099511627776
    · have H := hidden (reachB_mk ⟨h1, h2⟩)
      go_enter Tryz.func137, Tryz.ntmps137
      go_wp2
      go_ret
      exact ⟨by rw [H.out]; rfl, rfl⟩
    · have H := hidden (reachB_not (n := n) (by omega))
      go_enter Tryz.func137, Tryz.ntmps137
      go_wp2
      go_ret
      exact ⟨by rw [H.out]; rfl, rfl⟩
  · have H := hidden (reachB_not (n := n) (by omega))
    go_enter Tryz.func137, Tryz.ntmps137
    go_wp2
    go_ret
    exact ⟨by rw [H.out]; rfl, rfl⟩
theorem mul_bd {x y X Y : Int} (hx : -X ≤ x ∧ x ≤ X) (hy : -Y ≤ y ∧ y ≤ Y) : -(X * Y) ≤ x * y ∧ x * y ≤ X * Y := by
  have e := Int.natAbs_mul x y
  have h : x.natAbs * y.natAbs ≤ X.toNat * Y.toNat := Nat.mul_le_mul (by omega) (by omega)
  rw [← e] at h
  have h2 : ((x * y).natAbs : Int) ≤ ((X.toNat * Y.toNat : Nat) : Int) := by exact_mod_cast h
  rw [Int.natCast_mul, Int.toNat_of_nonneg (by omega), Int.toNat_of_nonneg (by omega)] at h2
  omega
/-- the least and the greatest of the four corners, for positive divisors -/
def cLo (a b c d n : Int) : Int := min (a * n / c) (min (a * n / d) (min (b * n / c) (b * n / d)))
def cHi (a b c d n : Int) : Int := max (-(-(a * n) / c)) (max (-(-(a * n) / d)) (max (-(-(b * n) / c)) (-(-(b * n) / d))))
/-- the ends of a quotient times a number, if they reach -/
def quoV (L H : Int) : Value := if (reachB L && reachB H) = true then .tuple #[.int .i64 L, .int .i64 H, .int .i64 0] else .tuple #[.int .i64 0, .int .i64 0, .int .i64 5]
theorem quoV_ok {L H : Int} (h1 : reachB L = true) (h2 : reachB H = true) : quoV L H = .tuple #[.int .i64 L, .int .i64 H, .int .i64 0] := by unfold quoV; rw [h1, h2]; rfl
theorem quoV_no {L H : Int} (h : (reachB L && reachB H) = false) : quoV L H = .tuple #[.int .i64 0, .int .i64 0, .int .i64 5] := by unfold quoV; rw [h]; rfl
/-- the least and the greatest of the four quotients of the ends, times a number -/
def qLo (a b c d n : Int) : Int := min (fl (a * n) c) (min (fl (a * n) d) (min (fl (b * n) c) (fl (b * n) d)))
def qHi (a b c d n : Int) : Int := max (ce (a * n) c) (max (ce (a * n) d) (max (ce (b * n) c) (ce (b * n) d)))
end Go.Proofs.YtdhbeoahpfimbaaGreat
