/- The crossing of two lines at right angles on the equator. -/
import Derived.Test.YtjceofmhodcefaaLin7
import Derived.Test.YtjceofmhodcefaaLinF
namespace Go.Proofs.Ytjceofmhodcefaa
open Go.RowKit

theorem fl_neg (n : Int) : fl (1073741824 * n) (-1073741824) = -n := by unfold fl; rw [if_neg (by omega), show (- -1073741824 : Int) = 1073741824 by decide]; omega
theorem fl_one (n : Int) : fl (1073741824 * n) 1073741824 = n := by unfold fl; rw [if_pos (by omega)]; omega
theorem over_neg (n : Int) (h0 : -600000 ≤ n) (h1 : n ≤ 600000) (B1 : Nat) (w : World) (h : okAt w B1) :
    Calls Try.prog 35 #[.pointer (some ⟨B1, 0, none⟩), .agg #[.int .i64 (-n), .int .i64 (-n)], .agg #[.int .i64 (-1073741824), .int .i64 (-1073741824)]] w fun e w' => e = .returned (.agg #[.int .i64 (n), .int .i64 (n)]) ∧ Below w.heap.size w w' := by
  refine over_is (-n) (-1073741824) (-1073741824) n B1 w h (by decide) (by simp [reachB]; omega) (by decide) ?_
  have e1 : qLo 1073741824 1073741824 (-1073741824) (-1073741824) (-n) = n := by
    unfold qLo
    rw [fl_neg]
    omega
  have e2 : qHi 1073741824 1073741824 (-1073741824) (-1073741824) (-n) = n := by
    unfold qHi ce
    rw [show -(1073741824 * -n) = 1073741824 * n by omega, fl_neg]
    omega
  rw [e1, e2]
  unfold quoV
  rw [if_pos (by simp [reachB]; omega)]
theorem over_pos (n : Int) (h0 : -600000 ≤ n) (h1 : n ≤ 600000) (B1 : Nat) (w : World) (h : okAt w B1) :
    Calls Try.prog 35 #[.pointer (some ⟨B1, 0, none⟩), .agg #[.int .i64 (n), .int .i64 (n)], .agg #[.int .i64 (1073741824), .int .i64 (1073741824)]] w fun e w' => e = .returned (.agg #[.int .i64 (n), .int .i64 (n)]) ∧ Below w.heap.size w w' := by
  refine over_is n 1073741824 1073741824 n B1 w h (by decide) (by simp [reachB]; omega) (by decide) ?_
  have e1 : qLo 1073741824 1073741824 1073741824 1073741824 n = n := by
    unfold qLo
    rw [fl_one]
    omega
  have e2 : qHi 1073741824 1073741824 1073741824 1073741824 n = n := by
    unfold qHi ce
    rw [show -(1073741824 * n) = 1073741824 * -n by omega, fl_one]
    omega
  rw [e1, e2]
  unfold quoV
  rw [if_pos (by simp [reachB]; omega)]
theorem tm_one (n : Int) (h0 : -600000 ≤ n) (h1 : n ≤ 600000) (B1 : Nat) (w : World) (h : okAt w B1) : Calls Try.prog 29 #[.pointer (some ⟨B1, 0, none⟩), .agg #[.int .i64 (n), .int .i64 (n)], .agg #[.int .i64 (1073741824), .int .i64 (1073741824)]] w fun e w' => e = .returned (.agg #[.int .i64 (n), .int .i64 (n)]) ∧ Below w.heap.size w w' := by
  have k := ptimes_any n n 1073741824 1073741824 B1 w h (by decide) (by simp [reachB]; omega) (by simp [reachB]; omega)
  have e1 : tmLo n n 1073741824 1073741824 = n := by unfold tmLo; rw [cLo_one]; omega
  have e2 : tmHi n n 1073741824 1073741824 = n := by unfold tmHi; rw [cHi_one]; omega
  rw [e1, e2] at k
  exact k
theorem tm_none (n : Int) (h0 : -600000 ≤ n) (h1 : n ≤ 600000) (B1 : Nat) (w : World) (h : okAt w B1) : Calls Try.prog 29 #[.pointer (some ⟨B1, 0, none⟩), .agg #[.int .i64 (n), .int .i64 (n)], .agg #[.int .i64 (0), .int .i64 (0)]] w fun e w' => e = .returned (.agg #[.int .i64 (0), .int .i64 (0)]) ∧ Below w.heap.size w w' := by
  have k := ptimes_any n n 0 0 B1 w h (by decide) (by simp [reachB]; omega) (by simp [reachB]; omega)
  rw [(tm_zero n n).1, (tm_zero n n).2] at k
  exact k
theorem sgn_part (n : Int) : -10800000 ≤ sgn n ∧ sgn n < 10800000 := by unfold sgn; split <;> omega
/-- the lines of the statement cross where they should -/
theorem sq_cross (p q l : Int) (w : World) (p0 : -600000 ≤ p) (p1 : p ≤ 600000) (q0 : -600000 ≤ q) (q1 : q ≤ 600000) (l0 : -10800000 ≤ l) (l1 : l < 10800000) :
    Calls Try.prog 12 #[.agg #[.int .i64 0, .int .i64 l, .int .i64 0, .int .i64 0, .int .i64 p, .int .i64 p], .agg #[.int .i64 0, .int .i64 l, .int .i64 5400000, .int .i64 5400000, .int .i64 q, .int .i64 q]] w
    fun e w' => e = .returned (.tuple #[.agg #[.int .i64 p, .int .i64 p, .int .i64 (sgn (l + q)), .int .i64 (sgn (l + q))], .int .i64 0]) ∧ Below w.heap.size w w' := by
  have AL : Hid (∀ w, Calls Try.prog 37 #[.agg #[.int .i64 (p), .int .i64 (p)]] w fun e w' => e = .returned (.bool true) ∧ Below w.heap.size w w') := hidden fun w => by
    have k := altitude_any p p w
    rw [show altB p p = true by simp [altB, arcB, fitsB]; omega] at k
    exact k
  have WE : ∀ n : Int, -600000 ≤ n → n ≤ 600000 → Hid (∀ w, Calls Try.prog 31 #[.agg #[.int .i64 (n), .int .i64 (n)], .int .i64 2000000] w fun e w' => e = .returned (.bool true) ∧ Below w.heap.size w w') := fun n h0 h1 => hidden fun w => by
    have k := withinE_any n n w
    rw [show withEB n n = true by simp [withEB]; omega] at k
    exact k
  have s := sgn_part (l + q)
  have LG := hidden fun w => long_any (l + q) (l + q) (sgn (l + q)) w rfl (by omega) (by omega) (by omega) (by omega) s.1 s.2
  rw [show sgn (l + q) + (l + q - (l + q)) = sgn (l + q) by omega] at LG
  have S1 := hidden fun w => lsub_any 0 0 q q w (by omega) (by omega) (by omega) (by omega)
  have S2 := hidden fun w => lsub_any 0 0 p p w (by omega) (by omega) (by omega) (by omega)
  have A1 := hidden fun w => ladd_any 0 0 p p w (by omega) (by omega) (by omega) (by omega)
  rw [show (0 : Int) - q = -q by omega] at S1
  rw [show (0 : Int) - p = -p by omega] at S2
  rw [show (0 : Int) + p = p by omega] at A1
  exact cross_walk 0 l 0 0 p p 5400000 5400000 q q (-5400000) (-5400000) (-1073741824) (-1073741824) 0 0 1073741824 1073741824 1073741824 1073741824 0 0 q q 0 0 p p (-q) (-q) (-p) (-p) 0 0 1073741824 1073741824 q q p p p p q q (l + q) (l + q) (sgn (l + q)) (sgn (l + q)) w (lineB_mk ⟨by simp [nearB]; omega, by omega, by omega, by omega, by omega, by omega, by omega, by omega⟩) (lineB_mk ⟨by simp [nearB]; omega, by omega, by omega, by omega, by omega, by omega, by omega, by omega⟩) (by decide) (by decide)
    (hidden ex_sub) (hidden sin_nq) (hidden cos_q) (hidden (tm_none p p0 p1)) (hidden cos_0) (hidden (tm_one q q0 q1)) S1 (hidden (over_neg q q0 q1))
    (hidden sin_0) (hidden (tm_none q q0 q1)) (hidden sin_q) (hidden (tm_one p p0 p1)) S2 (hidden (over_neg p p0 p1))
    (WE q q0 q1) (WE p p0 p1) (hidden fun w => lat_any 0 w) A1 AL
    (hidden fun w => lat_any l w) (hidden cos_0) (hidden (over_pos q q0 q1)) (hidden fun w => ladd_any l l q q w (by omega) (by omega) (by omega) (by omega)) LG

end Go.Proofs.Ytjceofmhodcefaa
