/- Boxes of numbers as values: the contracts of chapter 6's boxes in a form that an invariant can hold. -/
import Derived.Test.YtoagcbamlnhkhaaNk
namespace Go.Proofs.Ytoagcbamlnhkhaa
open Go.RowKit

/-- a value that is a box of two numbers -/
def BoxV (w : World) (lo hi : Int) (v : Value) : Prop := ∃ A n c A2 n2 c2, v = .agg #[.slice A n c, .bool (decide (lo < 0)), .slice A2 n2 c2, .bool (decide (hi < 0))] ∧ Dig w A n c lo.natAbs ∧ Dig w A2 n2 c2 hi.natAbs
theorem BoxV.below {w w' : World} {lo hi : Int} {v : Value} (h : BoxV w lo hi v) (hb : Below w.heap.size w w') : BoxV w' lo hi v := by
  obtain ⟨A, n, c, A2, n2, c2, e, d, d2⟩ := h
  exact ⟨A, n, c, A2, n2, c2, e, d.below hb, d2.below hb⟩
def BoxR (w : World) (lo hi : Int) (e : Ending) (w' : World) : Prop := ∃ v, e = .returned v ∧ BoxV w' lo hi v ∧ Below w.heap.size w w'
theorem boxR_of {w w' : World} {lo hi : Int} {e : Ending} (h : BoxRes w lo hi e w') : BoxR w lo hi e w' := by
  obtain ⟨A, n, c, b, A2, n2, c2, b2, rfl, ⟨d, rfl, _⟩, ⟨d2, rfl, _⟩, hb⟩ := h
  exact ⟨_, rfl, ⟨A, n, c, A2, n2, c2, rfl, d, d2⟩, hb⟩
/-- a box, its cells by name -/
def BoxX (w : World) (lo hi : Int) (e : Ending) (w' : World) : Prop := ∃ A n c b A2 n2 c2 b2, e = .returned (.agg #[.slice A n c, .bool b, .slice A2 n2 c2, .bool b2]) ∧ BoxV w' lo hi (.agg #[.slice A n c, .bool b, .slice A2 n2 c2, .bool b2]) ∧ Below w.heap.size w w'
theorem boxX_of {w w' : World} {lo hi : Int} {e : Ending} (h : BoxR w lo hi e w') : BoxX w lo hi e w' := by
  obtain ⟨v, rfl, ⟨A, n, c, A2, n2, c2, rfl, d, d2⟩, hb⟩ := h
  exact ⟨A, n, c, _, A2, n2, c2, _, rfl, ⟨A, n, c, A2, n2, c2, rfl, d, d2⟩, hb⟩
theorem of_v (lo hi : Int) (w : World) (l0 : -9223372036854775808 ≤ lo) (l1 : lo ≤ 9223372036854775807) (h0 : -9223372036854775808 ≤ hi) (h1 : hi ≤ 9223372036854775807) : Calls Try.prog 24 #[.agg #[.int .i64 (lo), .int .i64 (hi)]] w (BoxR w lo hi) :=
  (of06_any lo hi w l0 l1 h0 h1).mono fun _ _ => boxR_of
theorem one_v (n : Int) (w : World) (n0 : -9223372036854775808 ≤ n) (n1 : n ≤ 9223372036854775807) : Calls Try.prog 21 #[.int .i64 n] w (BoxR w n n) :=
  (one06_any n w n0 n1).mono fun _ _ => boxR_of
theorem plus_v (u v : Value) (x1 x2 y1 y2 : Int) (w : World) (g : BoxV w x1 x2 u) (h : BoxV w y1 y2 v) (p1 : x1.natAbs < pw 20) (p2 : x2.natAbs < pw 20) (p3 : y1.natAbs < pw 20) (p4 : y2.natAbs < pw 20) :
    Calls Try.prog 25 #[u, v] w (BoxR w (x1 + y1) (x2 + y2)) := by
  obtain ⟨A, n, c, A2, n2, c2, rfl, d, d2⟩ := g
  obtain ⟨B, m, k, B2, m2, k2, rfl, f, f2⟩ := h
  exact (plus06_any A A2 B B2 n n2 m m2 c c2 k k2 x1 x2 y1 y2 w d d2 f f2 p1 p2 p3 p4).mono fun _ _ => boxR_of
theorem minus_v (u v : Value) (x1 x2 y1 y2 : Int) (w : World) (g : BoxV w x1 x2 u) (h : BoxV w y1 y2 v) (p1 : x1.natAbs < pw 20) (p2 : x2.natAbs < pw 20) (p3 : y1.natAbs < pw 20) (p4 : y2.natAbs < pw 20) :
    Calls Try.prog 26 #[u, v] w (BoxR w (x1 + -y2) (x2 + -y1)) := by
  obtain ⟨A, n, c, A2, n2, c2, rfl, d, d2⟩ := g
  obtain ⟨B, m, k, B2, m2, k2, rfl, f, f2⟩ := h
  exact (minus06_any A A2 B B2 n n2 m m2 c c2 k k2 x1 x2 y1 y2 w d d2 f f2 p1 p2 p3 p4).mono fun _ _ => boxR_of
theorem times_v (u v : Value) (x1 x2 y1 y2 : Int) (w : World) (g : BoxV w x1 x2 u) (h : BoxV w y1 y2 v) (p1 : x1.natAbs < pw 9) (p2 : x2.natAbs < pw 9) (p3 : y1.natAbs < pw 9) (p4 : y2.natAbs < pw 9) :
    Calls Try.prog 23 #[u, v] w (BoxR w (mnF (x1 * y1) (x1 * y2) (x2 * y1) (x2 * y2) 4) (mxF (x1 * y1) (x1 * y2) (x2 * y1) (x2 * y2) 4)) := by
  obtain ⟨A, n, c, A2, n2, c2, rfl, d, d2⟩ := g
  obtain ⟨B, m, k, B2, m2, k2, rfl, f, f2⟩ := h
  exact (times06_any A A2 B B2 n n2 m m2 c c2 k k2 x1 x2 y1 y2 w d d2 f f2 p1 p2 p3 p4).mono fun _ _ => boxR_of
theorem meet_v (u v : Value) (x1 x2 y1 y2 : Int) (w : World) (g : BoxV w x1 x2 u) (h : BoxV w y1 y2 v) (p1 : x1.natAbs < pw 30) (p2 : x2.natAbs < pw 30) (p3 : y1.natAbs < pw 30) (p4 : y2.natAbs < pw 30) (h1 : x1 ≤ y2) (h2 : y1 ≤ x2) :
    Calls Try.prog 22 #[u, v] w fun e w' => e = .returned (.bool true) ∧ Below w.heap.size w w' := by
  obtain ⟨A, n, c, A2, n2, c2, rfl, d, d2⟩ := g
  obtain ⟨B, m, k, B2, m2, k2, rfl, f, f2⟩ := h
  exact meet06_yes A A2 B B2 n n2 m m2 c c2 k k2 x1 x2 y1 y2 w d d2 f f2 p1 p2 p3 p4 h1 h2

end Go.Proofs.Ytoagcbamlnhkhaa
