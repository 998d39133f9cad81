/- Blocks that were made behind a world, and what they hold. -/
import Derived.Test.YtjceofmhodcefaaInv
namespace Go.Proofs.Ytjceofmhodcefaa
open Go.RowKit

/-- The same for blocks of two and of three cells with values of their own. -/
def Room2 (w0 w : World) (B : Nat) (d : Bool) (v0 v1 : Int) : Prop :=
  w0.heap.size ≤ B ∧ B < w.heap.size ∧ w.frozen? ⟨B, 0, none⟩ = false ∧ w.frozen? ⟨B, 1, none⟩ = false ∧ ∃ x0 x1, w.cell? ⟨B, 0, none⟩ = some x0 ∧ w.cell? ⟨B, 1, none⟩ = some x1 ∧ (d = true → x0 = .int .i64 v0 ∧ x1 = .int .i64 v1)
theorem Room2.later {w0 w w' : World} {B : Nat} {d : Bool} {v0 v1 : Int} (hb : Below w.heap.size w w') (h : Room2 w0 w B d v0 v1) : Room2 w0 w' B d v0 v1 := by
  obtain ⟨h1, h2, f0, f1, x0, x1, c0, c1, h7⟩ := h
  exact ⟨h1, Nat.lt_of_lt_of_le h2 hb.size, (hb.frozen (p := ⟨B, 0, none⟩) h2).trans f0, (hb.frozen (p := ⟨B, 1, none⟩) h2).trans f1, x0, x1, (hb.cell (p := ⟨B, 0, none⟩) h2).trans c0, (hb.cell (p := ⟨B, 1, none⟩) h2).trans c1, h7⟩
theorem Room2.alloc {w0 w : World} (h : Below w0.heap.size w0 w) (x0 x1 : Value) (t : Nat) (d : Bool) (v0 v1 : Int) (hd : d = true → false = true) : Room2 w0 (w.alloc (Obj.cells #[x0, x1] t)) w.heap.size d v0 v1 := by
  refine ⟨h.size, by simp [go_sem], by simp [go_sem], by simp [go_sem], x0, x1, by simp [go_sem], by simp [go_sem], fun e => ?_⟩
  have := hd e
  cases this
theorem Room2.store {w0 w : World} {B : Nat} {d : Bool} {v0 v1 : Int} (u0 u1 : Int) (h : Room2 w0 w B d v0 v1) (d' : Bool) : Room2 w0 ((w.setCell ⟨B, 0, none⟩ (.int .i64 u0)).setCell ⟨B, 1, none⟩ (.int .i64 u1)) B d' u0 u1 := by
  obtain ⟨h1, h2, f0, f1, x0, x1, c0, c1, h7⟩ := h
  refine ⟨h1, by simpa using h2, by simpa using f0, by simpa using f1, .int .i64 u0, .int .i64 u1, ?_, ?_, fun _ => ⟨rfl, rfl⟩⟩
  · simp [go_sem, *]
  · simp [go_sem, *]
def Room3 (w0 w : World) (B : Nat) (d : Bool) (v0 v1 v2 : Int) : Prop :=
  w0.heap.size ≤ B ∧ B < w.heap.size ∧ w.frozen? ⟨B, 0, none⟩ = false ∧ w.frozen? ⟨B, 1, none⟩ = false ∧ w.frozen? ⟨B, 2, none⟩ = false ∧ ∃ x0 x1 x2, w.cell? ⟨B, 0, none⟩ = some x0 ∧ w.cell? ⟨B, 1, none⟩ = some x1 ∧ w.cell? ⟨B, 2, none⟩ = some x2 ∧ (d = true → x0 = .int .i64 v0 ∧ x1 = .int .i64 v1 ∧ x2 = .int .i64 v2)
theorem Room3.later {w0 w w' : World} {B : Nat} {d : Bool} {v0 v1 v2 : Int} (hb : Below w.heap.size w w') (h : Room3 w0 w B d v0 v1 v2) : Room3 w0 w' B d v0 v1 v2 := by
  obtain ⟨h1, h2, f0, f1, f2, x0, x1, x2, c0, c1, c2, h7⟩ := h
  exact ⟨h1, Nat.lt_of_lt_of_le h2 hb.size, (hb.frozen (p := ⟨B, 0, none⟩) h2).trans f0, (hb.frozen (p := ⟨B, 1, none⟩) h2).trans f1, (hb.frozen (p := ⟨B, 2, none⟩) h2).trans f2, x0, x1, x2, (hb.cell (p := ⟨B, 0, none⟩) h2).trans c0, (hb.cell (p := ⟨B, 1, none⟩) h2).trans c1, (hb.cell (p := ⟨B, 2, none⟩) h2).trans c2, h7⟩
theorem Room3.alloc {w0 w : World} (h : Below w0.heap.size w0 w) (x0 x1 x2 : Value) (t : Nat) (d : Bool) (v0 v1 v2 : Int) (hd : d = true → false = true) : Room3 w0 (w.alloc (Obj.cells #[x0, x1, x2] t)) w.heap.size d v0 v1 v2 := by
  refine ⟨h.size, by simp [go_sem], by simp [go_sem], by simp [go_sem], by simp [go_sem], x0, x1, x2, by simp [go_sem], by simp [go_sem], by simp [go_sem], fun e => ?_⟩
  have := hd e
  cases this
theorem Room3.store {w0 w : World} {B : Nat} {d : Bool} {v0 v1 v2 : Int} (u0 u1 u2 : Int) (h : Room3 w0 w B d v0 v1 v2) (d' : Bool) : Room3 w0 (((w.setCell ⟨B, 0, none⟩ (.int .i64 u0)).setCell ⟨B, 1, none⟩ (.int .i64 u1)).setCell ⟨B, 2, none⟩ (.int .i64 u2)) B d' u0 u1 u2 := by
  obtain ⟨h1, h2, f0, f1, f2, x0, x1, x2, c0, c1, c2, h7⟩ := h
  refine ⟨h1, by simpa using h2, by simpa using f0, by simpa using f1, by simpa using f2, .int .i64 u0, .int .i64 u1, .int .i64 u2, ?_, ?_, ?_, fun _ => ⟨rfl, rfl, rfl⟩⟩
  · simp [go_sem, *]
  · simp [go_sem, *]
  · simp [go_sem, *]

end Go.Proofs.Ytjceofmhodcefaa
