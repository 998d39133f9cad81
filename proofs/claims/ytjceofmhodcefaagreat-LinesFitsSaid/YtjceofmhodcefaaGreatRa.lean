/- Several small texts in one: XRoom, XApp. -/
import Derived.Test.YtjceofmhodcefaaGreatInv
import Derived.Maps.AppendAt
import Derived.Laws.OwnMore
namespace Go.Proofs.YtjceofmhodcefaaGreat
open Go.RowKit

/-- The same for blocks of two and of three cells with values of their own. -/
def Room2 (w0 w : World) (B : Nat) (d : Bool) (v0 v1 : Int) : Prop :=
  w0.heap.size ≤ B ∧ B < w.heap.size ∧ w.frozen? ⟨B, 0, none⟩ = false ∧ w.frozen? ⟨B, 1, none⟩ = false ∧ ∃ x0 x1, w.cell? ⟨B, 0, none⟩ = some x0 ∧ w.cell? ⟨B, 1, none⟩ = some x1 ∧ (d = true → x0 = .int .i64 v0 ∧ x1 = .int .i64 v1)
theorem Room2.later {w0 w w' : World} {B : Nat} {d : Bool} {v0 v1 : Int} (hb : Below w.heap.size w w') (h : Room2 w0 w B d v0 v1) : Room2 w0 w' B d v0 v1 := by
  obtain ⟨h1, h2, f0, f1, x0, x1, c0, c1, h7⟩ := h
  exact ⟨h1, Nat.lt_of_lt_of_le h2 hb.size, (hb.frozen (p := ⟨B, 0, none⟩) h2).trans f0, (hb.frozen (p := ⟨B, 1, none⟩) h2).trans f1, x0, x1, (hb.cell (p := ⟨B, 0, none⟩) h2).trans c0, (hb.cell (p := ⟨B, 1, none⟩) h2).trans c1, h7⟩
theorem Room2.alloc {w0 w : World} (h : Below w0.heap.size w0 w) (x0 x1 : Value) (t : Nat) (d : Bool) (v0 v1 : Int) (hd : d = true → false = true) : Room2 w0 (w.alloc (Obj.cells #[x0, x1] t)) w.heap.size d v0 v1 := by
  refine ⟨h.size, by simp [go_sem], by simp [go_sem], by simp [go_sem], x0, x1, by simp [go_sem], by simp [go_sem], fun e => ?_⟩
  have := hd e
  cases this
theorem Room2.store {w0 w : World} {B : Nat} {d : Bool} {v0 v1 : Int} (u0 u1 : Int) (h : Room2 w0 w B d v0 v1) (d' : Bool) : Room2 w0 ((w.setCell ⟨B, 0, none⟩ (.int .i64 u0)).setCell ⟨B, 1, none⟩ (.int .i64 u1)) B d' u0 u1 := by
  obtain ⟨h1, h2, f0, f1, x0, x1, c0, c1, h7⟩ := h
  refine ⟨h1, by simpa using h2, by simpa using f0, by simpa using f1, .int .i64 u0, .int .i64 u1, ?_, ?_, fun _ => ⟨rfl, rfl⟩⟩
  · simp [go_sem, *]
  · simp [go_sem, *]
def Room3 (w0 w : World) (B : Nat) (d : Bool) (v0 v1 v2 : Int) : Prop :=
  w0.heap.size ≤ B ∧ B < w.heap.size ∧ w.frozen? ⟨B, 0, none⟩ = false ∧ w.frozen? ⟨B, 1, none⟩ = false ∧ w.frozen? ⟨B, 2, none⟩ = false ∧ ∃ x0 x1 x2, w.cell? ⟨B, 0, none⟩ = some x0 ∧ w.cell? ⟨B, 1, none⟩ = some x1 ∧ w.cell? ⟨B, 2, none⟩ = some x2 ∧ (d = true → x0 = .int .i64 v0 ∧ x1 = .int .i64 v1 ∧ x2 = .int .i64 v2)
theorem Room3.later {w0 w w' : World} {B : Nat} {d : Bool} {v0 v1 v2 : Int} (hb : Below w.heap.size w w') (h : Room3 w0 w B d v0 v1 v2) : Room3 w0 w' B d v0 v1 v2 := by
  obtain ⟨h1, h2, f0, f1, f2, x0, x1, x2, c0, c1, c2, h7⟩ := h
  exact ⟨h1, Nat.lt_of_lt_of_le h2 hb.size, (hb.frozen (p := ⟨B, 0, none⟩) h2).trans f0, (hb.frozen (p := ⟨B, 1, none⟩) h2).trans f1, (hb.frozen (p := ⟨B, 2, none⟩) h2).trans f2, x0, x1, x2, (hb.cell (p := ⟨B, 0, none⟩) h2).trans c0, (hb.cell (p := ⟨B, 1, none⟩) h2).trans c1, (hb.cell (p := ⟨B, 2, none⟩) h2).trans c2, h7⟩
theorem Room3.alloc {w0 w : World} (h : Below w0.heap.size w0 w) (x0 x1 x2 : Value) (t : Nat) (d : Bool) (v0 v1 v2 : Int) (hd : d = true → false = true) : Room3 w0 (w.alloc (Obj.cells #[x0, x1, x2] t)) w.heap.size d v0 v1 v2 := by
  refine ⟨h.size, by simp [go_sem], by simp [go_sem], by simp [go_sem], by simp [go_sem], x0, x1, x2, by simp [go_sem], by simp [go_sem], by simp [go_sem], fun e => ?_⟩
  have := hd e
  cases this
theorem Room3.store {w0 w : World} {B : Nat} {d : Bool} {v0 v1 v2 : Int} (u0 u1 u2 : Int) (h : Room3 w0 w B d v0 v1 v2) (d' : Bool) : Room3 w0 (((w.setCell ⟨B, 0, none⟩ (.int .i64 u0)).setCell ⟨B, 1, none⟩ (.int .i64 u1)).setCell ⟨B, 2, none⟩ (.int .i64 u2)) B d' u0 u1 u2 := by
  obtain ⟨h1, h2, f0, f1, f2, x0, x1, x2, c0, c1, c2, h7⟩ := h
  refine ⟨h1, by simpa using h2, by simpa using f0, by simpa using f1, by simpa using f2, .int .i64 u0, .int .i64 u1, .int .i64 u2, ?_, ?_, ?_, fun _ => ⟨rfl, rfl, rfl⟩⟩
  · simp [go_sem, *]
  · simp [go_sem, *]
  · simp [go_sem, *]

end Go.Proofs.YtjceofmhodcefaaGreat

namespace Go.Proofs.YtjceofmhodcefaaGreat
open Go.RowKit

theorem step_append_own {P : Program} {o : Oper} {a : Act} {w : World} {K : Act → World → Prop} {Q : Exit → Act → World → Prop}
    (s x : Operand) (t : TypeId) (ho : o.op = .call { callee := .builtin .append, args := #[s, x], argTypes := #[t, t] })
    (base : Nat) (e : TypeId) (i : TypeInfo) (z : Value) (size bytes : Nat) (ht : P.underlying t = some (.slice e)) (hi : P.info? e = some i) (hz : i.zero = some z)
    (hsize : i.size = size) (hby : i.bytes = bytes) (hzs : z.cells.size = size) (hsz : 0 < size)
    (v : Value) (n : Nat) (xs : List Value) (hs : a.eval s = v) (hown : w.ownsRow base e size v n xs)
    (ad : Addr) (m c : Nat) (news : List Value) (hx : a.eval x = .slice (some ad) m c) (hl : news.length = m * size) (hnews : ∀ j u, news[j]? = some u → w.cell? (ad.add j) = some u) (h1 : ∀ u ∈ news, u.oneCell' = true)
    (h63 : n + m ≤ maxLen) (hbytes : (n + m) * bytes ≤ 140737488355328) (hbase : base ≤ w.heap.size)
    (h : ∀ v' w', w'.ownsRow base e size v' (n + m) (xs ++ news) → w.grownBy w' v.ownBlock → K (a.put o.dst v') w') :
    Oper.wp P o a w K Q := by
  obtain ⟨v', w', hr, h2, h3, h4, h5⟩ := run_append_own_at (P := P) w base t o.type e i z size bytes ht hi hz hsize hby hzs hsz v n xs hown ad m c news hl hnews h1 h63 hbytes hbase
  unfold Oper.wp execOp
  simp only [ho, resolve, invoke, builtin, Sem.run_bind, Sem.run_pure, Result.andThen_ok, List.map_toArray, List.map_cons, List.map_nil, hs, hx, hr]
  exact h v' w' h2 h3

theorem newsAt {w : World} {B : Nat} {x : Value} (h : w.cell? ⟨B, 0, none⟩ = some x) : ∀ (j : Nat) u, ([x] : List Value)[j]? = some u → w.cell? ((⟨B, 0, none⟩ : Addr).add j) = some u := by
  intro j u hj
  match j, hj with
  | 0, hj => simp at hj; subst hj; simpa [Addr.add] using h
  | n + 1, hj => simp at hj

/-- All blocks of `W` but one are in `v` as they were. -/
def Kept (W v : World) (row : Option Nat) : Prop := W.heap.size ≤ v.heap.size ∧ ∀ k, k < W.heap.size → some k ≠ row → v.heap[k]? = W.heap[k]?
theorem Kept.refl (W : World) (row : Option Nat) : Kept W W row := ⟨Nat.le_refl _, fun _ _ _ => rfl⟩
theorem Kept.below {W v v' : World} {row : Option Nat} (hb : Below v.heap.size v v') (h : Kept W v row) : Kept W v' row :=
  ⟨Nat.le_trans h.1 hb.size, fun k hk hn => (hb.block k (Nat.lt_of_lt_of_le hk h.1)).trans (h.2 k hk hn)⟩
theorem Kept.grown {W v v' : World} {row : Option Nat} (hg : v.grownBy v' row) (h : Kept W v row) : Kept W v' row :=
  ⟨Nat.le_trans h.1 hg.size, fun k hk hn => (hg.block k (Nat.lt_of_lt_of_le hk h.1) hn).trans (h.2 k hk hn)⟩
theorem Kept.cell {W v : World} {row : Option Nat} {k o : Nat} {x : Value} (h : Kept W v row) (hn : some k ≠ row) (hc : W.cell? ⟨k, o, none⟩ = some x) : v.cell? ⟨k, o, none⟩ = some x :=
  (World.cell?_of_block (a := ⟨k, o, none⟩) (h.2 k (World.block_lt_of_cell? _ _ hc) hn)).trans hc

end Go.Proofs.YtjceofmhodcefaaGreat
