/- An append as one operation of a region by an invariant; what an append leaves as it was. -/
import Derived.Test.YtjceofmhodcefaaRoom
import Derived.Maps.AppendAt
import Derived.Laws.OwnMore
namespace Go.Proofs.Ytjceofmhodcefaa
open Go.RowKit

theorem step_append_own {P : Program} {o : Oper} {a : Act} {w : World} {K : Act → World → Prop} {Q : Exit → Act → World → Prop}
    (s x : Operand) (t : TypeId) (ho : o.op = .call { callee := .builtin .append, args := #[s, x], argTypes := #[t, t] })
    (base : Nat) (e : TypeId) (i : TypeInfo) (z : Value) (size bytes : Nat) (ht : P.underlying t = some (.slice e)) (hi : P.info? e = some i) (hz : i.zero = some z)
    (hsize : i.size = size) (hby : i.bytes = bytes) (hzs : z.cells.size = size) (hsz : 0 < size)
    (v : Value) (n : Nat) (xs : List Value) (hs : a.eval s = v) (hown : w.ownsRow base e size v n xs)
    (ad : Addr) (m c : Nat) (news : List Value) (hx : a.eval x = .slice (some ad) m c) (hl : news.length = m * size) (hnews : ∀ j u, news[j]? = some u → w.cell? (ad.add j) = some u) (h1 : ∀ u ∈ news, u.oneCell' = true)
    (h63 : n + m ≤ maxLen) (hbytes : (n + m) * bytes ≤ 140737488355328) (hbase : base ≤ w.heap.size)
    (h : ∀ v' w', w'.ownsRow base e size v' (n + m) (xs ++ news) → w.grownBy w' v.ownBlock → K (a.put o.dst v') w') :
    Oper.wp P o a w K Q := by
  obtain ⟨v', w', hr, h2, h3, h4, h5⟩ := run_append_own_at (P := P) w base t o.type e i z size bytes ht hi hz hsize hby hzs hsz v n xs hown ad m c news hl hnews h1 h63 hbytes hbase
  unfold Oper.wp execOp
  simp only [ho, resolve, invoke, builtin, Sem.run_bind, Sem.run_pure, Result.andThen_ok, List.map_toArray, List.map_cons, List.map_nil, hs, hx, hr]
  exact h v' w' h2 h3

theorem newsAt {w : World} {B : Nat} {x : Value} (h : w.cell? ⟨B, 0, none⟩ = some x) : ∀ (j : Nat) u, ([x] : List Value)[j]? = some u → w.cell? ((⟨B, 0, none⟩ : Addr).add j) = some u := by
  intro j u hj
  match j, hj with
  | 0, hj => simp at hj; subst hj; simpa [Addr.add] using h
  | n + 1, hj => simp at hj

/-- All blocks of `W` but one are in `v` as they were. -/
def Kept (W v : World) (row : Option Nat) : Prop := W.heap.size ≤ v.heap.size ∧ ∀ k, k < W.heap.size → some k ≠ row → v.heap[k]? = W.heap[k]?
theorem Kept.refl (W : World) (row : Option Nat) : Kept W W row := ⟨Nat.le_refl _, fun _ _ _ => rfl⟩
theorem Kept.below {W v v' : World} {row : Option Nat} (hb : Below v.heap.size v v') (h : Kept W v row) : Kept W v' row :=
  ⟨Nat.le_trans h.1 hb.size, fun k hk hn => (hb.block k (Nat.lt_of_lt_of_le hk h.1)).trans (h.2 k hk hn)⟩
theorem Kept.grown {W v v' : World} {row : Option Nat} (hg : v.grownBy v' row) (h : Kept W v row) : Kept W v' row :=
  ⟨Nat.le_trans h.1 hg.size, fun k hk hn => (hg.block k (Nat.lt_of_lt_of_le hk h.1) hn).trans (h.2 k hk hn)⟩
theorem Kept.cell {W v : World} {row : Option Nat} {k o : Nat} {x : Value} (h : Kept W v row) (hn : some k ≠ row) (hc : W.cell? ⟨k, o, none⟩ = some x) : v.cell? ⟨k, o, none⟩ = some x :=
  (World.cell?_of_block (a := ⟨k, o, none⟩) (h.2 k (World.block_lt_of_cell? _ _ hc) hn)).trans hc

end Go.Proofs.Ytjceofmhodcefaa
