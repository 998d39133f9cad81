/- Numbers by digits of 28 bits, and slices that hold such digits. -/
import Derived.Test.YtoagcbamlnhkhaaBase
import Derived.Laws.OwnMore
namespace Go.Proofs.Ytoagcbamlnhkhaa
open Go.RowKit

def pw (n : Nat) : Nat := 268435456 ^ n
theorem pw_zero : pw 0 = 1 := rfl
theorem pw_succ (n : Nat) : pw (n + 1) = pw n * 268435456 := Nat.pow_succ 268435456 n
theorem pw_pos (n : Nat) : 0 < pw n := Nat.pow_pos (by decide)
theorem pw_le {m n : Nat} (h : m ≤ n) : pw m ≤ pw n := Nat.pow_le_pow_right (by decide) h
theorem pw_lt {m n : Nat} (h : pw m < pw n) : m < n := by
  rcases Nat.lt_or_ge m n with h1 | h1
  · exact h1
  · have := pw_le h1; omega
def dg (x j : Nat) : Int := ((x / pw j % 268435456 : Nat) : Int)
theorem dg_bd (x j : Nat) : 0 ≤ dg x j ∧ dg x j ≤ 268435455 := by unfold dg; omega
theorem dg_out {x j : Nat} (h : x < pw j) : dg x j = 0 := by unfold dg; rw [Nat.div_eq_of_lt h]; rfl
def dgs (n x : Nat) : List Value := (List.range n).map fun j => .int .i64 (dg x j)
theorem dgs_zero (x : Nat) : dgs 0 x = [] := rfl
theorem dgs_succ (n x : Nat) : dgs (n + 1) x = dgs n x ++ [.int .i64 (dg x n)] := by unfold dgs; rw [List.range_succ, List.map_append]; rfl
theorem dgs_len (n x : Nat) : (dgs n x).length = n := by simp [dgs]
theorem dgs_get {n x j : Nat} (h : j < n) : (dgs n x)[j]? = some (.int .i64 (dg x j)) := by simp [dgs, h]

/-- a slice that holds the digits of x, with zeros at the end or not -/
def DigR (w : World) (A : Option Addr) (n c x : Nat) : Prop :=
  x < pw n ∧ n ≤ c ∧ ((A = none ∧ c = 0) ∨ ∃ g, A = some ⟨g, 0, none⟩ ∧ g < w.heap.size ∧ ∀ j, j < n → w.cell? ⟨g, j, none⟩ = some (.int .i64 (dg x j)))
theorem DigR.get {w : World} {A : Option Addr} {n c x : Nat} (h : DigR w A n c x) (hn : 0 < n) : ∃ g, A = some ⟨g, 0, none⟩ ∧ g < w.heap.size ∧ ∀ j, j < n → w.cell? ⟨g, j, none⟩ = some (.int .i64 (dg x j)) := by
  rcases h.2.2 with ⟨_, h0⟩ | h0
  · have := h.2.1; omega
  · exact h0
theorem DigR.below {w w' : World} {A : Option Addr} {n c x : Nat} (h : DigR w A n c x) (hb : Below w.heap.size w w') : DigR w' A n c x := by
  refine ⟨h.1, h.2.1, ?_⟩
  rcases h.2.2 with h0 | ⟨g, e, hg, hc⟩
  · exact .inl h0
  · exact .inr ⟨g, e, Nat.lt_of_lt_of_le hg hb.size, fun j hj => (hb.cell (p := ⟨g, j, none⟩) hg).trans (hc j hj)⟩
theorem DigR.cell {w w' : World} {g n c x : Nat} (h : DigR w (some ⟨g, 0, none⟩) n c x) (hb : Below w.heap.size w w') {j : Nat} (hj : j < n) : w'.cell? ⟨g, j, none⟩ = some (.int .i64 (dg x j)) := by
  obtain ⟨g', e, _, hc⟩ := (h.below hb).get (by omega)
  injection e with e
  injection e with e
  subst e
  exact hc j hj
theorem DigR.own {w : World} {base n x : Nat} {e : TypeId} {v : Value} (h : w.ownsRow base e 1 v n (dgs n x)) (hx : x < pw n) : ∃ A c, v = .slice A n c ∧ DigR w A n c x := by
  rcases h.2 with ⟨rfl, rfl⟩ | ⟨g, cap, cur, rfl, _, _, hle, _⟩
  · exact ⟨none, 0, rfl, hx, Nat.le_refl _, .inl ⟨rfl, rfl⟩⟩
  · refine ⟨_, _, rfl, hx, hle, .inr ⟨g, rfl, (h.lt g rfl).2, fun j hj => ?_⟩⟩
    have := h.cellAt j (by omega)
    rw [this, dgs_get hj]
theorem own_dig {w : World} {base n c x : Nat} {e : TypeId} {A : Option Addr} (h : w.ownsRow base e 1 (.slice A n c) n (dgs n x)) (hx : x < pw n) : DigR w A n c x := by
  obtain ⟨A', c', e', hd⟩ := DigR.own h hx
  injection e' with e1 _ e3
  subst e1
  subst e3
  exact hd
/-- the digits of x, without zeros at the end -/
def Dig (w : World) (A : Option Addr) (n c x : Nat) : Prop := DigR w A n c x ∧ (0 < n → pw (n - 1) ≤ x)
theorem Dig.below {w w' : World} {A : Option Addr} {n c x : Nat} (h : Dig w A n c x) (hb : Below w.heap.size w w') : Dig w' A n c x := ⟨h.1.below hb, h.2⟩
theorem Dig.few {w : World} {A : Option Addr} {n c x m : Nat} (h : Dig w A n c x) (hx : x < pw m) : n ≤ m := by
  rcases Nat.eq_zero_or_pos n with h0 | h0
  · omega
  · have := h.2 h0
    have := pw_lt (m := n - 1) (n := m) (by omega)
    omega
theorem Dig.pos {w : World} {A : Option Addr} {n c x : Nat} (h : Dig w A n c x) : n = 0 ↔ x = 0 := by
  constructor
  · intro e; have := h.1.1; rw [e, pw_zero] at this; omega
  · intro e
    rcases Nat.eq_zero_or_pos n with h0 | h0
    · exact h0
    · have := h.2 h0; have := pw_pos (n - 1); omega
/-- an address in a block from number N on -/
def Fr (N : Nat) (A : Option Addr) : Prop := ∀ a, A = some a → N ≤ a.block
theorem Fr.le {M N : Nat} {A : Option Addr} (h : Fr N A) (hm : M ≤ N) : Fr M A := fun a e => Nat.le_trans hm (h a e)
theorem own_fresh {w : World} {base n c : Nat} {e : TypeId} {A : Option Addr} {xs : List Value} (h : w.ownsRow base e 1 (.slice A n c) n xs) : Fr base A := by
  intro a e'
  subst e'
  exact (h.lt a.block rfl).1
/-- what a store elsewhere leaves -/
theorem DigR.store {w : World} {A : Option Addr} {n c x : Nat} (h : DigR w A n c x) (p : Addr) (u : Value) (hp : ∀ a, A = some a → a.block ≠ p.block) : DigR (w.setCell p u) A n c x := by
  refine ⟨h.1, h.2.1, ?_⟩
  rcases h.2.2 with h0 | ⟨g, e, hg, hc⟩
  · exact .inl h0
  · exact .inr ⟨g, e, by simpa using hg, fun j hj => (World.cell?_setCell_other w p ⟨g, j, none⟩ u (fun e' => hp _ e (by have k := congrArg Addr.block e'; first | exact k | exact k.symm))).trans (hc j hj)⟩
theorem Dig.store {w : World} {A : Option Addr} {n c x : Nat} (h : Dig w A n c x) (p : Addr) (u : Value) (hp : ∀ a, A = some a → a.block ≠ p.block) : Dig (w.setCell p u) A n c x := ⟨h.1.store p u hp, h.2⟩
theorem Dig.lt {w : World} {A : Option Addr} {n c x : Nat} (h : Dig w A n c x) : ∀ a, A = some a → a.block < w.heap.size := by
  intro a e
  rcases h.1.2.2 with ⟨h0, _⟩ | ⟨g, e', hg, _⟩
  · rw [h0] at e; cases e
  · rw [e'] at e; injection e with e; subst e; exact hg
/-- a call that returns the digits of z -/
def DigRes (w : World) (z : Nat) (e : Ending) (w' : World) : Prop := ∃ A n c, e = .returned (.slice A n c) ∧ Dig w' A n c z ∧ Fr w.heap.size A ∧ Below w.heap.size w w'

/-! ### sums -/
def cy (x y k : Nat) : Nat := (x % pw k + y % pw k) / pw k
theorem cy_zero (x y : Nat) : cy x y 0 = 0 := by unfold cy; rw [pw_zero]; omega
theorem cy_le (x y k : Nat) : cy x y k ≤ 1 := by
  unfold cy
  have h := pw_pos k
  have a := Nat.mod_lt x h
  have b := Nat.mod_lt y h
  have : (x % pw k + y % pw k) / pw k < 2 := Nat.div_lt_of_lt_mul (by omega)
  omega
theorem add_div_pw (x y k : Nat) : (x + y) / pw k = x / pw k + y / pw k + cy x y k := by
  have e : x + y = pw k * (x / pw k + y / pw k) + (x % pw k + y % pw k) := by
    have a := Nat.div_add_mod x (pw k)
    have b := Nat.div_add_mod y (pw k)
    rw [Nat.mul_add]
    omega
  rw [e, Nat.mul_add_div (pw_pos k)]
  rfl
theorem cy_succ (x y k : Nat) : cy x y (k + 1) = (cy x y k + x / pw k % 268435456 + y / pw k % 268435456) / 268435456 := by
  unfold cy
  rw [pw_succ, ← Nat.div_div_eq_div_mul, Nat.mod_mul, Nat.mod_mul]
  rw [show x % pw k + pw k * (x / pw k % 268435456) + (y % pw k + pw k * (y / pw k % 268435456)) = pw k * (x / pw k % 268435456 + y / pw k % 268435456) + (x % pw k + y % pw k) by rw [Nat.mul_add]; omega]
  rw [Nat.mul_add_div (pw_pos k)]
  congr 1
  omega
theorem sum_digit (x y k : Nat) (c a b : Int) (hc : c = cy x y k) (ha : a = dg x k) (hb : b = dg y k) : (c + a + b) % 268435456 = dg (x + y) k ∧ (c + a + b) / 268435456 = cy x y (k + 1) := by
  have e1 := add_div_pw x y k
  have e2 := cy_succ x y k
  unfold dg at *
  rw [e1, e2]
  omega
theorem sum_end (x y k : Nat) (hx : x < pw k) (hy : y < pw k) (hc : cy x y k = 0) : x + y < pw k := by
  unfold cy at hc
  rw [Nat.mod_eq_of_lt hx, Nat.mod_eq_of_lt hy] at hc
  have := pw_pos k
  rcases Nat.lt_or_ge (x + y) (pw k) with h | h
  · exact h
  · have := Nat.div_pos h this; omega
theorem sum_big (x y k : Nat) (hc : 0 < cy x y k) : pw k ≤ x + y := by
  unfold cy at hc
  have h := pw_pos k
  have a := Nat.mod_le x (pw k)
  have b := Nat.mod_le y (pw k)
  rcases Nat.lt_or_ge (x % pw k + y % pw k) (pw k) with h1 | h1
  · rw [Nat.div_eq_of_lt h1] at hc; omega
  · omega

theorem trim_down {x k : Nat} (h : x < pw (k + 1)) (h0 : dg x k = 0) : x < pw k := by
  unfold dg at h0
  rw [pw_succ] at h
  have e : x / pw k < 268435456 := Nat.div_lt_of_lt_mul (by omega)
  have e2 : x / pw k = 0 := by generalize x / pw k = d at *; omega
  have hp := pw_pos k
  rcases Nat.lt_or_ge x (pw k) with h1 | h1
  · exact h1
  · have := Nat.div_pos h1 hp; omega
theorem trim_stop {x k : Nat} (h0 : dg x k ≠ 0) : pw k ≤ x := by
  rcases Nat.lt_or_ge x (pw k) with h1 | h1
  · exact absurd (dg_out h1) h0
  · exact h1

theorem own_later {w w' : World} {base : Nat} {e : TypeId} {size : Nat} {v : Value} {n : Nat} {xs : List Value} (hb : Below w.heap.size w w') (h : w.ownsRow base e size v n xs) : w'.ownsRow base e size v n xs := by
  refine ⟨h.1, ?_⟩
  rcases h.2 with h | ⟨g, cap, cur, h1, h2, h3, h4⟩
  · exact Or.inl h
  · have hg : g < w.heap.size := by
      rcases Nat.lt_or_ge g w.heap.size with k | k
      · exact k
      · rw [Array.getElem?_eq_none k] at h3; cases h3
    exact Or.inr ⟨g, cap, cur, h1, h2, (hb.block g hg).trans h3, h4⟩

/-- an append of the next digit -/
theorem app_rel {w wr w1 : World} {e : TypeId} {v v' : Value} {k z : Nat} {u : Int} {o : Obj} (hb : Below w.heap.size w wr) (hown : wr.ownsRow w.heap.size e 1 v k (dgs k z))
    (hown' : w1.ownsRow w.heap.size e 1 v' (k + 1) (dgs k z ++ [.int .i64 u])) (hg : (wr.alloc o).grownBy w1 v.ownBlock) (hu : u = dg z k) :
    w1.ownsRow w.heap.size e 1 v' (k + 1) (dgs (k + 1) z) ∧ Below w.heap.size w w1 :=
  ⟨by rw [dgs_succ, ← hu]; exact hown', Below.grown (bl_alloc hb o) hg (bl_alloc hb o).size (fun j hj => (hown.lt j hj).1)⟩
theorem one_new (w : World) (u : Value) (t : Nat) : ∀ (j : Nat) x, ([u] : List Value)[j]? = some x → (w.alloc (.cells #[u] t)).cell? ((⟨w.heap.size, 0, none⟩ : Addr).add j) = some x := by
  intro j x hj
  match j, hj with
  | 0, hj => simp at hj; subst hj; simp [Addr.add]
theorem one_cell (a : Int) : ∀ u ∈ ([.int .i64 a] : List Value), u.oneCell' = true := by
  intro u hu; simp at hu; subst hu; rfl
theorem dgs_new {w w' : World} {g n c x k : Nat} (h : DigR w (some ⟨g, 0, none⟩) n c x) (hb : Below w.heap.size w w') (hk : k ≤ n) : ∀ (j : Nat) u, (dgs k x)[j]? = some u → w'.cell? ((⟨g, 0, none⟩ : Addr).add j) = some u := by
  intro j u hj
  have hl : j < k := by
    rcases Nat.lt_or_ge j k with h1 | h1
    · exact h1
    · rw [List.getElem?_eq_none (by rw [dgs_len]; exact h1)] at hj; cases hj
  rw [dgs_get hl] at hj
  injection hj with hj
  subst hj
  have := h.cell hb (j := j) (by omega)
  unfold Addr.add
  by_cases h0 : j = 0
  · subst h0; simpa using this
  · simpa [h0] using this
theorem dgs_one (k x : Nat) : ∀ u ∈ dgs k x, u.oneCell' = true := by
  intro u hu
  unfold dgs at hu
  simp at hu
  obtain ⟨j, _, rfl⟩ := hu
  rfl
theorem infoInt : (Try.prog.info? 3).map (fun i => (i.zero, i.size, i.bytes)) = some (some (.int .i64 0), 1, 8) := by kernel_rfl

end Go.Proofs.Ytoagcbamlnhkhaa
