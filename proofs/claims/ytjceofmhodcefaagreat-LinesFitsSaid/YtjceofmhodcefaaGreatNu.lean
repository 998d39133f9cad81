/- Several small texts in one: XDg, XNa, XNb, XNc, XNd, XNe, XNf. -/
import Derived.Test.YtjceofmhodcefaaGreatBase
import Derived.Laws.OwnMore
import Derived.OwnWalk
import Derived.Laws.AppendOwnNone
namespace Go.Proofs.YtjceofmhodcefaaGreat
open Go.RowKit

def pw (n : Nat) : Nat := 268435456 ^ n
theorem pw_zero : pw 0 = 1 := rfl
theorem pw_succ (n : Nat) : pw (n + 1) = pw n * 268435456 := Nat.pow_succ 268435456 n
theorem pw_pos (n : Nat) : 0 < pw n := Nat.pow_pos (by decide)
theorem pw_le {m n : Nat} (h : m ≤ n) : pw m ≤ pw n := Nat.pow_le_pow_right (by decide) h
theorem pw_lt {m n : Nat} (h : pw m < pw n) : m < n := by
  rcases Nat.lt_or_ge m n with h1 | h1
  · exact h1
  · have := pw_le h1; omega
def dg (x j : Nat) : Int := ((x / pw j % 268435456 : Nat) : Int)
theorem dg_bd (x j : Nat) : 0 ≤ dg x j ∧ dg x j ≤ 268435455 := by unfold dg; omega
theorem dg_out {x j : Nat} (h : x < pw j) : dg x j = 0 := by unfold dg; rw [Nat.div_eq_of_lt h]; rfl
def dgs (n x : Nat) : List Value := (List.range n).map fun j => .int .i64 (dg x j)
theorem dgs_succ (n x : Nat) : dgs (n + 1) x = dgs n x ++ [.int .i64 (dg x n)] := by unfold dgs; rw [List.range_succ, List.map_append]; rfl
theorem dgs_len (n x : Nat) : (dgs n x).length = n := by simp [dgs]
theorem dgs_get {n x j : Nat} (h : j < n) : (dgs n x)[j]? = some (.int .i64 (dg x j)) := by simp [dgs, h]

/-- a slice that holds the digits of x, with zeros at the end or not -/
def DigR (w : World) (A : Option Addr) (n c x : Nat) : Prop :=
  x < pw n ∧ n ≤ c ∧ ((A = none ∧ c = 0) ∨ ∃ g, A = some ⟨g, 0, none⟩ ∧ g < w.heap.size ∧ ∀ j, j < n → w.cell? ⟨g, j, none⟩ = some (.int .i64 (dg x j)))
theorem DigR.get {w : World} {A : Option Addr} {n c x : Nat} (h : DigR w A n c x) (hn : 0 < n) : ∃ g, A = some ⟨g, 0, none⟩ ∧ g < w.heap.size ∧ ∀ j, j < n → w.cell? ⟨g, j, none⟩ = some (.int .i64 (dg x j)) := by
  rcases h.2.2 with ⟨_, h0⟩ | h0
  · have := h.2.1; omega
  · exact h0
theorem DigR.below {w w' : World} {A : Option Addr} {n c x : Nat} (h : DigR w A n c x) (hb : Below w.heap.size w w') : DigR w' A n c x := by
  refine ⟨h.1, h.2.1, ?_⟩
  rcases h.2.2 with h0 | ⟨g, e, hg, hc⟩
  · exact .inl h0
  · exact .inr ⟨g, e, Nat.lt_of_lt_of_le hg hb.size, fun j hj => (hb.cell (p := ⟨g, j, none⟩) hg).trans (hc j hj)⟩
theorem DigR.cell {w w' : World} {g n c x : Nat} (h : DigR w (some ⟨g, 0, none⟩) n c x) (hb : Below w.heap.size w w') {j : Nat} (hj : j < n) : w'.cell? ⟨g, j, none⟩ = some (.int .i64 (dg x j)) := by
  obtain ⟨g', e, _, hc⟩ := (h.below hb).get (by omega)
  injection e with e
  injection e with e
  subst e
  exact hc j hj
theorem DigR.own {w : World} {base n x : Nat} {e : TypeId} {v : Value} (h : w.ownsRow base e 1 v n (dgs n x)) (hx : x < pw n) : ∃ A c, v = .slice A n c ∧ DigR w A n c x := by
  rcases h.2 with ⟨rfl, rfl⟩ | ⟨g, cap, cur, rfl, _, _, hle, _⟩
  · exact ⟨none, 0, rfl, hx, Nat.le_refl _, .inl ⟨rfl, rfl⟩⟩
  · refine ⟨_, _, rfl, hx, hle, .inr ⟨g, rfl, (h.lt g rfl).2, fun j hj => ?_⟩⟩
    have := h.cellAt j (by omega)
    rw [this, dgs_get hj]
theorem own_dig {w : World} {base n c x : Nat} {e : TypeId} {A : Option Addr} (h : w.ownsRow base e 1 (.slice A n c) n (dgs n x)) (hx : x < pw n) : DigR w A n c x := by
  obtain ⟨A', c', e', hd⟩ := DigR.own h hx
  injection e' with e1 _ e3
  subst e1
  subst e3
  exact hd
/-- the digits of x, without zeros at the end -/
def Dig (w : World) (A : Option Addr) (n c x : Nat) : Prop := DigR w A n c x ∧ (0 < n → pw (n - 1) ≤ x)
theorem Dig.below {w w' : World} {A : Option Addr} {n c x : Nat} (h : Dig w A n c x) (hb : Below w.heap.size w w') : Dig w' A n c x := ⟨h.1.below hb, h.2⟩
theorem Dig.few {w : World} {A : Option Addr} {n c x m : Nat} (h : Dig w A n c x) (hx : x < pw m) : n ≤ m := by
  rcases Nat.eq_zero_or_pos n with h0 | h0
  · omega
  · have := h.2 h0
    have := pw_lt (m := n - 1) (n := m) (by omega)
    omega
theorem Dig.pos {w : World} {A : Option Addr} {n c x : Nat} (h : Dig w A n c x) : n = 0 ↔ x = 0 := by
  constructor
  · intro e; have := h.1.1; rw [e, pw_zero] at this; omega
  · intro e
    rcases Nat.eq_zero_or_pos n with h0 | h0
    · exact h0
    · have := h.2 h0; have := pw_pos (n - 1); omega
/-- an address in a block from number N on -/
def Fr (N : Nat) (A : Option Addr) : Prop := ∀ a, A = some a → N ≤ a.block
theorem Fr.le {M N : Nat} {A : Option Addr} (h : Fr N A) (hm : M ≤ N) : Fr M A := fun a e => Nat.le_trans hm (h a e)
theorem own_fresh {w : World} {base n c : Nat} {e : TypeId} {A : Option Addr} {xs : List Value} (h : w.ownsRow base e 1 (.slice A n c) n xs) : Fr base A := by
  intro a e'
  subst e'
  exact (h.lt a.block rfl).1
/-- what a store elsewhere leaves -/
theorem DigR.store {w : World} {A : Option Addr} {n c x : Nat} (h : DigR w A n c x) (p : Addr) (u : Value) (hp : ∀ a, A = some a → a.block ≠ p.block) : DigR (w.setCell p u) A n c x := by
  refine ⟨h.1, h.2.1, ?_⟩
  rcases h.2.2 with h0 | ⟨g, e, hg, hc⟩
  · exact .inl h0
  · exact .inr ⟨g, e, by simpa using hg, fun j hj => (World.cell?_setCell_other w p ⟨g, j, none⟩ u (fun e' => hp _ e (by have k := congrArg Addr.block e'; first | exact k | exact k.symm))).trans (hc j hj)⟩
theorem Dig.store {w : World} {A : Option Addr} {n c x : Nat} (h : Dig w A n c x) (p : Addr) (u : Value) (hp : ∀ a, A = some a → a.block ≠ p.block) : Dig (w.setCell p u) A n c x := ⟨h.1.store p u hp, h.2⟩
theorem Dig.lt {w : World} {A : Option Addr} {n c x : Nat} (h : Dig w A n c x) : ∀ a, A = some a → a.block < w.heap.size := by
  intro a e
  rcases h.1.2.2 with ⟨h0, _⟩ | ⟨g, e', hg, _⟩
  · rw [h0] at e; cases e
  · rw [e'] at e; injection e with e; subst e; exact hg
/-- a call that returns the digits of z -/
def DigRes (w : World) (z : Nat) (e : Ending) (w' : World) : Prop := ∃ A n c, e = .returned (.slice A n c) ∧ Dig w' A n c z ∧ Fr w.heap.size A ∧ Below w.heap.size w w'

/-! ### sums -/
def cy (x y k : Nat) : Nat := (x % pw k + y % pw k) / pw k
theorem cy_zero (x y : Nat) : cy x y 0 = 0 := by unfold cy; rw [pw_zero]; omega
theorem cy_le (x y k : Nat) : cy x y k ≤ 1 := by
  unfold cy
  have h := pw_pos k
  have a := Nat.mod_lt x h
  have b := Nat.mod_lt y h
  have : (x % pw k + y % pw k) / pw k < 2 := Nat.div_lt_of_lt_mul (by omega)
  omega
theorem add_div_pw (x y k : Nat) : (x + y) / pw k = x / pw k + y / pw k + cy x y k := by
  have e : x + y = pw k * (x / pw k + y / pw k) + (x % pw k + y % pw k) := by
    have a := Nat.div_add_mod x (pw k)
    have b := Nat.div_add_mod y (pw k)
    rw [Nat.mul_add]
    omega
  rw [e, Nat.mul_add_div (pw_pos k)]
  rfl
theorem cy_succ (x y k : Nat) : cy x y (k + 1) = (cy x y k + x / pw k % 268435456 + y / pw k % 268435456) / 268435456 := by
  unfold cy
  rw [pw_succ, ← Nat.div_div_eq_div_mul, Nat.mod_mul, Nat.mod_mul]
  rw [show x % pw k + pw k * (x / pw k % 268435456) + (y % pw k + pw k * (y / pw k % 268435456)) = pw k * (x / pw k % 268435456 + y / pw k % 268435456) + (x % pw k + y % pw k) by rw [Nat.mul_add]; omega]
  rw [Nat.mul_add_div (pw_pos k)]
  congr 1
  omega
theorem sum_digit (x y k : Nat) (c a b : Int) (hc : c = cy x y k) (ha : a = dg x k) (hb : b = dg y k) : (c + a + b) % 268435456 = dg (x + y) k ∧ (c + a + b) / 268435456 = cy x y (k + 1) := by
  have e1 := add_div_pw x y k
  have e2 := cy_succ x y k
  unfold dg at *
  rw [e1, e2]
  omega
theorem sum_end (x y k : Nat) (hx : x < pw k) (hy : y < pw k) (hc : cy x y k = 0) : x + y < pw k := by
  unfold cy at hc
  rw [Nat.mod_eq_of_lt hx, Nat.mod_eq_of_lt hy] at hc
  have := pw_pos k
  rcases Nat.lt_or_ge (x + y) (pw k) with h | h
  · exact h
  · have := Nat.div_pos h this; omega
theorem sum_big (x y k : Nat) (hc : 0 < cy x y k) : pw k ≤ x + y := by
  unfold cy at hc
  have h := pw_pos k
  have a := Nat.mod_le x (pw k)
  have b := Nat.mod_le y (pw k)
  rcases Nat.lt_or_ge (x % pw k + y % pw k) (pw k) with h1 | h1
  · rw [Nat.div_eq_of_lt h1] at hc; omega
  · omega

theorem trim_down {x k : Nat} (h : x < pw (k + 1)) (h0 : dg x k = 0) : x < pw k := by
  unfold dg at h0
  rw [pw_succ] at h
  have e : x / pw k < 268435456 := Nat.div_lt_of_lt_mul (by omega)
  have e2 : x / pw k = 0 := by generalize x / pw k = d at *; omega
  have hp := pw_pos k
  rcases Nat.lt_or_ge x (pw k) with h1 | h1
  · exact h1
  · have := Nat.div_pos h1 hp; omega
theorem trim_stop {x k : Nat} (h0 : dg x k ≠ 0) : pw k ≤ x := by
  rcases Nat.lt_or_ge x (pw k) with h1 | h1
  · exact absurd (dg_out h1) h0
  · exact h1

theorem own_later {w w' : World} {base : Nat} {e : TypeId} {size : Nat} {v : Value} {n : Nat} {xs : List Value} (hb : Below w.heap.size w w') (h : w.ownsRow base e size v n xs) : w'.ownsRow base e size v n xs := by
  refine ⟨h.1, ?_⟩
  rcases h.2 with h | ⟨g, cap, cur, h1, h2, h3, h4⟩
  · exact Or.inl h
  · have hg : g < w.heap.size := by
      rcases Nat.lt_or_ge g w.heap.size with k | k
      · exact k
      · rw [Array.getElem?_eq_none k] at h3; cases h3
    exact Or.inr ⟨g, cap, cur, h1, h2, (hb.block g hg).trans h3, h4⟩

/-- an append of the next digit -/
theorem app_rel {w wr w1 : World} {e : TypeId} {v v' : Value} {k z : Nat} {u : Int} {o : Obj} (hb : Below w.heap.size w wr) (hown : wr.ownsRow w.heap.size e 1 v k (dgs k z))
    (hown' : w1.ownsRow w.heap.size e 1 v' (k + 1) (dgs k z ++ [.int .i64 u])) (hg : (wr.alloc o).grownBy w1 v.ownBlock) (hu : u = dg z k) :
    w1.ownsRow w.heap.size e 1 v' (k + 1) (dgs (k + 1) z) ∧ Below w.heap.size w w1 :=
  ⟨by rw [dgs_succ, ← hu]; exact hown', Below.grown (bl_alloc hb o) hg (bl_alloc hb o).size (fun j hj => (hown.lt j hj).1)⟩
theorem one_new (w : World) (u : Value) (t : Nat) : ∀ (j : Nat) x, ([u] : List Value)[j]? = some x → (w.alloc (.cells #[u] t)).cell? ((⟨w.heap.size, 0, none⟩ : Addr).add j) = some x := by
  intro j x hj
  match j, hj with
  | 0, hj => simp at hj; subst hj; simp [Addr.add]
theorem one_cell (a : Int) : ∀ u ∈ ([.int .i64 a] : List Value), u.oneCell' = true := by
  intro u hu; simp at hu; subst hu; rfl
theorem dgs_new {w w' : World} {g n c x k : Nat} (h : DigR w (some ⟨g, 0, none⟩) n c x) (hb : Below w.heap.size w w') (hk : k ≤ n) : ∀ (j : Nat) u, (dgs k x)[j]? = some u → w'.cell? ((⟨g, 0, none⟩ : Addr).add j) = some u := by
  intro j u hj
  have hl : j < k := by
    rcases Nat.lt_or_ge j k with h1 | h1
    · exact h1
    · rw [List.getElem?_eq_none (by rw [dgs_len]; exact h1)] at hj; cases hj
  rw [dgs_get hl] at hj
  injection hj with hj
  subst hj
  have := h.cell hb (j := j) (by omega)
  unfold Addr.add
  by_cases h0 : j = 0
  · subst h0; simpa using this
  · simpa [h0] using this
theorem dgs_one (k x : Nat) : ∀ u ∈ dgs k x, u.oneCell' = true := by
  intro u hu
  unfold dgs at hu
  simp at hu
  obtain ⟨j, _, rfl⟩ := hu
  rfl
theorem infoInt : (Tryz.prog.info? 3).map (fun i => (i.zero, i.size, i.bytes)) = some (some (.int .i64 0), 1, 8) := by kernel_rfl

end Go.Proofs.YtjceofmhodcefaaGreat

namespace Go.Proofs.YtjceofmhodcefaaGreat
open Go.RowKit

set_option maxRecDepth 100000 in
set_option maxHeartbeats 4000000 in
theorem sum02_any (A1 A2 : Option Addr) (n1 n2 c1 c2 x y : Nat) (w : World) (h1 : Dig w A1 n1 c1 x) (h2 : Dig w A2 n2 c2 y) (hx : x < pw 30) (hy : y < pw 30) :
    Calls Tryz.prog 76 #[.slice A1 n1 c1, .slice A2 n2 c2] w (DigRes w (x + y)) := by
  obtain ⟨i0, hi, hz0, hz1, hz2⟩ := info_parts infoInt
  have l1 := h1.few hx
  have l2 := h2.few hy
  have k0 := cy_zero x y
  go_enter Tryz.func76, Tryz.ntmps76
  go_wp2
  go_loopw [5, 6, 7] (fun v cv iv wr => ∃ (k : Nat) (c : Int), iv = .int .i64 k ∧ cv = .int .i64 c ∧ Hid (c = cy x y k) ∧ 0 ≤ c ∧ c ≤ 1 ∧ k ≤ 31 ∧ Hid (k = 0 ∨ pw (k - 1) ≤ x + y) ∧ wr.ownsRow w.heap.size 3 1 v k (dgs k (x + y)) ∧ Below w.heap.size w wr) (fun _ _ iv _ => 40 - (intOf iv).toNat)
  case atStart => exact ⟨0, 0, rfl, rfl, by unfold Hid; rw [k0]; rfl, by decide, by decide, by decide, .inl rfl, World.ownsRow_nil _ _ _ _, Below.refl _ _⟩
  case round =>
    clear k0
    obtain ⟨k, c, rfl, rfl, hc, c0, c1', hk, hn, hown, hbw⟩ := hrel
    have hz := hbw.size
    have more : Hid (k < n1 ∨ k < n2 ∨ 0 < c → pw k ≤ x + y) := by
      intro h
      rcases h with h | h | h
      · have := h1.2 (by omega); have := pw_le (m := k) (n := n1 - 1) (by omega); omega
      · have := h2.2 (by omega); have := pw_le (m := k) (n := n2 - 1) (by omega); omega
      · exact sum_big x y k (by have := hc.out; omega)
    have fin : Hid (pw k ≤ x + y → k ≤ 30) := by
      intro h
      have e := pw_succ 30
      have := pw_lt (m := k) (n := 31) (by rw [e]; omega)
      omega
    by_cases a1 : k < n1
    · by_cases a2 : k < n2
      · obtain ⟨g1, rfl, hg1, _⟩ := h1.1.get (by omega)
        have x1 := h1.1.cell hbw a1
        obtain ⟨g2, rfl, hg2, _⟩ := h2.1.get (by omega)
        have x2 := h2.1.cell hbw a2
        have d1 := dg_bd x k
        have d2 := dg_bd y k
        obtain ⟨a, ea⟩ : ∃ a, dg x k = a := ⟨_, rfl⟩
        obtain ⟨b, eb⟩ : ∃ b, dg y k = b := ⟨_, rfl⟩
        rw [ea] at d1 x1
        rw [eb] at d2 x2
        have sd := sum_digit x y k c a b hc.out ea.symm eb.symm
        have SD : Hid (_ ∧ _) := hidden sd
        have cl := cy_le x y (k + 1)
        have CL : Hid (_ ≤ _) := hidden cl
        obtain ⟨d10, d11⟩ := d1
        obtain ⟨d20, d21⟩ := d2
        clear sd cl ea eb
        have q1 : decide (k < n1) = true := by simp; omega
        have q2 : decide (k < n2) = true := by simp; omega
        have MR := more.out (by first | exact .inl ‹_› | exact .inr (.inl ‹_›) | exact .inr (.inr ‹_›))
        have k30 := fin.out MR
        replace MR := hidden MR
        clear more fin
        go_wp2_with (at_builtin; refine wpList_append_own _ rfl (.tmp 46) (.tmp 49) _ rfl w.heap.size 3 i0 (.int .i64 0) 1 8 Tryz.underlying26 hi hz0 hz1 hz2 rfl (by decide) _ _ _ rfl (hown.alloc _) ⟨wr.heap.size, 0, none⟩ 1 1 [.int .i64 ((c + a + b) % 268435456)] rfl rfl (one_new _ _ _) (one_cell _) (by unfold maxLen; omega) (by omega) (by simp; omega) ?_; intro v' w1 hown' hgrow _)
        go_wp2
        go_roundw
        case rel =>
          have R := app_rel hbw hown hown' hgrow SD.out.1
          exact ⟨k + 1, _, by go_num, rfl, SD.out.2, by omega, by have := SD.out.2; have := CL.out; omega, by omega, .inr MR.out, R.1, R.2⟩
        case measure => simp [intOf]; omega
      · obtain ⟨g1, rfl, hg1, _⟩ := h1.1.get (by omega)
        have x1 := h1.1.cell hbw a1
        have d1 := dg_bd x k
        have d2 := dg_bd y k
        obtain ⟨a, ea⟩ : ∃ a, dg x k = a := ⟨_, rfl⟩
        obtain ⟨b, eb⟩ : ∃ b, dg y k = b := ⟨_, rfl⟩
        rw [ea] at d1 x1
        rw [eb] at d2
        have e2 : b = 0 := by rw [← eb]; exact dg_out (Nat.lt_of_lt_of_le h2.1.1 (pw_le (by omega)))
        have sd := sum_digit x y k c a b hc.out ea.symm eb.symm
        rw [show c + a + b = c + a by omega] at sd
        have SD : Hid (_ ∧ _) := hidden sd
        have cl := cy_le x y (k + 1)
        have CL : Hid (_ ≤ _) := hidden cl
        obtain ⟨d10, d11⟩ := d1
        obtain ⟨d20, d21⟩ := d2
        clear sd cl ea eb e2
        have q1 : decide (k < n1) = true := by simp; omega
        have q2 : decide (k < n2) = false := by simp; omega
        have MR := more.out (by first | exact .inl ‹_› | exact .inr (.inl ‹_›) | exact .inr (.inr ‹_›))
        have k30 := fin.out MR
        replace MR := hidden MR
        clear more fin
        go_wp2_with (at_builtin; refine wpList_append_own _ rfl (.tmp 46) (.tmp 49) _ rfl w.heap.size 3 i0 (.int .i64 0) 1 8 Tryz.underlying26 hi hz0 hz1 hz2 rfl (by decide) _ _ _ rfl (hown.alloc _) ⟨wr.heap.size, 0, none⟩ 1 1 [.int .i64 ((c + a) % 268435456)] rfl rfl (one_new _ _ _) (one_cell _) (by unfold maxLen; omega) (by omega) (by simp; omega) ?_; intro v' w1 hown' hgrow _)
        go_wp2
        go_roundw
        case rel =>
          have R := app_rel hbw hown hown' hgrow SD.out.1
          exact ⟨k + 1, _, by go_num, rfl, SD.out.2, by omega, by have := SD.out.2; have := CL.out; omega, by omega, .inr MR.out, R.1, R.2⟩
        case measure => simp [intOf]; omega
    · by_cases a2 : k < n2
      · obtain ⟨g2, rfl, hg2, _⟩ := h2.1.get (by omega)
        have x2 := h2.1.cell hbw a2
        have d1 := dg_bd x k
        have d2 := dg_bd y k
        obtain ⟨a, ea⟩ : ∃ a, dg x k = a := ⟨_, rfl⟩
        obtain ⟨b, eb⟩ : ∃ b, dg y k = b := ⟨_, rfl⟩
        rw [ea] at d1
        rw [eb] at d2 x2
        have e1 : a = 0 := by rw [← ea]; exact dg_out (Nat.lt_of_lt_of_le h1.1.1 (pw_le (by omega)))
        have sd := sum_digit x y k c a b hc.out ea.symm eb.symm
        rw [show c + a + b = c + b by omega] at sd
        have SD : Hid (_ ∧ _) := hidden sd
        have cl := cy_le x y (k + 1)
        have CL : Hid (_ ≤ _) := hidden cl
        obtain ⟨d10, d11⟩ := d1
        obtain ⟨d20, d21⟩ := d2
        clear sd cl ea eb e1
        have q1 : decide (k < n1) = false := by simp; omega
        have q2 : decide (k < n2) = true := by simp; omega
        have MR := more.out (by first | exact .inl ‹_› | exact .inr (.inl ‹_›) | exact .inr (.inr ‹_›))
        have k30 := fin.out MR
        replace MR := hidden MR
        clear more fin
        go_wp2_with (at_builtin; refine wpList_append_own _ rfl (.tmp 46) (.tmp 49) _ rfl w.heap.size 3 i0 (.int .i64 0) 1 8 Tryz.underlying26 hi hz0 hz1 hz2 rfl (by decide) _ _ _ rfl (hown.alloc _) ⟨wr.heap.size, 0, none⟩ 1 1 [.int .i64 ((c + b) % 268435456)] rfl rfl (one_new _ _ _) (one_cell _) (by unfold maxLen; omega) (by omega) (by simp; omega) ?_; intro v' w1 hown' hgrow _)
        go_wp2
        go_roundw
        case rel =>
          have R := app_rel hbw hown hown' hgrow SD.out.1
          exact ⟨k + 1, _, by go_num, rfl, SD.out.2, by omega, by have := SD.out.2; have := CL.out; omega, by omega, .inr MR.out, R.1, R.2⟩
        case measure => simp [intOf]; omega
      · by_cases a3 : 0 < c
        · have d1 := dg_bd x k
          have d2 := dg_bd y k
          obtain ⟨a, ea⟩ : ∃ a, dg x k = a := ⟨_, rfl⟩
          obtain ⟨b, eb⟩ : ∃ b, dg y k = b := ⟨_, rfl⟩
          rw [ea] at d1
          rw [eb] at d2
          have e1 : a = 0 := by rw [← ea]; exact dg_out (Nat.lt_of_lt_of_le h1.1.1 (pw_le (by omega)))
          have e2 : b = 0 := by rw [← eb]; exact dg_out (Nat.lt_of_lt_of_le h2.1.1 (pw_le (by omega)))
          have sd := sum_digit x y k c a b hc.out ea.symm eb.symm
          rw [show c + a + b = c by omega] at sd
          have SD : Hid (_ ∧ _) := hidden sd
          have cl := cy_le x y (k + 1)
          have CL : Hid (_ ≤ _) := hidden cl
          obtain ⟨d10, d11⟩ := d1
          obtain ⟨d20, d21⟩ := d2
          clear sd cl ea eb e1 e2
          have q1 : decide (k < n1) = false := by simp; omega
          have q2 : decide (k < n2) = false := by simp; omega
          have MR := more.out (by first | exact .inl ‹_› | exact .inr (.inl ‹_›) | exact .inr (.inr ‹_›))
          have k30 := fin.out MR
          replace MR := hidden MR
          clear more fin
          go_wp2_with (at_builtin; refine wpList_append_own _ rfl (.tmp 46) (.tmp 49) _ rfl w.heap.size 3 i0 (.int .i64 0) 1 8 Tryz.underlying26 hi hz0 hz1 hz2 rfl (by decide) _ _ _ rfl (hown.alloc _) ⟨wr.heap.size, 0, none⟩ 1 1 [.int .i64 ((c) % 268435456)] rfl rfl (one_new _ _ _) (one_cell _) (by unfold maxLen; omega) (by omega) (by simp; omega) ?_; intro v' w1 hown' hgrow _)
          go_wp2
          go_roundw
          case rel =>
            have R := app_rel hbw hown hown' hgrow SD.out.1
            exact ⟨k + 1, _, by go_num, rfl, SD.out.2, by omega, by have := SD.out.2; have := CL.out; omega, by omega, .inr MR.out, R.1, R.2⟩
          case measure => simp [intOf]; omega
        · have c2 : c = 0 := by omega
          have z := sum_end x y k (Nat.lt_of_lt_of_le h1.1.1 (pw_le (by omega))) (Nat.lt_of_lt_of_le h2.1.1 (pw_le (by omega))) (by have := hc.out; omega)
          have R := hidden (DigR.own hown z)
          have q1 : decide (k < n1) = false := by simp; omega
          have q2 : decide (k < n2) = false := by simp; omega
          clear more fin z
          subst c2
          obtain ⟨A, cc, rfl, hd⟩ := R.out
          have fr := hidden (own_fresh hown)
          clear R hown
          go_wp2
          go_ret
          exact ⟨A, k, cc, rfl, ⟨hd, fun h => hn.out.resolve_left (by omega)⟩, fr.out, hbw⟩

end Go.Proofs.YtjceofmhodcefaaGreat

namespace Go.Proofs.YtjceofmhodcefaaGreat
open Go.RowKit

set_option maxRecDepth 100000 in
set_option maxHeartbeats 4000000 in
theorem trim02_any (A : Option Addr) (n c x : Nat) (w : World) (h : DigR w A n c x) (hn : n ≤ 100) :
    Calls Tryz.prog 94 #[.slice A n c] w (DigRes w x) := by
  obtain ⟨i0, hi, hz0, hz1, hz2⟩ := info_parts infoInt
  have nc := h.2.1
  go_enter Tryz.func94, Tryz.ntmps94
  go_wp2
  go_loop [3] (fun v => ∃ k : Nat, v = .int .i64 k ∧ k ≤ n ∧ Hid (x < pw k)) (fun v => (intOf v).toNat)
  case atStart => exact ⟨n, rfl, Nat.le_refl _, h.1⟩
  case round =>
    obtain ⟨k, rfl, hk, hx⟩ := hrel
    by_cases stop : k = 0 ∨ dg x (k - 1) ≠ 0
    · have N : Hid (0 < k → pw (k - 1) ≤ x) := fun hk => trim_stop (stop.resolve_left (by omega))
      rcases h.2.2 with ⟨rfl, h0⟩ | ⟨g, rfl, hg, hc⟩
      · obtain rfl : k = 0 := by omega
        obtain rfl : c = 0 := h0
        clear stop
        go_wp2_with (at_builtin; refine wpList_append_own_none rfl (.tmp 18) (.tmp 21) _ rfl w.heap.size 3 i0 1 Tryz.underlying26 hi _ 0 [] rfl (World.ownsRow_made w #[] 0 (Nat.le_refl _) (by unfold maxLen; omega) rfl) rfl ?_)
        go_ret
        exact ⟨_, 0, 0, rfl, ⟨⟨hx.out, Nat.le_refl _, .inr ⟨_, rfl, by simp, fun j hj => absurd hj (by omega)⟩⟩, N.out⟩, (fun a e => by injection e with e; subst e; exact Nat.le_refl _), by (repeat (first | exact Below.refl _ _ | refine bl_drewN ?_ | refine bl_drew ?_ | refine bl_alloc ?_ _ | refine Below.setCell ?_ (by (first | (simp; done) | (simp; omega) | omega)) _ | refine bl_step (by assumption) ?_))⟩
      · by_cases k0 : k = 0
        · subst k0
          clear stop
          go_wp2
          go_ret
          exact ⟨_, 0, 0, rfl, ⟨⟨hx.out, Nat.le_refl _, .inr ⟨_, rfl, by simp, fun j hj => absurd hj (by omega)⟩⟩, N.out⟩, (fun a e => by injection e with e; subst e; exact Nat.le_refl _), by (repeat (first | exact Below.refl _ _ | refine bl_drewN ?_ | refine bl_drew ?_ | refine bl_alloc ?_ _ | refine Below.setCell ?_ (by (first | (simp; done) | (simp; omega) | omega)) _ | refine bl_step (by assumption) ?_))⟩
        · obtain ⟨m, rfl⟩ : ∃ m, k = m + 1 := ⟨k - 1, by omega⟩
          have d : (dg x m == 0) = false := by simpa using stop.resolve_left k0
          have x1 : w.cell? ⟨g, m, none⟩ = some (.int .i64 (dg x m)) := hc m (by omega)
          obtain ⟨a, ea⟩ : ∃ a, dg x m = a := ⟨_, rfl⟩
          rw [ea] at d x1
          clear ea stop
          go_wp2_with (at_builtin; refine wpList_append_own _ rfl (.tmp 18) (.tmp 21) _ rfl w.heap.size 3 i0 (.int .i64 0) 1 8 Tryz.underlying26 hi hz0 hz1 hz2 rfl (by decide) (.slice (some ⟨w.heap.size, 0, none⟩) 0 0) 0 [] rfl (World.ownsRow_made w #[] 0 (Nat.le_refl _) (by unfold maxLen; omega) rfl) ⟨g, 0, none⟩ (m + 1) c (dgs (m + 1) x) rfl (by simp [dgs]) (dgs_new h ((Below.refl _ _).alloc (Nat.le_refl _) _) hk) (dgs_one _ _) (by unfold maxLen; omega) (by omega) (by simp) ?_; intro v' w1 hown' hgrow _)
          have R := hidden (DigR.own (by simpa using hown') hx.out)
          have hb : Below w.heap.size w w1 := Below.grown ((Below.refl _ _).alloc (Nat.le_refl _) _) hgrow (by simp) (fun j hj => Nat.le_of_eq (by simpa [Value.ownBlock] using hj))
          clear hgrow
          obtain ⟨A', c', rfl, hd⟩ := R.out
          rw [Nat.zero_add] at hown'
          have fr := hidden (own_fresh hown')
          clear R hown'
          go_wp2
          go_ret
          exact ⟨A', m + 1, c', rfl, ⟨hd, N.out⟩, fr.out, hb⟩
    · obtain ⟨m, rfl⟩ : ∃ m, k = m + 1 := ⟨k - 1, by omega⟩
      have d : dg x m = 0 := Classical.not_not.1 fun hne => stop (.inr hne)
      obtain ⟨g, rfl, hg, hc⟩ := h.get (by omega)
      have x1 : w.cell? ⟨g, m, none⟩ = some (.int .i64 (dg x m)) := hc m (by omega)
      have dn := hidden (trim_down hx.out d)
      rw [d] at x1
      clear stop d
      go_wp2
      go_round
      case rel => exact ⟨m, by go_num, by omega, dn.out⟩
      case measure => first | (simp [intOf]; done) | (simp [intOf]; omega)

end Go.Proofs.YtjceofmhodcefaaGreat

namespace Go.Proofs.YtjceofmhodcefaaGreat
open Go.RowKit

def cmpN (x y : Nat) : Int := if x < y then -1 else if y < x then 1 else 0
theorem cmpN_lt {x y : Nat} (h : x < y) : cmpN x y = -1 := by unfold cmpN; rw [if_pos h]
theorem cmpN_gt {x y : Nat} (h : y < x) : cmpN x y = 1 := by unfold cmpN; rw [if_neg (by omega), if_pos h]
theorem cmpN_eq {x y : Nat} (h : x = y) : cmpN x y = 0 := by unfold cmpN; rw [if_neg (by omega), if_neg (by omega)]
theorem div_down (x m : Nat) : (x / pw m : Int) = (x / pw (m + 1) : Nat) * 268435456 + dg x m := by
  have e : x / pw (m + 1) = x / pw m / 268435456 := by rw [pw_succ, Nat.div_div_eq_div_mul]
  unfold dg
  rw [e]
  have : ((x : Int) / (pw m : Int)) = ((x / pw m : Nat) : Int) := rfl
  rw [this]
  generalize x / pw m = d
  omega
theorem order_less {x y m : Nat} (h : x / pw (m + 1) = y / pw (m + 1)) (hd : dg x m < dg y m) : x < y := by
  have e1 := div_down x m
  have e2 := div_down y m
  rw [h] at e1
  rcases Nat.lt_or_ge x y with h1 | h1
  · exact h1
  · have h3 := Nat.div_le_div_right (c := pw m) h1
    have : ((y / pw m : Nat) : Int) ≤ ((x / pw m : Nat) : Int) := by exact_mod_cast h3
    have f1 : ((x : Int) / (pw m : Int)) = ((x / pw m : Nat) : Int) := rfl
    have f2 : ((y : Int) / (pw m : Int)) = ((y / pw m : Nat) : Int) := rfl
    rw [f1] at e1
    rw [f2] at e2
    omega
theorem order_same {x y m : Nat} (h : x / pw (m + 1) = y / pw (m + 1)) (hd : dg x m = dg y m) : x / pw m = y / pw m := by
  have e1 := div_down x m
  have e2 := div_down y m
  rw [h, hd, ← e2] at e1
  exact_mod_cast e1

set_option maxRecDepth 100000 in
set_option maxHeartbeats 4000000 in
theorem order02_any (A1 A2 : Option Addr) (n1 n2 c1 c2 x y : Nat) (w : World) (h1 : Dig w A1 n1 c1 x) (h2 : Dig w A2 n2 c2 y) (l1 : n1 ≤ 100) (l2 : n2 ≤ 100) :
    Calls Tryz.prog 77 #[.slice A1 n1 c1, .slice A2 n2 c2] w fun e w' => e = .returned (.int .i64 (cmpN x y)) ∧ Below w.heap.size w w' := by
  by_cases hl : n1 = n2
  case neg =>
    by_cases hlt : n1 < n2
    · have R := hidden (cmpN_lt (x := x) (y := y) (by have a := h1.1.1; have b := h2.2 (by omega); have := pw_le (m := n1) (n := n2 - 1) (by omega); omega))
      have d1 : ((n1 : Int) == n2) = false := by simp; omega
      have d2 : ((n1 : Int) != n2) = true := by simp; omega
      go_enter Tryz.func77, Tryz.ntmps77
      go_wp2
      go_ret
      exact ⟨by rw [R.out]; rfl, Below.refl _ _⟩
    · have R := hidden (cmpN_gt (x := x) (y := y) (by have a := h2.1.1; have b := h1.2 (by omega); have := pw_le (m := n2) (n := n1 - 1) (by omega); omega))
      have d1 : ((n1 : Int) == n2) = false := by simp; omega
      have d2 : ((n1 : Int) != n2) = true := by simp; omega
      go_enter Tryz.func77, Tryz.ntmps77
      go_wp2
      go_ret
      exact ⟨by rw [R.out]; rfl, Below.refl _ _⟩
  subst hl
  have st := hidden (show x / pw n1 = y / pw n1 by rw [Nat.div_eq_of_lt h1.1.1, Nat.div_eq_of_lt h2.1.1])
  go_enter Tryz.func77, Tryz.ntmps77
  go_wp2
  go_loopw [5] (fun iv wr => ∃ (k : Nat) (i : Int), iv = .int .i64 i ∧ Hid (i = k - 1) ∧ -1 ≤ i ∧ i < n1 ∧ Hid (x / pw k = y / pw k) ∧ Below w.heap.size w wr) (fun iv _ => (intOf iv + 1).toNat)
  case atStart => exact ⟨n1, _, rfl, rfl, by omega, by omega, st.out, Below.refl _ _⟩
  case round =>
    clear st
    obtain ⟨k, i, rfl, hi, i0, i1, hk, hbw⟩ := hrel
    by_cases hneg : i < 0
    · have R := hidden (cmpN_eq (x := x) (y := y) (by have a := hi.out; have b := hk.out; have e : k = 0 := (by omega); rw [e, pw_zero, Nat.div_one, Nat.div_one] at b; exact b))
      go_wp2
      go_ret
      exact ⟨by rw [R.out]; rfl, hbw⟩
    · obtain ⟨m, rfl⟩ : ∃ m : Nat, i = m := ⟨i.toNat, by omega⟩
      obtain rfl : k = m + 1 := by have := hi.out; omega
      obtain ⟨g1, rfl, hg1, _⟩ := h1.1.get (by omega)
      obtain ⟨g2, rfl, hg2, _⟩ := h2.1.get (by omega)
      have x1 := h1.1.cell hbw (j := m) (by omega)
      have x2 := h2.1.cell hbw (j := m) (by omega)
      have s1 : g1 < wr.heap.size := Nat.lt_of_lt_of_le hg1 hbw.size
      have s2 : g2 < wr.heap.size := Nat.lt_of_lt_of_le hg2 hbw.size
      obtain ⟨a, ea⟩ : ∃ a, dg x m = a := ⟨_, rfl⟩
      obtain ⟨b, eb⟩ : ∃ b, dg y m = b := ⟨_, rfl⟩
      rw [ea] at x1
      rw [eb] at x2
      have m1 : m < n1 := by omega
      by_cases lt : a < b
      · have R := hidden (cmpN_lt (order_less hk.out (by rw [ea, eb]; exact lt)))
        clear ea eb
        go_wp2
        refine wp_region_quiet_below (by kernel_rfl) (by kernel_rfl) ?_
        repeat (first | go_big_quiet_step (fail) | quiet_step (fail))
        refine wpQuiet_nil ?_; intro w' hw'; have hb := below_of_regrown hw'; clear hw'; (try replace hb := below_undrew hb); (try replace hb := below_undrewN hb); obtain ⟨hcell, hfroz⟩ := bcell hb; have hz := hb.size; (try simp at hz); (try (have z6 := Nat.lt_of_lt_of_le z7 hz)); (try (have z7 := Nat.lt_of_lt_of_le z8 hz)); (try (have z8 := Nat.lt_of_lt_of_le z9 hz)); (try (have z9 := Nat.lt_of_lt_of_le (Nat.lt_succ_self _) hz)); (try (have z0 : w.heap.size < w'.heap.size := by omega)); (try (have z1 : w.heap.size + 1 < w'.heap.size := by omega)); (try (have z2 : w.heap.size + 1 + 1 < w'.heap.size := by omega)); (try (have z3 : w.heap.size + 1 + 1 + 1 < w'.heap.size := by omega)); (try (have y1 : w1.heap.size < w'.heap.size := by omega))
        go_wp2
        go_ret
        exact ⟨by rw [R.out]; rfl, bl_step hb hbw⟩
      · by_cases gt : b < a
        · have R := hidden (cmpN_gt (order_less hk.out.symm (by rw [ea, eb]; exact gt)))
          clear ea eb
          go_wp2
          refine wp_region_quiet_below (by kernel_rfl) (by kernel_rfl) ?_
          repeat (first | go_big_quiet_step (fail) | quiet_step (fail))
          refine wpQuiet_nil ?_; intro w' hw'; have hb := below_of_regrown hw'; clear hw'; (try replace hb := below_undrew hb); (try replace hb := below_undrewN hb); obtain ⟨hcell, hfroz⟩ := bcell hb; have hz := hb.size; (try simp at hz); (try (have z6 := Nat.lt_of_lt_of_le z7 hz)); (try (have z7 := Nat.lt_of_lt_of_le z8 hz)); (try (have z8 := Nat.lt_of_lt_of_le z9 hz)); (try (have z9 := Nat.lt_of_lt_of_le (Nat.lt_succ_self _) hz)); (try (have z0 : w.heap.size < w'.heap.size := by omega)); (try (have z1 : w.heap.size + 1 < w'.heap.size := by omega)); (try (have z2 : w.heap.size + 1 + 1 < w'.heap.size := by omega)); (try (have z3 : w.heap.size + 1 + 1 + 1 < w'.heap.size := by omega)); (try (have y1 : w1.heap.size < w'.heap.size := by omega))
          go_wp2
          have t1 : g1 < w'.heap.size := Nat.lt_of_lt_of_le s1 hb.size
          have t2 : g2 < w'.heap.size := Nat.lt_of_lt_of_le s2 hb.size
          replace hbw := bl_step hb hbw
          obtain ⟨w1, rfl⟩ : ∃ v, v = w' := ⟨_, rfl⟩
          refine wp_region_quiet_below (by kernel_rfl) (by kernel_rfl) ?_
          repeat (first | go_big_quiet_step (fail) | quiet_step (fail))
          refine wpQuiet_nil ?_; intro w' hw'; have hb := below_of_regrown hw'; clear hw'; (try replace hb := below_undrew hb); (try replace hb := below_undrewN hb); obtain ⟨hcell, hfroz⟩ := bcell hb; have hz := hb.size; (try simp at hz); (try (have z6 := Nat.lt_of_lt_of_le z7 hz)); (try (have z7 := Nat.lt_of_lt_of_le z8 hz)); (try (have z8 := Nat.lt_of_lt_of_le z9 hz)); (try (have z9 := Nat.lt_of_lt_of_le (Nat.lt_succ_self _) hz)); (try (have z0 : w.heap.size < w'.heap.size := by omega)); (try (have z1 : w.heap.size + 1 < w'.heap.size := by omega)); (try (have z2 : w.heap.size + 1 + 1 < w'.heap.size := by omega)); (try (have z3 : w.heap.size + 1 + 1 + 1 < w'.heap.size := by omega)); (try (have y1 : w1.heap.size < w'.heap.size := by omega))
          go_wp2
          go_ret
          exact ⟨by rw [R.out]; rfl, bl_step hb hbw⟩
        · have R := hidden (order_same hk.out (by rw [ea, eb]; omega))
          clear ea eb
          go_wp2
          refine wp_region_quiet_below (by kernel_rfl) (by kernel_rfl) ?_
          repeat (first | go_big_quiet_step (fail) | quiet_step (fail))
          refine wpQuiet_nil ?_; intro w' hw'; have hb := below_of_regrown hw'; clear hw'; (try replace hb := below_undrew hb); (try replace hb := below_undrewN hb); obtain ⟨hcell, hfroz⟩ := bcell hb; have hz := hb.size; (try simp at hz); (try (have z6 := Nat.lt_of_lt_of_le z7 hz)); (try (have z7 := Nat.lt_of_lt_of_le z8 hz)); (try (have z8 := Nat.lt_of_lt_of_le z9 hz)); (try (have z9 := Nat.lt_of_lt_of_le (Nat.lt_succ_self _) hz)); (try (have z0 : w.heap.size < w'.heap.size := by omega)); (try (have z1 : w.heap.size + 1 < w'.heap.size := by omega)); (try (have z2 : w.heap.size + 1 + 1 < w'.heap.size := by omega)); (try (have z3 : w.heap.size + 1 + 1 + 1 < w'.heap.size := by omega)); (try (have y1 : w1.heap.size < w'.heap.size := by omega))
          go_wp2
          have t1 : g1 < w'.heap.size := Nat.lt_of_lt_of_le s1 hb.size
          have t2 : g2 < w'.heap.size := Nat.lt_of_lt_of_le s2 hb.size
          replace hbw := bl_step hb hbw
          obtain ⟨w1, rfl⟩ : ∃ v, v = w' := ⟨_, rfl⟩
          refine wp_region_quiet_below (by kernel_rfl) (by kernel_rfl) ?_
          repeat (first | go_big_quiet_step (fail) | quiet_step (fail))
          refine wpQuiet_nil ?_; intro w' hw'; have hb := below_of_regrown hw'; clear hw'; (try replace hb := below_undrew hb); (try replace hb := below_undrewN hb); obtain ⟨hcell, hfroz⟩ := bcell hb; have hz := hb.size; (try simp at hz); (try (have z6 := Nat.lt_of_lt_of_le z7 hz)); (try (have z7 := Nat.lt_of_lt_of_le z8 hz)); (try (have z8 := Nat.lt_of_lt_of_le z9 hz)); (try (have z9 := Nat.lt_of_lt_of_le (Nat.lt_succ_self _) hz)); (try (have z0 : w.heap.size < w'.heap.size := by omega)); (try (have z1 : w.heap.size + 1 < w'.heap.size := by omega)); (try (have z2 : w.heap.size + 1 + 1 < w'.heap.size := by omega)); (try (have z3 : w.heap.size + 1 + 1 + 1 < w'.heap.size := by omega)); (try (have y1 : w1.heap.size < w'.heap.size := by omega))
          go_wp2
          go_roundw
          case rel => exact ⟨m, _, rfl, rfl, by omega, by omega, R.out, bl_step hb hbw⟩
          case measure => first | (simp [intOf]; done) | (simp [intOf]; omega)

end Go.Proofs.YtjceofmhodcefaaGreat

namespace Go.Proofs.YtjceofmhodcefaaGreat
open Go.RowKit

/-- the digits of a difference -/
theorem less_digit (y z k : Nat) (c a b : Int) (hc : c = cy y z k) (ha : a = dg (y + z) k) (hb : b = dg y k) :
    (a - c - b < 0 → a - c - b + 268435456 = dg z k ∧ (1 : Int) = cy y z (k + 1)) ∧ (0 ≤ a - c - b → a - c - b = dg z k ∧ (0 : Int) = cy y z (k + 1)) := by
  have h := sum_digit y z k c b (dg z k) hc hb rfl
  have hz := dg_bd z k
  have hy := dg_bd y k
  have c1 := cy_le y z k
  rw [← ha] at h
  obtain ⟨h1, h2⟩ := h
  rw [← h2]
  rw [← hb] at hy
  generalize dg z k = d at *
  omega

set_option maxRecDepth 100000 in
set_option maxHeartbeats 4000000 in
theorem less02_add (A1 A2 : Option Addr) (n1 n2 c1 c2 y z : Nat) (w : World) (h1 : Dig w A1 n1 c1 (y + z)) (h2 : Dig w A2 n2 c2 y) (l1 : n1 ≤ 100) :
    Calls Tryz.prog 79 #[.slice A1 n1 c1, .slice A2 n2 c2] w (DigRes w z) := by
  obtain ⟨i0, hi, hz0, hz1, hz2⟩ := info_parts infoInt
  have l2 := h2.few (m := n1) (by have := h1.1.1; omega)
  have k0 := cy_zero y z
  go_enter Tryz.func79, Tryz.ntmps79
  go_wp2
  go_loopw [5, 6, 7] (fun v cv iv wr => ∃ (k : Nat) (c : Int), iv = .int .i64 k ∧ cv = .int .i64 c ∧ Hid (c = cy y z k) ∧ 0 ≤ c ∧ c ≤ 1 ∧ k ≤ n1 ∧ wr.ownsRow w.heap.size 3 1 v k (dgs k z) ∧ Below w.heap.size w wr) (fun _ _ iv _ => n1 - (intOf iv).toNat)
  case atStart => exact ⟨0, 0, rfl, rfl, by unfold Hid; rw [k0]; rfl, by decide, by decide, by omega, World.ownsRow_nil _ _ _ _, Below.refl _ _⟩
  case round =>
    clear k0
    obtain ⟨k, c, rfl, rfl, hc, c0, c1', hk, hown, hbw⟩ := hrel
    have hz := hbw.size
    by_cases a1 : k < n1
    · obtain ⟨g1, rfl, hg1, _⟩ := h1.1.get (by omega)
      have x1 := h1.1.cell hbw a1
      have d1 := dg_bd (y + z) k
      have d2 := dg_bd y k
      obtain ⟨a, ea⟩ : ∃ a, dg (y + z) k = a := ⟨_, rfl⟩
      obtain ⟨b, eb⟩ : ∃ b, dg y k = b := ⟨_, rfl⟩
      rw [ea] at d1 x1
      rw [eb] at d2
      obtain ⟨d10, d11⟩ := d1
      obtain ⟨d20, d21⟩ := d2
      have ld := hidden (less_digit y z k c a b hc.out ea.symm eb.symm)
      have q1 : decide (k < n1) = true := by simp; omega
      by_cases a2 : k < n2
      · by_cases neg : a - c - b < 0
        · have LD := hidden (ld.out.1 neg)
          clear ld
          obtain ⟨g2, rfl, hg2, _⟩ := h2.1.get (by omega)
          have x2 := h2.1.cell hbw a2
          rw [eb] at x2
          have q2 : decide (k < n2) = true := by simp; omega
          clear ea eb
          go_wp2_with (at_builtin; refine wpList_append_own _ rfl (.tmp 35) (.tmp 37) _ rfl w.heap.size 3 i0 (.int .i64 0) 1 8 Tryz.underlying26 hi hz0 hz1 hz2 rfl (by decide) _ _ _ rfl (hown.alloc _) ⟨wr.heap.size, 0, none⟩ 1 1 [.int .i64 (a - c - b + 268435456)] rfl rfl (one_new _ _ _) (one_cell _) (by unfold maxLen; omega) (by omega) (by simp; omega) ?_; intro v' w1 hown' hgrow _)
          go_wp2
          go_roundw
          case rel =>
            have R := app_rel hbw hown hown' hgrow LD.out.1
            exact ⟨k + 1, _, by go_num, rfl, LD.out.2, by omega, by omega, by omega, R.1, R.2⟩
          case measure => first | (simp [intOf]; done) | (simp [intOf]; omega)
        · have LD := hidden (ld.out.2 (by omega))
          clear ld
          obtain ⟨g2, rfl, hg2, _⟩ := h2.1.get (by omega)
          have x2 := h2.1.cell hbw a2
          rw [eb] at x2
          have q2 : decide (k < n2) = true := by simp; omega
          clear ea eb
          go_wp2_with (at_builtin; refine wpList_append_own _ rfl (.tmp 35) (.tmp 37) _ rfl w.heap.size 3 i0 (.int .i64 0) 1 8 Tryz.underlying26 hi hz0 hz1 hz2 rfl (by decide) _ _ _ rfl (hown.alloc _) ⟨wr.heap.size, 0, none⟩ 1 1 [.int .i64 (a - c - b)] rfl rfl (one_new _ _ _) (one_cell _) (by unfold maxLen; omega) (by omega) (by simp; omega) ?_; intro v' w1 hown' hgrow _)
          go_wp2
          go_roundw
          case rel =>
            have R := app_rel hbw hown hown' hgrow LD.out.1
            exact ⟨k + 1, _, by go_num, rfl, LD.out.2, by omega, by omega, by omega, R.1, R.2⟩
          case measure => first | (simp [intOf]; done) | (simp [intOf]; omega)
      · have e2 : b = 0 := by rw [← eb]; exact dg_out (Nat.lt_of_lt_of_le h2.1.1 (pw_le (by omega)))
        subst e2
        by_cases neg : a - c < 0
        · have LD := ld.out.1 (by omega)
          rw [Int.sub_zero] at LD
          replace LD := hidden LD
          clear ld
          have q2 : decide (k < n2) = false := by simp; omega
          clear ea eb
          go_wp2_with (at_builtin; refine wpList_append_own _ rfl (.tmp 35) (.tmp 37) _ rfl w.heap.size 3 i0 (.int .i64 0) 1 8 Tryz.underlying26 hi hz0 hz1 hz2 rfl (by decide) _ _ _ rfl (hown.alloc _) ⟨wr.heap.size, 0, none⟩ 1 1 [.int .i64 (a - c + 268435456)] rfl rfl (one_new _ _ _) (one_cell _) (by unfold maxLen; omega) (by omega) (by simp; omega) ?_; intro v' w1 hown' hgrow _)
          go_wp2
          go_roundw
          case rel =>
            have R := app_rel hbw hown hown' hgrow LD.out.1
            exact ⟨k + 1, _, by go_num, rfl, LD.out.2, by omega, by omega, by omega, R.1, R.2⟩
          case measure => first | (simp [intOf]; done) | (simp [intOf]; omega)
        · have LD := ld.out.2 (by omega)
          rw [Int.sub_zero] at LD
          replace LD := hidden LD
          clear ld
          have q2 : decide (k < n2) = false := by simp; omega
          clear ea eb
          go_wp2_with (at_builtin; refine wpList_append_own _ rfl (.tmp 35) (.tmp 37) _ rfl w.heap.size 3 i0 (.int .i64 0) 1 8 Tryz.underlying26 hi hz0 hz1 hz2 rfl (by decide) _ _ _ rfl (hown.alloc _) ⟨wr.heap.size, 0, none⟩ 1 1 [.int .i64 (a - c)] rfl rfl (one_new _ _ _) (one_cell _) (by unfold maxLen; omega) (by omega) (by simp; omega) ?_; intro v' w1 hown' hgrow _)
          go_wp2
          go_roundw
          case rel =>
            have R := app_rel hbw hown hown' hgrow LD.out.1
            exact ⟨k + 1, _, by go_num, rfl, LD.out.2, by omega, by omega, by omega, R.1, R.2⟩
          case measure => first | (simp [intOf]; done) | (simp [intOf]; omega)
    · obtain rfl : k = n1 := by omega
      have q1 : decide (k < k) = false := by simp
      have R := hidden (DigR.own hown (x := z) (by have := h1.1.1; omega))
      obtain ⟨A, cc, rfl, hd⟩ := R.out
      clear R hown
      have T := hidden (trim02_any A k cc z wr hd l1)
      go_wp2_with (go_at_call 94; ((with_reducible refine T.out.mono ?_); rintro e w' ⟨A', n', c', rfl, hd', fr, hb⟩); have FR := hidden fr; clear fr; (try replace hb := below_undrew hb); (try replace hb := below_undrewN hb); obtain ⟨hcell, hfroz⟩ := bcell hb; have hz := hb.size; (try simp at hz); (try (have z6 := Nat.lt_of_lt_of_le z7 hz)); (try (have z7 := Nat.lt_of_lt_of_le z8 hz)); (try (have z8 := Nat.lt_of_lt_of_le z9 hz)); (try (have z9 := Nat.lt_of_lt_of_le (Nat.lt_succ_self _) hz)); (try (have z0 : w.heap.size < w'.heap.size := by omega)); (try (have z1 : w.heap.size + 1 < w'.heap.size := by omega)); (try (have z2 : w.heap.size + 1 + 1 < w'.heap.size := by omega)); (try (have z3 : w.heap.size + 1 + 1 + 1 < w'.heap.size := by omega)))
      go_ret
      exact ⟨A', n', c', rfl, hd', FR.out.le hbw.size, bl_step hb hbw⟩

end Go.Proofs.YtjceofmhodcefaaGreat

namespace Go.Proofs.YtjceofmhodcefaaGreat
open Go.RowKit

/-- a number: its digits and its sign -/
def NumRes (w : World) (z : Int) (e : Ending) (w' : World) : Prop := ∃ A n c b, e = .returned (.agg #[.slice A n c, .bool b]) ∧ Dig w' A n c z.natAbs ∧ b = decide (z < 0) ∧ Fr w.heap.size A ∧ Below w.heap.size w w'
theorem tdiv_digit (m : Int) (N k : Nat) (h : m.natAbs = N / pw k) : (m.tmod 268435456).natAbs = (dg N k).natAbs ∧ (m.tdiv 268435456).natAbs = N / pw (k + 1) := by
  have e : N / pw (k + 1) = N / pw k / 268435456 := by rw [pw_succ, Nat.div_div_eq_div_mul]
  rw [e, ← h, Int.natAbs_tdiv, Int.natAbs_tmod]
  unfold dg
  rw [← h]
  exact ⟨by simp; omega, rfl⟩
theorem tdiv_sign (m : Int) : (0 ≤ m → 0 ≤ m.tdiv 268435456 ∧ m.tdiv 268435456 ≤ m ∧ 0 ≤ m.tmod 268435456) ∧ (m ≤ 0 → m ≤ m.tdiv 268435456 ∧ m.tdiv 268435456 ≤ 0 ∧ m.tmod 268435456 ≤ 0) := by
  constructor
  · intro h
    rw [Int.tdiv_eq_ediv_of_nonneg h, Int.tmod_eq_emod_of_nonneg h]
    omega
  · intro h
    have e : m = -(-m) := by omega
    rw [e, Int.neg_tdiv, Int.neg_tmod, Int.tdiv_eq_ediv_of_nonneg (by omega), Int.tmod_eq_emod_of_nonneg (by omega)]
    omega
theorem grown_keep {W w1 : World} {row : Option Nat} (hg : W.grownBy w1 row) {b : Nat} (hb : b < W.heap.size) (hn : some b ≠ row) :
    (∀ o, w1.cell? ⟨b, o, none⟩ = W.cell? ⟨b, o, none⟩) ∧ (∀ o, w1.frozen? ⟨b, o, none⟩ = W.frozen? ⟨b, o, none⟩) := by
  have h := hg.block b hb hn
  exact ⟨fun o => World.cell?_of_block (a := ⟨b, o, none⟩) h, fun o => by simp [World.frozen?, h]⟩
theorem own_form {w : World} {base n : Nat} {e : TypeId} {v : Value} {xs : List Value} (h : w.ownsRow base e 1 v n xs) : ∃ A c, v = .slice A n c := by
  rcases h.2 with ⟨rfl, rfl⟩ | ⟨g, cap, cur, rfl, _⟩
  · exact ⟨none, 0, rfl⟩
  · exact ⟨_, _, rfl⟩
/-- the two blocks that hold numbers, while the first one is filled -/
def OI (w wr : World) (A : Option Addr) (c k N : Nat) (b : Bool) : Prop :=
  wr.cell? ⟨w.heap.size + 1, 0, none⟩ = some (.slice A k c) ∧ wr.cell? ⟨w.heap.size + 1, 1, none⟩ = some (.bool b) ∧ (∀ o, wr.frozen? ⟨w.heap.size + 1, o, none⟩ = false) ∧
  wr.cell? ⟨w.heap.size, 0, none⟩ = some (.slice none 0 0) ∧ wr.cell? ⟨w.heap.size, 1, none⟩ = some (.bool false) ∧ (∀ o, wr.frozen? ⟨w.heap.size, o, none⟩ = false) ∧
  wr.ownsRow (w.heap.size + 2) 3 1 (.slice A k c) k (dgs k N) ∧ Below w.heap.size w wr ∧ w.heap.size + 2 ≤ wr.heap.size
theorem oi_app {w wr w1 : World} {A : Option Addr} {c k N : Nat} {b : Bool} {v' : Value} {u : Int} {o : Obj} (h : OI w wr A c k N b)
    (hown' : w1.ownsRow (w.heap.size + 2) 3 1 v' (k + 1) (dgs k N ++ [.int .i64 u])) (hg : (wr.alloc o).grownBy w1 (Value.slice A k c).ownBlock) (hu : u = dg N k) :
    ∃ A' c', v' = .slice A' (k + 1) c' ∧ w1.cell? ⟨w.heap.size + 1, 0, none⟩ = some (.slice A k c) ∧ (∀ o, w1.frozen? ⟨w.heap.size + 1, o, none⟩ = false) ∧ OI w (w1.setCell ⟨w.heap.size + 1, 0, none⟩ (.slice A' (k + 1) c')) A' c' (k + 1) N b := by
  obtain ⟨h0, h1, h2, h3, h4, h5, h6, h7, h8⟩ := h
  have s : (wr.alloc o).heap.size = wr.heap.size + 1 := by simp
  have n1 : some (w.heap.size + 1) ≠ (Value.slice A k c).ownBlock := fun e => by have := (h6.lt _ e.symm).1; omega
  have n0 : some w.heap.size ≠ (Value.slice A k c).ownBlock := fun e => by have := (h6.lt _ e.symm).1; omega
  have K1 := grown_keep hg (b := w.heap.size + 1) (by omega) n1
  have K0 := grown_keep hg (b := w.heap.size) (by omega) n0
  have z1 : w.heap.size + 1 < wr.heap.size := by omega
  have z0 : w.heap.size < wr.heap.size := by omega
  obtain ⟨A', c', rfl⟩ := own_form hown'
  have g0 := (K1.1 0).trans ((World.cell?_alloc_lt wr o ⟨w.heap.size + 1, 0, none⟩ z1).trans h0)
  have g1 := (K1.1 1).trans ((World.cell?_alloc_lt wr o ⟨w.heap.size + 1, 1, none⟩ z1).trans h1)
  have g3 := (K0.1 0).trans ((World.cell?_alloc_lt wr o ⟨w.heap.size, 0, none⟩ z0).trans h3)
  have g4 := (K0.1 1).trans ((World.cell?_alloc_lt wr o ⟨w.heap.size, 1, none⟩ z0).trans h4)
  have g2 : ∀ o, w1.frozen? ⟨w.heap.size + 1, o, none⟩ = false := fun p => (K1.2 p).trans (((((Below.refl wr.heap.size wr).alloc (Nat.le_refl _) o).frozen (p := ⟨w.heap.size + 1, p, none⟩) z1)).trans (h2 p))
  have g5 : ∀ o, w1.frozen? ⟨w.heap.size, o, none⟩ = false := fun p => (K0.2 p).trans (((((Below.refl wr.heap.size wr).alloc (Nat.le_refl _) o).frozen (p := ⟨w.heap.size, p, none⟩) z0)).trans (h5 p))
  have sz := hg.size
  refine ⟨A', c', rfl, g0, g2, by simp [go_sem, g0], by simp [go_sem, g1], fun p => by simpa using g2 p, by simp [go_sem, g3], by simp [go_sem, g4], fun p => by simpa using g5 p, ?_, ?_, by simp; omega⟩
  · rw [dgs_succ, ← hu]
    exact ownsRow_setCell_below hown' (by simp) _
  · exact (Below.grown (bl_alloc h7 o) hg (bl_alloc h7 o).size (fun j hj => by have := (h6.lt j hj).1; omega)).setCell (by simp) _

set_option maxRecDepth 100000 in
set_option maxHeartbeats 4000000 in
theorem ofint02_pos (n : Int) (w : World) (hs : 0 ≤ n) (_n0 : -9223372036854775808 ≤ n) (n1 : n ≤ 9223372036854775807) :
    Calls Tryz.prog 53 #[.int .i64 n] w (NumRes w n) := by
  obtain ⟨i0, hi, hz0, hz1, hz2⟩ := info_parts infoInt
  have big : Hid (n.natAbs < pw 3) := by
    unfold Hid
    rw [show pw 3 = 19342813113834066795298816 by decide]
    omega
  obtain ⟨N, eN⟩ : ∃ N, n.natAbs = N := ⟨_, rfl⟩
  have hN := hidden eN
  have bd : decide (n < 0) = false := by simp; omega
  have st : n.natAbs = N / pw 0 := by rw [pw_zero, Nat.div_one]; exact eN
  rw [eN] at big
  clear eN
  have ST := hidden st
  clear st
  go_enter Tryz.func53, Tryz.ntmps53
  go_wp2
  go_loopw [0] (fun nv wr => ∃ (k : Nat) (m : Int) (A : Option Addr) (c : Nat), nv = .int .i64 m ∧ 0 ≤ m ∧ m ≤ 9223372036854775807 ∧ Hid (m.natAbs = N / pw k) ∧ Hid (k = 0 ∨ pw (k - 1) ≤ N) ∧ k ≤ 3 ∧ OI w wr A c k N false) (fun nv _ => (intOf nv).natAbs)
  case atStart =>
    exact ⟨0, n, none, 0, rfl, by omega, by omega, ST.out, .inl rfl, by omega, by simp [go_sem], by simp [go_sem], fun o => by simp [go_sem], by simp [go_sem], by simp [go_sem], fun o => by simp [go_sem], World.ownsRow_nil _ _ _ _, by (repeat (first | exact Below.refl _ _ | refine bl_drewN ?_ | refine bl_drew ?_ | refine bl_alloc ?_ _ | refine Below.setCell ?_ (by (first | (simp; done) | (simp; omega) | omega)) _ | refine bl_step (by assumption) ?_)), by simp⟩
  case round =>
    clear ST
    obtain ⟨k, m, A, c, rfl, m0, m1, hm, hn, hk, hoi⟩ := hrel
    have OIH := hidden hoi
    obtain ⟨h0, h1, h2, h3, h4, h5, h6, h7, h8⟩ := hoi
    by_cases z : m = 0
    · subst z
      have R : Hid (N < pw k) := by
        have a := hm.out
        have p := pw_pos k
        rcases Nat.lt_or_ge N (pw k) with q | q
        · exact q
        · have := Nat.div_pos q p; simp at a; omega
      clear hm big
      go_wp2
      exact bodyPost_ret (v := .agg #[.slice A k c, .bool false]) (by first | (simp only [results, Tryz.results53]; go_simp; done) | simp [results, Tryz.results53, go_sem, *]) rfl ⟨A, k, c, _, rfl, by rw [hN.out]; exact ⟨own_dig (ownsRow_setCell_below (ownsRow_setCell_below h6 (by simp) _) (by simp) _) R.out, fun h => hn.out.resolve_left (by omega)⟩, by rw [bd], (own_fresh h6).le (by omega), by (repeat (first | exact Below.refl _ _ | refine bl_drewN ?_ | refine bl_drew ?_ | refine bl_alloc ?_ _ | refine Below.setCell ?_ (by (first | (simp; done) | (simp; omega) | omega)) _ | refine bl_step (by assumption) ?_))⟩
    · have td := tdiv_digit m N k hm.out
      have ts := tdiv_sign m
      have big2 : Hid (pw k ≤ N) := by
        have a := hm.out
        rcases Nat.lt_or_ge N (pw k) with q | q
        · rw [Nat.div_eq_of_lt q] at a; omega
        · exact q
      have k2 : k ≤ 2 := by
        have := pw_lt (m := k) (n := 3) (by have := big.out; have := big2.out; omega)
        omega
      have db := dg_bd N k
      obtain ⟨t, et⟩ : ∃ t, m.tmod 268435456 = t := ⟨_, rfl⟩
      obtain ⟨q, eq⟩ : ∃ q, m.tdiv 268435456 = q := ⟨_, rfl⟩
      have qm : q.natAbs < m.natAbs := by rw [← eq, Int.natAbs_tdiv]; exact Nat.div_lt_self (by omega) (by decide)
      rw [et, eq] at td ts
      obtain ⟨a, ea⟩ : ∃ a, dg N k = a := ⟨_, rfl⟩
      rw [ea] at td db
      have ts1 := ts.1 (by omega)
      obtain ⟨ts2, ts3, ts4⟩ := ts1
      have ta : t = a := by omega
      have am : a ≤ 9223372036854775807 := by omega
      have TD := hidden td.2
      have EA := hidden ea
      have nz : (m != 0) = true := by simpa using z
      clear td ts db ea hm hn z
      subst ta
      have et2 : m % 268435456 = t := by rw [← et, Int.tmod_eq_emod_of_nonneg m0]
      have eq2 : m / 268435456 = q := by rw [← eq, Int.tdiv_eq_ediv_of_nonneg m0]
      clear et eq
      go_wp2_with (at_builtin; refine wpList_append_own _ rfl (.tmp 17) (.tmp 19) _ rfl (w.heap.size + 2) 3 i0 (.int .i64 0) 1 8 Tryz.underlying26 hi hz0 hz1 hz2 rfl (by decide) (.slice A k c) k (dgs k N) rfl (h6.alloc _) ⟨wr.heap.size, 0, none⟩ 1 1 [.int .i64 t] rfl rfl (one_new _ _ _) (one_cell _) (by unfold maxLen; omega) (by omega) (by simp; omega) ?_; intro v' w1 hown' hgrow _; obtain ⟨A', c', rfl, y0, y2, hoi2⟩ := oi_app OIH.out hown' hgrow EA.out.symm; replace hoi2 := hidden hoi2; clear hown' hgrow)
      go_wp2
      go_roundw
      case rel => exact ⟨k + 1, q, A', c', by first | rfl | rw [eq2], by omega, by omega, TD.out, .inr big2.out, by omega, hoi2.out⟩
      case measure => first | (simpa [intOf] using qm) | (rw [← eq2] at qm; simpa [intOf] using qm)
set_option maxRecDepth 100000 in
set_option maxHeartbeats 4000000 in
theorem ofint02_neg (n : Int) (w : World) (hs : n < 0) (n0 : -9223372036854775808 ≤ n) (_n1 : n ≤ 9223372036854775807) :
    Calls Tryz.prog 53 #[.int .i64 n] w (NumRes w n) := by
  obtain ⟨i0, hi, hz0, hz1, hz2⟩ := info_parts infoInt
  have big : Hid (n.natAbs < pw 3) := by
    unfold Hid
    rw [show pw 3 = 19342813113834066795298816 by decide]
    omega
  obtain ⟨N, eN⟩ : ∃ N, n.natAbs = N := ⟨_, rfl⟩
  have hN := hidden eN
  have bd : decide (n < 0) = true := by simp; omega
  have st : n.natAbs = N / pw 0 := by rw [pw_zero, Nat.div_one]; exact eN
  rw [eN] at big
  clear eN
  have ST := hidden st
  clear st
  go_enter Tryz.func53, Tryz.ntmps53
  go_wp2
  go_loopw [0] (fun nv wr => ∃ (k : Nat) (m : Int) (A : Option Addr) (c : Nat), nv = .int .i64 m ∧ -9223372036854775808 ≤ m ∧ m ≤ 0 ∧ Hid (m.natAbs = N / pw k) ∧ Hid (k = 0 ∨ pw (k - 1) ≤ N) ∧ k ≤ 3 ∧ OI w wr A c k N true) (fun nv _ => (intOf nv).natAbs)
  case atStart =>
    exact ⟨0, n, none, 0, rfl, by omega, by omega, ST.out, .inl rfl, by omega, by simp [go_sem], by simp [go_sem], fun o => by simp [go_sem], by simp [go_sem], by simp [go_sem], fun o => by simp [go_sem], World.ownsRow_nil _ _ _ _, by (repeat (first | exact Below.refl _ _ | refine bl_drewN ?_ | refine bl_drew ?_ | refine bl_alloc ?_ _ | refine Below.setCell ?_ (by (first | (simp; done) | (simp; omega) | omega)) _ | refine bl_step (by assumption) ?_)), by simp⟩
  case round =>
    clear ST
    obtain ⟨k, m, A, c, rfl, m0, m1, hm, hn, hk, hoi⟩ := hrel
    have OIH := hidden hoi
    obtain ⟨h0, h1, h2, h3, h4, h5, h6, h7, h8⟩ := hoi
    by_cases z : m = 0
    · subst z
      have R : Hid (N < pw k) := by
        have a := hm.out
        have p := pw_pos k
        rcases Nat.lt_or_ge N (pw k) with q | q
        · exact q
        · have := Nat.div_pos q p; simp at a; omega
      clear hm big
      go_wp2
      exact bodyPost_ret (v := .agg #[.slice A k c, .bool true]) (by first | (simp only [results, Tryz.results53]; go_simp; done) | simp [results, Tryz.results53, go_sem, *]) rfl ⟨A, k, c, _, rfl, by rw [hN.out]; exact ⟨own_dig (ownsRow_setCell_below (ownsRow_setCell_below h6 (by simp) _) (by simp) _) R.out, fun h => hn.out.resolve_left (by omega)⟩, by rw [bd], (own_fresh h6).le (by omega), by (repeat (first | exact Below.refl _ _ | refine bl_drewN ?_ | refine bl_drew ?_ | refine bl_alloc ?_ _ | refine Below.setCell ?_ (by (first | (simp; done) | (simp; omega) | omega)) _ | refine bl_step (by assumption) ?_))⟩
    · have td := tdiv_digit m N k hm.out
      have ts := tdiv_sign m
      have big2 : Hid (pw k ≤ N) := by
        have a := hm.out
        rcases Nat.lt_or_ge N (pw k) with q | q
        · rw [Nat.div_eq_of_lt q] at a; omega
        · exact q
      have k2 : k ≤ 2 := by
        have := pw_lt (m := k) (n := 3) (by have := big.out; have := big2.out; omega)
        omega
      have db := dg_bd N k
      obtain ⟨t, et⟩ : ∃ t, m.tmod 268435456 = t := ⟨_, rfl⟩
      obtain ⟨q, eq⟩ : ∃ q, m.tdiv 268435456 = q := ⟨_, rfl⟩
      have qm : q.natAbs < m.natAbs := by rw [← eq, Int.natAbs_tdiv]; exact Nat.div_lt_self (by omega) (by decide)
      rw [et, eq] at td ts
      obtain ⟨a, ea⟩ : ∃ a, dg N k = a := ⟨_, rfl⟩
      rw [ea] at td db
      have ts1 := ts.2 (by omega)
      obtain ⟨ts2, ts3, ts4⟩ := ts1
      have ta : -t = a := by omega
      have am : a ≤ 9223372036854775807 := by omega
      have TD := hidden td.2
      have EA := hidden ea
      have nz : (m != 0) = true := by simpa using z
      clear td ts db ea hm hn z
      have ta2 : t = -a := by omega
      have ta0 : 0 ≤ a := by omega
      subst ta2
      clear ta
      by_cases az : a = 0
      · subst az
        go_wp2_with (at_builtin; refine wpList_append_own _ rfl (.tmp 17) (.tmp 19) _ rfl (w.heap.size + 2) 3 i0 (.int .i64 0) 1 8 Tryz.underlying26 hi hz0 hz1 hz2 rfl (by decide) (.slice A k c) k (dgs k N) rfl (h6.alloc _) ⟨wr.heap.size, 0, none⟩ 1 1 [.int .i64 0] rfl rfl (one_new _ _ _) (one_cell _) (by unfold maxLen; omega) (by omega) (by simp; omega) ?_; intro v' w1 hown' hgrow _; obtain ⟨A', c', rfl, y0, y2, hoi2⟩ := oi_app OIH.out hown' hgrow EA.out.symm; replace hoi2 := hidden hoi2; clear hown' hgrow)
        go_wp2
        go_roundw
        case rel => exact ⟨k + 1, q, A', c', by first | rfl | rw [eq2], by omega, by omega, TD.out, .inr big2.out, by omega, hoi2.out⟩
        case measure => first | (simpa [intOf] using qm) | (rw [← eq2] at qm; simpa [intOf] using qm)
      · have an : -a < 0 := by omega
        go_wp2_with (at_builtin; refine wpList_append_own _ rfl (.tmp 17) (.tmp 19) _ rfl (w.heap.size + 2) 3 i0 (.int .i64 0) 1 8 Tryz.underlying26 hi hz0 hz1 hz2 rfl (by decide) (.slice A k c) k (dgs k N) rfl (h6.alloc _) ⟨wr.heap.size, 0, none⟩ 1 1 [.int .i64 a] rfl rfl (one_new _ _ _) (one_cell _) (by unfold maxLen; omega) (by omega) (by simp; omega) ?_; intro v' w1 hown' hgrow _; obtain ⟨A', c', rfl, y0, y2, hoi2⟩ := oi_app OIH.out hown' hgrow EA.out.symm; replace hoi2 := hidden hoi2; clear hown' hgrow)
        go_wp2
        go_roundw
        case rel => exact ⟨k + 1, q, A', c', by first | rfl | rw [eq2], by omega, by omega, TD.out, .inr big2.out, by omega, hoi2.out⟩
        case measure => first | (simpa [intOf] using qm) | (rw [← eq2] at qm; simpa [intOf] using qm)

end Go.Proofs.YtjceofmhodcefaaGreat

namespace Go.Proofs.YtjceofmhodcefaaGreat
open Go.RowKit

theorem pw_add (m n : Nat) : pw (m + n) = pw m * pw n := Nat.pow_add 268435456 m n
/-- the product so far: of the first i digits, and of the next one with the first k digits of the other -/
def tP (x y i : Nat) : Nat := x % pw i * y
def tT (x y i k : Nat) : Nat := tP x y i + x / pw i % 268435456 * (y % pw k) * pw i
def tC (x y i k : Nat) : Int := ((tT x y i k / pw (i + k) : Nat) : Int) - ((tP x y i / pw (i + k) : Nat) : Int)
theorem tT_zero (x y i : Nat) : tT x y i 0 = tP x y i := by unfold tT; rw [pw_zero, Nat.mod_one]; simp
theorem tT_succ (x y i k : Nat) : tT x y i (k + 1) = tT x y i k + x / pw i % 268435456 * (y / pw k % 268435456) * pw (i + k) := by
  unfold tT
  rw [pw_succ, Nat.mod_mul, pw_add]
  generalize x / pw i % 268435456 = a
  generalize y / pw k % 268435456 = b
  rw [Nat.mul_add, Nat.add_mul, Nat.add_assoc]
  congr 2
  rw [Nat.mul_left_comm a (pw k) b, Nat.mul_comm (pw i) (pw k), Nat.mul_comm (pw k) (a * b), Nat.mul_assoc]
theorem tP_succ (x y i : Nat) : tP x y (i + 1) = tP x y i + x / pw i % 268435456 * y * pw i := by
  unfold tP
  rw [pw_succ, Nat.mod_mul, Nat.add_mul]
  congr 1
  rw [Nat.mul_comm (pw i), Nat.mul_assoc, Nat.mul_assoc, Nat.mul_comm (pw i) y]
theorem tT_end {x y i n : Nat} (h : y < pw n) : tT x y i n = tP x y (i + 1) := by
  rw [tP_succ]
  unfold tT
  rw [Nat.mod_eq_of_lt h]
theorem tP_lt {x y i n : Nat} (h : y < pw n) : tP x y i < pw (i + n) := by
  unfold tP
  rw [pw_add]
  have := Nat.mod_lt x (pw_pos i)
  exact Nat.lt_of_le_of_lt (Nat.mul_le_mul_right y (Nat.le_of_lt this)) (Nat.mul_lt_mul_of_pos_left h (pw_pos i))
theorem dg_add_mul (t m : Nat) {j q : Nat} (h : j < q) : dg (t + m * pw q) j = dg t j := by
  obtain ⟨r, rfl⟩ : ∃ r, q = r + 1 + j := ⟨q - 1 - j, by omega⟩
  unfold dg
  rw [pw_add, ← Nat.mul_assoc, Nat.add_mul_div_right _ _ (pw_pos j), pw_succ, ← Nat.mul_assoc]
  generalize m * pw r = z
  generalize t / pw j = u
  omega
theorem tC_zero (x y i : Nat) : tC x y i 0 = 0 := by unfold tC; rw [tT_zero]; omega
theorem times_step (x y i k : Nat) (o a b c : Int) (ho : o = dg (tP x y i) (i + k)) (ha : a = dg x i) (hb : b = dg y k) (hc : c = tC x y i k) (_c0 : 0 ≤ c) :
    (o + a * b + c) % 268435456 = dg (tT x y i (k + 1)) (i + k) ∧ (o + a * b + c) / 268435456 = tC x y i (k + 1) := by
  have e : tT x y i (k + 1) / pw (i + k) = tT x y i k / pw (i + k) + x / pw i % 268435456 * (y / pw k % 268435456) := by
    rw [tT_succ, Nat.add_mul_div_right _ _ (pw_pos _)]
  have hab : a * b = ((x / pw i % 268435456 * (y / pw k % 268435456) : Nat) : Int) := by rw [ha, hb]; unfold dg; rw [Int.natCast_mul]
  unfold tC at hc ⊢
  rw [hab]
  rw [show i + (k + 1) = i + k + 1 by omega, pw_succ, ← Nat.div_div_eq_div_mul, ← Nat.div_div_eq_div_mul]
  unfold dg at ho ⊢
  rw [e]
  generalize x / pw i % 268435456 * (y / pw k % 268435456) = m at *
  generalize tT x y i k / pw (i + k) = u at *
  generalize tP x y i / pw (i + k) = v at *
  omega
theorem times_top {x y i n : Nat} (h : y < pw n) : tC x y i n = dg (tP x y (i + 1)) (i + n) := by
  unfold tC dg
  rw [tT_end h, Nat.div_eq_of_lt (tP_lt h)]
  have e := tP_lt (x := x) (i := i + 1) h
  rw [show i + 1 + n = i + n + 1 by omega, pw_succ] at e
  have e2 : tP x y (i + 1) / pw (i + n) < 268435456 := Nat.div_lt_of_lt_mul e
  rw [Nat.mod_eq_of_lt e2]
  omega
theorem tT_low (x y i k : Nat) {j : Nat} (h : j < i + k) : dg (tT x y i (k + 1)) j = dg (tT x y i k) j := by rw [tT_succ]; exact dg_add_mul _ _ h

def flD (n : Nat) (f : Nat → Int) : List Value := (List.range n).map fun j => .int .i64 (f j)
theorem fl_get {n : Nat} {f : Nat → Int} {j : Nat} (h : j < n) : (flD n f)[j]? = some (.int .i64 (f j)) := by simp [flD, h]
theorem fl_set (n : Nat) (f : Nat → Int) (j : Nat) (u : Int) : (flD n f).set j (.int .i64 u) = flD n (fun m => if m = j then u else f m) := by
  apply List.ext_getElem?
  intro m
  rw [List.getElem?_set]
  unfold flD
  by_cases h : j = m
  · subst h
    by_cases hm : j < n
    · simp [hm]
    · simp [hm]
  · by_cases hm : m < n
    · simp [hm, h, Ne.symm h]
    · simp [hm, h]
theorem fl_dgs {n x : Nat} {f : Nat → Int} (h : ∀ j, j < n → f j = dg x j) : flD n f = dgs n x := by
  unfold flD dgs
  apply List.map_congr_left
  intro j hj
  rw [h j (by simpa using hj)]
theorem fl_made (n x : Nat) (hx : x = 0) : (madeCells (Value.int .i64 0).cells (n * 1)).toList = dgs n x := by
  rw [show (Value.int IntKind.i64 0).cells = #[Value.int .i64 0] by rfl, toList_madeCells_one, Nat.mul_one]
  subst hx
  unfold dgs
  apply List.ext_getElem?
  intro j
  by_cases hj : j < n
  · simp [hj, dg]
  · simp [hj]

set_option maxRecDepth 100000 in
set_option maxHeartbeats 4000000 in
theorem times02_any (A1 A2 : Option Addr) (n1 n2 c1 c2 x y : Nat) (w : World) (h1 : Dig w A1 n1 c1 x) (h2 : Dig w A2 n2 c2 y) (l1 : n1 ≤ 40) (l2 : n2 ≤ 40) :
    Calls Tryz.prog 80 #[.slice A1 n1 c1, .slice A2 n2 c2] w (DigRes w (x * y)) := by
  obtain ⟨i0, hi, hz0, hz1, hz2⟩ := info_parts infoInt
  go_enter Tryz.func80, Tryz.ntmps80
  go_wp2_with (at_make; refine wpList_make_full _ rfl _ _ 26 rfl w.heap.size 3 i0 (.int .i64 0) 1 Tryz.underlying26 hi hz0 hz1 .i64 .i64 (↑n1 + ↑n2) (↑n1 + ↑n2) (n1 + n2) rfl rfl (by simp) (by simp) (by rw [hz2]; omega) (by unfold maxLen; omega) (Nat.le_refl _) ?_; intro wm hown hgrow)
  have hbm : Below w.heap.size w wm := Below.grown (Below.refl _ _) hgrow (Nat.le_refl _) (fun j hj => by cases hj)
  rw [fl_made (n1 + n2) (tP x y 0) (by unfold tP; rw [pw_zero, Nat.mod_one, Nat.zero_mul])] at hown
  clear hgrow
  go_wp2
  go_loopw [6] (fun iv wr => ∃ i : Nat, iv = .int .i64 i ∧ i ≤ n1 ∧ wr.ownsRow w.heap.size 3 1 (.slice (some ⟨w.heap.size, 0, none⟩) (n1 + n2) (n1 + n2)) (n1 + n2) (dgs (n1 + n2) (tP x y i)) ∧ Below w.heap.size w wr) (fun iv _ => n1 - (intOf iv).toNat)
  case atStart => exact ⟨0, rfl, by omega, hown, hbm⟩
  case round =>
    clear hown hbm
    obtain ⟨i, rfl, hin, hown, hbw⟩ := hrel
    by_cases a1 : i < n1
    · obtain ⟨g1, rfl, hg1, _⟩ := h1.1.get (by omega)
      have c0 := hidden (tC_zero x y i)
      go_wp2
      go_loopw [7, 8] (fun cv kv wr => ∃ (k : Nat) (c : Int) (f : Nat → Int), kv = .int .i64 k ∧ cv = .int .i64 c ∧ k ≤ n2 ∧ 0 ≤ c ∧ c ≤ 268435455 ∧ Hid (c = tC x y i k) ∧ Hid (∀ j, f j = if j < i + k then dg (tT x y i k) j else dg (tP x y i) j) ∧ wr.ownsRow w.heap.size 3 1 (.slice (some ⟨w.heap.size, 0, none⟩) (n1 + n2) (n1 + n2)) (n1 + n2) (flD (n1 + n2) f) ∧ Below w.heap.size w wr) (fun _ kv _ => n2 - (intOf kv).toNat)
      case atStart => exact ⟨0, 0, dg (tP x y i), rfl, rfl, by omega, by omega, by omega, c0.out.symm, (fun j => by rw [tT_zero]; split <;> rfl), hown, hbw⟩
      case round =>
        clear hown hbw c0
        obtain ⟨k, c, f, rfl, rfl, hkn, c0, c1', hc, hf, hown, hbw⟩ := hrel
        by_cases a2 : k < n2
        · obtain ⟨g2, rfl, hg2, _⟩ := h2.1.get (by omega)
          have x1 := h1.1.cell hbw a1
          have x2 := h2.1.cell hbw a2
          have x3 := hown.cellAt (i + k) (by omega)
          rw [fl_get (by omega : i + k < n1 + n2)] at x3
          have fo : f (i + k) = dg (tP x y i) (i + k) := by rw [hf.out, if_neg (by omega)]
          have s1 : g1 < wr.heap.size := Nat.lt_of_lt_of_le hg1 hbw.size
          have s2 : g2 < wr.heap.size := Nat.lt_of_lt_of_le hg2 hbw.size
          have s3 : w.heap.size < wr.heap.size := (hown.lt _ rfl).2
          have z3 := hown.frozenAt (i + k)
          rw [fo] at x3
          have d1 := dg_bd x i
          have d2 := dg_bd y k
          have d3 := dg_bd (tP x y i) (i + k)
          have st := times_step x y i k _ _ _ c rfl rfl rfl hc.out c0
          obtain ⟨a, ea⟩ : ∃ a, dg x i = a := ⟨_, rfl⟩
          obtain ⟨b, eb⟩ : ∃ b, dg y k = b := ⟨_, rfl⟩
          obtain ⟨o, eo⟩ : ∃ o, dg (tP x y i) (i + k) = o := ⟨_, rfl⟩
          rw [ea] at d1 st x1
          rw [eb] at d2 st x2
          rw [eo] at d3 st x3
          obtain ⟨m, em⟩ : ∃ m, a * b = m := ⟨_, rfl⟩
          have m0 : 0 ≤ m := by rw [← em]; exact Int.mul_nonneg d1.1 d2.1
          have m1 : m ≤ 268435455 * 268435455 := by rw [← em]; exact Int.mul_le_mul d1.2 d2.2 d2.1 (by decide)
          rw [em] at st
          obtain ⟨d10, d11⟩ := d1
          obtain ⟨d20, d21⟩ := d2
          obtain ⟨d30, d31⟩ := d3
          have ST := hidden st
          clear st ea eb eo fo
          have t1 : IntKind.i64.wrap ((i : Int) + k) = i + k := by rw [IntKind.wrap_i64]; omega
          have t2 : ((i : Int) + k).toNat = i + k := by omega
          have t3 : 0 ≤ (i : Int) + k := by omega
          have t4 : (i : Int) + k < ↑n1 + ↑n2 := by omega
          have t5 : IntKind.i64.wrap m = m := by rw [IntKind.wrap_i64]; omega
          have t6 : IntKind.i64.wrap (o + m) = o + m := by rw [IntKind.wrap_i64]; omega
          have t7 : IntKind.i64.wrap (o + m + c) = o + m + c := by rw [IntKind.wrap_i64]; omega
          go_wp2
          refine wp_region_quiet_below (by kernel_rfl) (by kernel_rfl) ?_
          repeat (first | go_big_quiet_step (fail) | quiet_step (fail))
          refine wpQuiet_nil ?_; intro w' hw'; have hb := below_of_regrown hw'; clear hw'; (try replace hb := below_undrew hb); (try replace hb := below_undrewN hb); obtain ⟨hcell, hfroz⟩ := bcell hb; have hz := hb.size; (try simp at hz); (try (have z6 := Nat.lt_of_lt_of_le z7 hz)); (try (have z7 := Nat.lt_of_lt_of_le z8 hz)); (try (have z8 := Nat.lt_of_lt_of_le z9 hz)); (try (have z9 := Nat.lt_of_lt_of_le (Nat.lt_succ_self _) hz)); (try (have z0 : w.heap.size < w'.heap.size := by omega)); (try (have z1 : w.heap.size + 1 < w'.heap.size := by omega)); (try (have z2 : w.heap.size + 1 + 1 < w'.heap.size := by omega)); (try (have z3 : w.heap.size + 1 + 1 + 1 < w'.heap.size := by omega))
          have x4 : w'.cell? ⟨w.heap.size, i + k, none⟩ = some (.int .i64 o) := (hcell _ _ s3).trans x3
          have z4 : w'.frozen? ⟨w.heap.size, i + k, none⟩ = false := (hfroz _ _ s3).trans z3
          have hown2 := own_later hb hown
          have hb2 := bl_step hb hbw
          clear hcell hfroz x1 x2 x3 z3 hown hbw
          have HO := hidden hown2
          clear hown2
          go_wp2
          go_roundw
          case rel =>
            have R := HO.out.stored (i + k) (.int .i64 ((o + m + c) % 268435456))
            rw [fl_set] at R
            refine ⟨k + 1, _, _, by go_num, rfl, by omega, by omega, by omega, ST.out.2, fun j => ?_, R.1, hb2.setCell (by simp) _⟩
            have fj := hf.out j
            by_cases e1 : j = i + k
            · rw [if_pos e1, if_pos (by omega), e1]; exact ST.out.1
            · rw [if_neg e1, fj]
              by_cases e2 : j < i + k
              · rw [if_pos e2, if_pos (by omega), tT_low x y i k e2]
              · rw [if_neg e2, if_neg (by omega)]
          case measure => first | (simp [intOf]; done) | (simp [intOf]; omega)
        · obtain rfl : k = n2 := by omega
          have x3 := hown.cellAt (i + k) (by omega)
          rw [fl_get (by omega : i + k < n1 + k)] at x3
          have z3 := hown.frozenAt (i + k)
          have s3 : w.heap.size < wr.heap.size := (hown.lt _ rfl).2
          have hy := hidden h2.1.1
          have t1 : IntKind.i64.wrap ((i : Int) + k) = i + k := by rw [IntKind.wrap_i64]; omega
          have t2 : ((i : Int) + k).toNat = i + k := by omega
          have t3 : 0 ≤ (i : Int) + k := by omega
          have t4 : (i : Int) + k < ↑n1 + ↑k := by omega
          have HO := hidden hown
          clear hown
          go_wp2
          go_roundw
          case rel =>
            have R := HO.out.stored (i + k) (.int .i64 c)
            rw [fl_set, fl_dgs (x := tP x y (i + 1)) (fun j hj => by
              have fj := hf.out j
              by_cases e1 : j = i + k
              · rw [if_pos e1, e1, hc.out]; exact times_top hy.out
              · rw [if_neg e1, fj]
                by_cases e2 : j < i + k
                · rw [if_pos e2, tT_end hy.out]
                · rw [if_neg e2, dg_out (Nat.lt_of_lt_of_le (tP_lt hy.out) (pw_le (by omega))), dg_out (Nat.lt_of_lt_of_le (tP_lt hy.out) (pw_le (by omega)))])] at R
            exact ⟨i + 1, by go_num, by omega, R.1, hbw.setCell (by simp) _⟩
          case measure => first | (simp [intOf]; done) | (simp [intOf]; omega)
    · obtain rfl : i = n1 := by omega
      have R := hidden (own_dig hown (tP_lt h2.1.1))
      have e : Hid (tP x y i = x * y) := by unfold Hid tP; rw [Nat.mod_eq_of_lt h1.1.1]
      have T := hidden (trim02_any _ _ _ _ wr R.out (by omega))
      clear hown R
      go_wp2_with (go_at_call 94; ((with_reducible refine T.out.mono ?_); rintro e w' ⟨A', n', c', rfl, hd', fr, hb⟩); have FR := hidden fr; clear fr; (try replace hb := below_undrew hb); (try replace hb := below_undrewN hb); obtain ⟨hcell, hfroz⟩ := bcell hb; have hz := hb.size; (try simp at hz); (try (have z6 := Nat.lt_of_lt_of_le z7 hz)); (try (have z7 := Nat.lt_of_lt_of_le z8 hz)); (try (have z8 := Nat.lt_of_lt_of_le z9 hz)); (try (have z9 := Nat.lt_of_lt_of_le (Nat.lt_succ_self _) hz)); (try (have z0 : w.heap.size < w'.heap.size := by omega)); (try (have z1 : w.heap.size + 1 < w'.heap.size := by omega)); (try (have z2 : w.heap.size + 1 + 1 < w'.heap.size := by omega)); (try (have z3 : w.heap.size + 1 + 1 + 1 < w'.heap.size := by omega)))
      go_ret
      exact ⟨A', n', c', rfl, by rw [← e.out]; exact hd', FR.out.le hbw.size, bl_step hb hbw⟩

end Go.Proofs.YtjceofmhodcefaaGreat
