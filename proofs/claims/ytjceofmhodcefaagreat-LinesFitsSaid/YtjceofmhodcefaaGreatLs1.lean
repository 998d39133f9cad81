/- Several small texts in one: XLsA, XLsC, XLtC. -/
import Derived.Test.YtjceofmhodcefaaGreatRa
import Derived.Test.YtjceofmhodcefaaGreatBase
import Derived.OwnWalk
import Derived.Deep.DeepCutAuto
namespace Go.Proofs.YtjceofmhodcefaaGreat
open Go.RowKit

/-- the lines of a list: cell j of line i is f i j -/
def LnS (w : World) (B oo n : Nat) (f : Nat → Nat → Int) : Prop := ∀ i j, i < n → j < 6 → w.cell? ⟨B, oo + i * 6 + j, none⟩ = some (.int .i64 (f i j))
theorem LnS.later {w w' : World} {B oo n : Nat} {f : Nat → Nat → Int} (h : LnS w B oo n f) (hb : Below w.heap.size w w') : LnS w' B oo n f := fun i j hi hj => cell_later hb (h i j hi hj)
theorem LnS.lt {w : World} {B oo n : Nat} {f : Nat → Nat → Int} (h : LnS w B oo n f) (hn : 0 < n) : B < w.heap.size := World.block_lt_of_cell? _ _ (h 0 0 hn (by omega))
/-- rows of three numbers -/
def rws (s c p : Nat → Int) : Nat → List Value
  | 0 => []
  | k + 1 => rws s c p k ++ [.int .i64 (s k), .int .i64 (c k), .int .i64 (p k)]
theorem rws_len (s c p : Nat → Int) (k : Nat) : (rws s c p k).length = k * 3 := by
  induction k with
  | zero => rfl
  | succ k ih => simp [rws, ih]; omega
theorem rws_get (s c p : Nat → Int) {i k : Nat} (h : i < k) : (rws s c p k)[i * 3]? = some (.int .i64 (s i)) ∧ (rws s c p k)[i * 3 + 1]? = some (.int .i64 (c i)) ∧ (rws s c p k)[i * 3 + 2]? = some (.int .i64 (p i)) := by
  induction k with
  | zero => omega
  | succ k ih =>
    have hl := rws_len s c p k
    by_cases e : i = k
    · subst e
      refine ⟨?_, ?_, ?_⟩ <;> (unfold rws; rw [List.getElem?_append_right (by omega)])
      · rw [show i * 3 - (rws s c p i).length = 0 by omega]; rfl
      · rw [show i * 3 + 1 - (rws s c p i).length = 1 by omega]; rfl
      · rw [show i * 3 + 2 - (rws s c p i).length = 2 by omega]; rfl
    · have h2 := ih (by omega)
      refine ⟨?_, ?_, ?_⟩ <;> (unfold rws; rw [List.getElem?_append_left (by omega)])
      · exact h2.1
      · exact h2.2.1
      · exact h2.2.2
/-- sums -/
def sm (g : Nat → Int) : Nat → Int
  | 0 => 0
  | k + 1 => sm g k + g k
theorem sm_bd {g : Nat → Int} {M : Int} {n : Nat} (h : ∀ i, i < n → -M ≤ g i ∧ g i ≤ M) (_hM : 0 ≤ M) : ∀ k, k ≤ n → -(M * k) ≤ sm g k ∧ sm g k ≤ M * k := by
  intro k
  induction k with
  | zero => intro _; simp [sm]
  | succ k ih =>
    intro hk
    have h1 := ih (by omega)
    have h2 := h k (by omega)
    have e : M * ((k + 1 : Nat) : Int) = M * k + M := by rw [Int.natCast_add, Int.mul_add]; simp
    rw [e]
    simp only [sm]
    omega
/-- a list of numbers -/
def outL (r : Nat → Int) : Nat → List Value
  | 0 => []
  | k + 1 => outL r k ++ [.int .i64 (r k)]
theorem outL_len (r : Nat → Int) (k : Nat) : (outL r k).length = k := by
  induction k with
  | zero => rfl
  | succ k ih => simp [outL, ih]
theorem outL_get (r : Nat → Int) {i k : Nat} (h : i < k) : (outL r k)[i]? = some (.int .i64 (r i)) := by
  induction k with
  | zero => omega
  | succ k ih =>
    have hl := outL_len r k
    by_cases e : i = k
    · subst e
      unfold outL
      rw [List.getElem?_append_right (by omega), show i - (outL r i).length = 0 by omega]; rfl
    · unfold outL
      rw [List.getElem?_append_left (by omega)]
      exact ih (by omega)

/-- the best point is on the sheet -/
def Fit (x y l : Int) : Prop := (-2000000 ≤ x ∧ x ≤ 2000000) ∧ (-2000000 ≤ y ∧ y ≤ 2000000) ∧ ¬ l + y < -5400000 ∧ ¬ 5400000 < l + y
def LeastR (w : World) (n : Nat) (D x y l F2 : Int) (r : Nat → Int) (e : Ending) (w' : World) : Prop :=
  Below w.heap.size w w' ∧ (D < 1099511627776 → e = .returned (.tuple #[.agg #[.int .i64 0, .int .i64 0], .slice none 0 0, .int .i64 16])) ∧
    (1099511627776 ≤ D → ¬ Fit x y l → e = .returned (.tuple #[.agg #[.int .i64 0, .int .i64 0], .slice none 0 0, .int .i64 25])) ∧
    (1099511627776 ≤ D → Fit x y l → ∃ gg cap : Nat, e = .returned (.tuple #[.agg #[.int .i64 (l + y), .int .i64 F2], .slice (some ⟨gg, 0, none⟩) n cap, .int .i64 0]) ∧ ∀ i, i < n → w'.cell? ⟨gg, i, none⟩ = some (.int .i64 (r i)))
theorem leastR_zero {w w' : World} {n : Nat} {D x y l F2 : Int} {r : Nat → Int} (h : D < 1099511627776) (hb : Below w.heap.size w w') : LeastR w n D x y l F2 r (.returned (.tuple #[.agg #[.int .i64 0, .int .i64 0], .slice none 0 0, .int .i64 16])) w' :=
  ⟨hb, fun _ => rfl, fun g => absurd h (Int.not_lt.2 g), fun g => absurd h (Int.not_lt.2 g)⟩
theorem leastR_far {w w' : World} {n : Nat} {D x y l F2 : Int} {r : Nat → Int} (h : 1099511627776 ≤ D) (k : ¬ Fit x y l) (hb : Below w.heap.size w w') : LeastR w n D x y l F2 r (.returned (.tuple #[.agg #[.int .i64 0, .int .i64 0], .slice none 0 0, .int .i64 25])) w' :=
  ⟨hb, fun g => absurd g (Int.not_lt.2 h), fun _ _ => rfl, fun _ g => absurd g k⟩
theorem leastR_fit {w w' : World} {n : Nat} {D x y l F2 : Int} {r : Nat → Int} {gg cap : Nat} (h : 1099511627776 ≤ D) (k : Fit x y l) (hc : ∀ i, i < n → w'.cell? ⟨gg, i, none⟩ = some (.int .i64 (r i))) (hb : Below w.heap.size w w') : LeastR w n D x y l F2 r (.returned (.tuple #[.agg #[.int .i64 (l + y), .int .i64 F2], .slice (some ⟨gg, 0, none⟩) n cap, .int .i64 0])) w' :=
  ⟨hb, fun g => absurd g (Int.not_lt.2 h), fun _ g => absurd k g, fun _ _ => ⟨gg, cap, rfl, hc⟩⟩
/-- the reference's Least, whatever it returns for valid lines -/
def RLeastR (w : World) (n : Nat) (f : Nat → Nat → Int) (D x y F2 : Int) (r : Nat → Int) (e : Ending) (w' : World) : Prop :=
  Below w.heap.size w w' ∧ (¬ (∀ i, i < n → f i 0 = f 0 0 ∧ f i 1 = f 0 1) → e = .returned (.tuple #[.agg #[.int .i64 0, .int .i64 0], .slice none 0 0, .int .i64 26])) ∧
    ((∀ i, i < n → f i 0 = f 0 0 ∧ f i 1 = f 0 1) → LeastR w n D x y (f 0 0) F2 r e w')
theorem rleastR_shape {w w' : World} {n : Nat} {f : Nat → Nat → Int} {D x y F2 : Int} {r : Nat → Int} (h : ¬ (∀ i, i < n → f i 0 = f 0 0 ∧ f i 1 = f 0 1)) (hb : Below w.heap.size w w') : RLeastR w n f D x y F2 r (.returned (.tuple #[.agg #[.int .i64 0, .int .i64 0], .slice none 0 0, .int .i64 26])) w' :=
  ⟨hb, fun _ => rfl, fun g => absurd g h⟩
theorem rleastR_same {w w' : World} {n : Nat} {f : Nat → Nat → Int} {D x y F2 : Int} {r : Nat → Int} {e : Ending} (h : ∀ i, i < n → f i 0 = f 0 0 ∧ f i 1 = f 0 1) (k : LeastR w n D x y (f 0 0) F2 r e w') : RLeastR w n f D x y F2 r e w' :=
  ⟨k.1, fun g => absurd h g, fun _ => k⟩

end Go.Proofs.YtjceofmhodcefaaGreat

namespace Go.Proofs.YtjceofmhodcefaaGreat
open Go.RowKit

set_option maxRecDepth 100000 in
set_option maxHeartbeats 4000000 in
theorem given_walk (B oo n c : Nat) (f : Nat → Nat → Int) (g : Nat → Bool) (r : Int) (w : World) (hl : LnS w B oo n f) (hn : n ≤ 20)
    (VV : Hid (∀ i, i < n → ∀ w, Calls Tryz.prog 37 #[.agg #[.int .i64 (f i 0), .int .i64 (f i 1), .int .i64 (f i 2), .int .i64 (f i 3), .int .i64 (f i 4), .int .i64 (f i 5)]] w fun e w' => e = .returned (.bool (g i)) ∧ Below w.heap.size w w'))
    (h1 : Hid (∀ i, i < n → g i = false → r = 1)) (h2 : Hid ((∀ i, i < n → g i = true) → ∀ i, i < n → ¬ (f i 0 = f 0 0 ∧ f i 1 = f 0 1) → r = 26)) (h3 : Hid ((∀ i, i < n → g i = true) → (∀ i, i < n → f i 0 = f 0 0 ∧ f i 1 = f 0 1) → r = 0)) :
    Calls Tryz.prog 11 #[.slice (some ⟨B, oo, none⟩) n c] w fun e w' => e = .returned (.int .i64 r) ∧ Below w.heap.size w w' := by
  have HL := hidden hl
  clear hl
  go_enter Tryz.func11, Tryz.ntmps11
  go_wp2
  go_loopw [9] (fun iv wr => ∃ k : Nat, iv = .int .i64 k ∧ k ≤ n ∧ Hid (∀ i, i < k → g i = true) ∧ Below w.heap.size w wr) (fun iv _ => 40 - (intOf iv).toNat)
  case atStart => exact ⟨0, rfl, Nat.zero_le _, (fun i h => absurd h (by omega)), Below.refl _ _⟩
  case round =>
    obtain ⟨k, rfl, hk, hg, hb0⟩ := hrel
    have hz0 := hb0.size
    by_cases hkn : k < n
    · have q1 : decide (k < n) = true := by simp; omega
      have LB := HL.out.lt (by omega)
      have c0 : wr.cell? ⟨B, oo + k * 6, none⟩ = some (.int .i64 (f k 0)) := cell_later hb0 (HL.out k 0 hkn (by omega))
      have c1 : wr.cell? ⟨B, oo + k * 6 + 1, none⟩ = some (.int .i64 (f k 1)) := cell_later hb0 (HL.out k 1 hkn (by omega))
      have c2 : wr.cell? ⟨B, oo + k * 6 + 2, none⟩ = some (.int .i64 (f k 2)) := cell_later hb0 (HL.out k 2 hkn (by omega))
      have c3 : wr.cell? ⟨B, oo + k * 6 + 3, none⟩ = some (.int .i64 (f k 3)) := cell_later hb0 (HL.out k 3 hkn (by omega))
      have c4 : wr.cell? ⟨B, oo + k * 6 + 4, none⟩ = some (.int .i64 (f k 4)) := cell_later hb0 (HL.out k 4 hkn (by omega))
      have c5 : wr.cell? ⟨B, oo + k * 6 + 5, none⟩ = some (.int .i64 (f k 5)) := cell_later hb0 (HL.out k 5 hkn (by omega))
      have V := hidden (VV.out k hkn)
      cases gk : g k with
      | true =>
        rw [gk] at V
        go_wp2_with (go_at_call 37; ((with_reducible refine (V.out _).mono ?_); rintro e w' ⟨rfl, hb⟩); (try replace hb := below_undrew hb); (try replace hb := below_undrewN hb); obtain ⟨hcell, hfroz⟩ := bcell hb; have hz := hb.size; (try simp at hz); (try (have z6 := Nat.lt_of_lt_of_le z7 hz)); (try (have z7 := Nat.lt_of_lt_of_le z8 hz)); (try (have z8 := Nat.lt_of_lt_of_le z9 hz)); (try (have z9 := Nat.lt_of_lt_of_le (Nat.lt_succ_self _) hz)); (try (have z0 : w.heap.size < w'.heap.size := by omega)); (try (have z1 : w.heap.size + 1 < w'.heap.size := by omega)); (try (have z2 : w.heap.size + 1 + 1 < w'.heap.size := by omega)); (try (have z3 : w.heap.size + 1 + 1 + 1 < w'.heap.size := by omega)))
        exact ⟨⟨k + 1, by go_num, by omega, (fun i h => by rcases Nat.lt_or_ge i k with h4 | h4; exact hg.out i h4; obtain rfl : i = k := (by omega); exact gk), by (repeat (first | (with_reducible exact Below.refl _ _) | (with_reducible refine Below.setCell ?_ (by (first | (simp; done) | (simp; omega) | omega)) _) | (with_reducible refine bl_alloc ?_ _) | (with_reducible refine bl_drewN ?_) | (with_reducible refine bl_drew ?_) | (with_reducible refine bl_step (by assumption) ?_)))⟩, by simp [intOf]; omega⟩
      | false =>
        rw [gk] at V
        go_wp2_with (go_at_call 37; ((with_reducible refine (V.out _).mono ?_); rintro e w' ⟨rfl, hb⟩); (try replace hb := below_undrew hb); (try replace hb := below_undrewN hb); obtain ⟨hcell, hfroz⟩ := bcell hb; have hz := hb.size; (try simp at hz); (try (have z6 := Nat.lt_of_lt_of_le z7 hz)); (try (have z7 := Nat.lt_of_lt_of_le z8 hz)); (try (have z8 := Nat.lt_of_lt_of_le z9 hz)); (try (have z9 := Nat.lt_of_lt_of_le (Nat.lt_succ_self _) hz)); (try (have z0 : w.heap.size < w'.heap.size := by omega)); (try (have z1 : w.heap.size + 1 < w'.heap.size := by omega)); (try (have z2 : w.heap.size + 1 + 1 < w'.heap.size := by omega)); (try (have z3 : w.heap.size + 1 + 1 + 1 < w'.heap.size := by omega)))
        go_ret
        obtain rfl : r = 1 := h1.out k hkn gk
        exact ⟨rfl, by (repeat (first | (with_reducible exact Below.refl _ _) | (with_reducible refine Below.setCell ?_ (by (first | (simp; done) | (simp; omega) | omega)) _) | (with_reducible refine bl_alloc ?_ _) | (with_reducible refine bl_drewN ?_) | (with_reducible refine bl_drew ?_) | (with_reducible refine bl_step (by assumption) ?_)))⟩
    · have q1 : decide (k < n) = false := by simp; omega
      have e : n = k := by omega
      subst e
      go_wp2
      go_loopw [19] (fun iv wr => ∃ k : Nat, iv = .int .i64 k ∧ k ≤ n ∧ Hid (∀ i, i < k → f i 0 = f 0 0 ∧ f i 1 = f 0 1) ∧ Below w.heap.size w wr) (fun iv _ => 40 - (intOf iv).toNat)
      case atStart => exact ⟨0, rfl, Nat.zero_le _, (fun i h => absurd h (by omega)), by (repeat (first | (with_reducible exact Below.refl _ _) | (with_reducible refine Below.setCell ?_ (by (first | (simp; done) | (simp; omega) | omega)) _) | (with_reducible refine bl_alloc ?_ _) | (with_reducible refine bl_drewN ?_) | (with_reducible refine bl_drew ?_) | (with_reducible refine bl_step (by assumption) ?_)))⟩
      case round =>
        obtain ⟨k, rfl, hk, hs, hb0⟩ := hrel
        have hz1 := hb0.size
        by_cases hkn2 : k < n
        · have q2 : decide (k < n) = true := by simp; omega
          have LB := HL.out.lt (by omega)
          have c0 : wr.cell? ⟨B, oo + k * 6, none⟩ = some (.int .i64 (f k 0)) := cell_later hb0 (HL.out k 0 hkn2 (by omega))
          have c1 : wr.cell? ⟨B, oo + k * 6 + 1, none⟩ = some (.int .i64 (f k 1)) := cell_later hb0 (HL.out k 1 hkn2 (by omega))
          have c2 : wr.cell? ⟨B, oo + k * 6 + 2, none⟩ = some (.int .i64 (f k 2)) := cell_later hb0 (HL.out k 2 hkn2 (by omega))
          have c3 : wr.cell? ⟨B, oo + k * 6 + 3, none⟩ = some (.int .i64 (f k 3)) := cell_later hb0 (HL.out k 3 hkn2 (by omega))
          have c4 : wr.cell? ⟨B, oo + k * 6 + 4, none⟩ = some (.int .i64 (f k 4)) := cell_later hb0 (HL.out k 4 hkn2 (by omega))
          have c5 : wr.cell? ⟨B, oo + k * 6 + 5, none⟩ = some (.int .i64 (f k 5)) := cell_later hb0 (HL.out k 5 hkn2 (by omega))
          have z0 : wr.cell? ⟨B, oo, none⟩ = some (.int .i64 (f 0 0)) := by have := cell_later hb0 (HL.out 0 0 (by omega) (by omega)); simpa using this
          have z1 : wr.cell? ⟨B, oo + 1, none⟩ = some (.int .i64 (f 0 1)) := by have := cell_later hb0 (HL.out 0 1 (by omega) (by omega)); simpa using this
          have LB2 : B < wr.heap.size := by omega
          have q3 : 0 < n := by omega
          have q4 : decide (0 < n) = true := by simp; omega
          obtain ⟨x0, e0⟩ : ∃ x, f k 0 = x := ⟨_, rfl⟩
          obtain ⟨x1, e1⟩ : ∃ x, f k 1 = x := ⟨_, rfl⟩
          obtain ⟨y0, e2⟩ : ∃ x, f 0 0 = x := ⟨_, rfl⟩
          obtain ⟨y1, e3⟩ : ∃ x, f 0 1 = x := ⟨_, rfl⟩
          rw [e0] at c0
          rw [e1] at c1
          rw [e2] at z0
          rw [e3] at z1
          have EE := hidden (show (f k 0 = x0 ∧ f k 1 = x1) ∧ f 0 0 = y0 ∧ f 0 1 = y1 from ⟨⟨e0, e1⟩, e2, e3⟩)
          clear e0 e1 e2 e3
          by_cases hq : x0 = y0 ∧ x1 = y1
          · obtain ⟨rfl, rfl⟩ := hq
            go_wp2
            go_quiet (fail)
            go_wp2
            exact ⟨⟨k + 1, by go_num, by omega, (fun i h => by rcases Nat.lt_or_ge i k with h4 | h4; exact hs.out i h4; obtain rfl : i = k := (by omega); exact ⟨EE.out.1.1.trans EE.out.2.1.symm, EE.out.1.2.trans EE.out.2.2.symm⟩), by (repeat (first | exact Below.refl _ _ | refine bl_drewN ?_ | refine bl_drew ?_ | refine bl_alloc ?_ _ | refine Below.setCell ?_ (by (first | (simp; done) | (simp; omega) | omega)) _ | refine bl_step (by assumption) ?_))⟩, by simp [intOf]; omega⟩
          · have HR : Hid (r = 26) := hidden (h2.out hg.out k hkn2 (fun e => hq ⟨EE.out.1.1.symm.trans (e.1.trans EE.out.2.1), EE.out.1.2.symm.trans (e.2.trans EE.out.2.2)⟩))
            by_cases hx : x0 = y0
            · subst hx
              have hy : ¬ x1 = y1 := fun e => hq ⟨rfl, e⟩
              have hy2 : (x1 == y1) = false := by simp; exact hy
              go_wp2
              go_quiet (fail)
              go_wp2
              go_ret
              obtain rfl : r = 26 := HR.out
              exact ⟨rfl, by (repeat (first | exact Below.refl _ _ | refine bl_drewN ?_ | refine bl_drew ?_ | refine bl_alloc ?_ _ | refine Below.setCell ?_ (by (first | (simp; done) | (simp; omega) | omega)) _ | refine bl_step (by assumption) ?_))⟩
            · have hx2 : (x0 == y0) = false := by simp; exact hx
              go_wp2
              go_quiet (fail)
              go_wp2
              go_ret
              obtain rfl : r = 26 := HR.out
              exact ⟨rfl, by (repeat (first | exact Below.refl _ _ | refine bl_drewN ?_ | refine bl_drew ?_ | refine bl_alloc ?_ _ | refine Below.setCell ?_ (by (first | (simp; done) | (simp; omega) | omega)) _ | refine bl_step (by assumption) ?_))⟩
        · have q2 : decide (k < n) = false := by simp; omega
          have e : n = k := by omega
          subst e
          go_wp2
          go_ret
          obtain rfl : r = 0 := h3.out hg.out hs.out
          exact ⟨rfl, by (repeat (first | (with_reducible exact Below.refl _ _) | (with_reducible refine Below.setCell ?_ (by (first | (simp; done) | (simp; omega) | omega)) _) | (with_reducible refine bl_alloc ?_ _) | (with_reducible refine bl_drewN ?_) | (with_reducible refine bl_drew ?_) | (with_reducible refine bl_step (by assumption) ?_)))⟩

end Go.Proofs.YtjceofmhodcefaaGreat

namespace Go.Proofs.YtjceofmhodcefaaGreat
open Go.RowKit

theorem own_later3 {w w' : World} {base : Nat} {e : TypeId} {size : Nat} {v : Value} {n : Nat} {xs : List Value} (hb : Below w.heap.size w w') (h : w.ownsRow base e size v n xs) : w'.ownsRow base e size v n xs := by
  refine ⟨h.1, ?_⟩
  rcases h.2 with h | ⟨g, cap, cur, h1, h2, h3, h4⟩
  · exact Or.inl h
  · have hg : g < w.heap.size := by
      rcases Nat.lt_or_ge g w.heap.size with k | k
      · exact k
      · rw [Array.getElem?_eq_none k] at h3; cases h3
    exact Or.inr ⟨g, cap, cur, h1, h2, (hb.block g hg).trans h3, h4⟩

theorem news3b (w : World) (x y z : Value) (t : Nat) : ∀ (j : Nat) u, ([x, y, z] : List Value)[j]? = some u → (w.alloc (Obj.cells #[x, y, z] t)).cell? ((⟨w.heap.size, 0, none⟩ : Addr).add j) = some u := by
  intro j u h
  match j, h with
  | 0, h => simp at h; subst h; simp [Addr.add, go_sem]
  | 1, h => simp at h; subst h; simp [Addr.add, go_sem]
  | 2, h => simp at h; subst h; simp [Addr.add, go_sem]
  | n + 3, h => simp at h
theorem one3b (a b c : Int) : ∀ u ∈ ([.int .i64 a, .int .i64 b, .int .i64 c] : List Value), u.oneCell' = true := by
  intro u hu
  simp at hu
  rcases hu with rfl | rfl | rfl <;> rfl
theorem one1b (a : Int) : ∀ u ∈ ([.int .i64 a] : List Value), u.oneCell' = true := by
  intro u hu
  simp at hu
  subst hu
  rfl

set_option maxRecDepth 100000 in
set_option maxHeartbeats 4000000 in
theorem least_size37 (a : Option Addr) (n c : Nat) (w : World) (hn : n < 2 ∨ 16 < n) :
    Calls Tryz.prog 5 #[.slice a n c] w fun e w' => e = .returned (.tuple #[.agg #[.int .i64 0, .int .i64 0], .slice none 0 0, .int .i64 3]) ∧ Below w.heap.size w w' := by
  rcases hn with h | h
  · have qa : decide (n < 2) = true := by simp; omega
    go_enter Tryz.func5, Tryz.ntmps5
    go_wp2
    exact bodyPost_ret (v := .tuple #[.agg #[.int .i64 0, .int .i64 0], .slice none 0 0, .int .i64 3]) (by first | (simp only [results, Tryz.results5]; go_simp; done) | simp [results, Tryz.results5, go_sem, *]) rfl ⟨rfl, by (repeat (first | (with_reducible exact Below.refl _ _) | (with_reducible refine Below.setCell ?_ (by (first | (simp; done) | (simp; omega) | omega)) _) | (with_reducible refine bl_alloc ?_ _) | (with_reducible refine bl_drewN ?_) | (with_reducible refine bl_drew ?_) | (with_reducible refine bl_step (by assumption) ?_)))⟩
  · have qa : decide (n < 2) = false := by simp; omega
    have qb : decide (16 < n) = true := by simp; omega
    go_enter Tryz.func5, Tryz.ntmps5
    go_wp2
    exact bodyPost_ret (v := .tuple #[.agg #[.int .i64 0, .int .i64 0], .slice none 0 0, .int .i64 3]) (by first | (simp only [results, Tryz.results5]; go_simp; done) | simp [results, Tryz.results5, go_sem, *]) rfl ⟨rfl, by (repeat (first | (with_reducible exact Below.refl _ _) | (with_reducible refine Below.setCell ?_ (by (first | (simp; done) | (simp; omega) | omega)) _) | (with_reducible refine bl_alloc ?_ _) | (with_reducible refine bl_drewN ?_) | (with_reducible refine bl_drew ?_) | (with_reducible refine bl_step (by assumption) ?_)))⟩

set_option maxRecDepth 100000 in
set_option maxHeartbeats 4000000 in
theorem least_bad37 (B oo n c : Nat) (f : Nat → Nat → Int) (r : Int) (w : World) (hl : LnS w B oo n f) (n2 : 2 ≤ n) (n16 : n ≤ 16)
    (GV : Hid (∀ w, LnS w B oo n f → Calls Tryz.prog 11 #[.slice (some ⟨B, oo, none⟩) n c] w fun e w' => e = .returned (.int .i64 r) ∧ Below w.heap.size w w'))
    (hr : (r == 0) = false) :
    Calls Tryz.prog 5 #[.slice (some ⟨B, oo, none⟩) n c] w fun e w' => e = .returned (.tuple #[.agg #[.int .i64 0, .int .i64 0], .slice none 0 0, .int .i64 r]) ∧ Below w.heap.size w w' := by
  have HL0 := hidden hl
  clear hl
  have qa : decide (n < 2) = false := by simp; omega
  have qb : decide (16 < n) = false := by simp; omega
  go_enter Tryz.func5, Tryz.ntmps5
  go_wp2_with (go_at_call 11; ((with_reducible refine (GV.out _ ?ql).mono ?_); (case ql => exact HL0.out.later (by (repeat (first | exact Below.refl _ _ | refine bl_drewN ?_ | refine bl_drew ?_ | refine bl_alloc ?_ _ | refine Below.setCell ?_ (by (first | (simp; done) | (simp; omega) | omega)) _ | refine bl_step (by assumption) ?_)))); rintro e w' ⟨rfl, hb⟩); (try replace hb := below_undrew hb); (try replace hb := below_undrewN hb); obtain ⟨hcell, hfroz⟩ := bcell hb; have hz := hb.size; (try simp at hz); (try (have z6 := Nat.lt_of_lt_of_le z7 hz)); (try (have z7 := Nat.lt_of_lt_of_le z8 hz)); (try (have z8 := Nat.lt_of_lt_of_le z9 hz)); (try (have z9 := Nat.lt_of_lt_of_le (Nat.lt_succ_self _) hz)); (try (have z0 : w.heap.size < w'.heap.size := by omega)); (try (have z1 : w.heap.size + 1 < w'.heap.size := by omega)); (try (have z2 : w.heap.size + 1 + 1 < w'.heap.size := by omega)); (try (have z3 : w.heap.size + 1 + 1 + 1 < w'.heap.size := by omega)); obtain ⟨w1, rfl⟩ : ∃ v, v = w' := ⟨_, rfl⟩)
  exact bodyPost_ret (v := .tuple #[.agg #[.int .i64 0, .int .i64 0], .slice none 0 0, .int .i64 r]) (by first | (simp only [results, Tryz.results5]; go_simp; done) | simp [results, Tryz.results5, go_sem, *]) rfl ⟨rfl, by (repeat (first | (with_reducible exact Below.refl _ _) | (with_reducible refine Below.setCell ?_ (by (first | (simp; done) | (simp; omega) | omega)) _) | (with_reducible refine bl_alloc ?_ _) | (with_reducible refine bl_drewN ?_) | (with_reducible refine bl_drew ?_) | (with_reducible refine bl_step (by assumption) ?_)))⟩

end Go.Proofs.YtjceofmhodcefaaGreat
