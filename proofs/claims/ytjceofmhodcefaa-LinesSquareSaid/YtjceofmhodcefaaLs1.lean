/- Several small texts in one: XLsA, XLsC, XLsE. -/
import Derived.Test.YtjceofmhodcefaaRa
import Derived.Test.YtjceofmhodcefaaBase
import Derived.OwnWalk
namespace Go.Proofs.Ytjceofmhodcefaa
open Go.RowKit

/-- the lines of a list: cell j of line i is f i j -/
def LnS (w : World) (B n : Nat) (f : Nat → Nat → Int) : Prop := ∀ i j, i < n → j < 6 → w.cell? ⟨B, i * 6 + j, none⟩ = some (.int .i64 (f i j))
theorem LnS.later {w w' : World} {B n : Nat} {f : Nat → Nat → Int} (h : LnS w B n f) (hb : Below w.heap.size w w') : LnS w' B n f := fun i j hi hj => cell_later hb (h i j hi hj)
theorem LnS.lt {w : World} {B n : Nat} {f : Nat → Nat → Int} (h : LnS w B n f) (hn : 0 < n) : B < w.heap.size := World.block_lt_of_cell? _ _ (h 0 0 hn (by omega))
/-- rows of three numbers -/
def rws (s c p : Nat → Int) : Nat → List Value
  | 0 => []
  | k + 1 => rws s c p k ++ [.int .i64 (s k), .int .i64 (c k), .int .i64 (p k)]
theorem rws_len (s c p : Nat → Int) (k : Nat) : (rws s c p k).length = k * 3 := by
  induction k with
  | zero => rfl
  | succ k ih => simp [rws, ih]; omega
theorem rws_get (s c p : Nat → Int) {i k : Nat} (h : i < k) : (rws s c p k)[i * 3]? = some (.int .i64 (s i)) ∧ (rws s c p k)[i * 3 + 1]? = some (.int .i64 (c i)) ∧ (rws s c p k)[i * 3 + 2]? = some (.int .i64 (p i)) := by
  induction k with
  | zero => omega
  | succ k ih =>
    have hl := rws_len s c p k
    by_cases e : i = k
    · subst e
      refine ⟨?_, ?_, ?_⟩ <;> (unfold rws; rw [List.getElem?_append_right (by omega)])
      · rw [show i * 3 - (rws s c p i).length = 0 by omega]; rfl
      · rw [show i * 3 + 1 - (rws s c p i).length = 1 by omega]; rfl
      · rw [show i * 3 + 2 - (rws s c p i).length = 2 by omega]; rfl
    · have h2 := ih (by omega)
      refine ⟨?_, ?_, ?_⟩ <;> (unfold rws; rw [List.getElem?_append_left (by omega)])
      · exact h2.1
      · exact h2.2.1
      · exact h2.2.2
/-- sums -/
def sm (g : Nat → Int) : Nat → Int
  | 0 => 0
  | k + 1 => sm g k + g k
theorem sm_bd {g : Nat → Int} {M : Int} {n : Nat} (h : ∀ i, i < n → -M ≤ g i ∧ g i ≤ M) (_hM : 0 ≤ M) : ∀ k, k ≤ n → -(M * k) ≤ sm g k ∧ sm g k ≤ M * k := by
  intro k
  induction k with
  | zero => intro _; simp [sm]
  | succ k ih =>
    intro hk
    have h1 := ih (by omega)
    have h2 := h k (by omega)
    have e : M * ((k + 1 : Nat) : Int) = M * k + M := by rw [Int.natCast_add, Int.mul_add]; simp
    rw [e]
    simp only [sm]
    omega
/-- a list of numbers -/
def outL (r : Nat → Int) : Nat → List Value
  | 0 => []
  | k + 1 => outL r k ++ [.int .i64 (r k)]
theorem outL_len (r : Nat → Int) (k : Nat) : (outL r k).length = k := by
  induction k with
  | zero => rfl
  | succ k ih => simp [outL, ih]
theorem outL_get (r : Nat → Int) {i k : Nat} (h : i < k) : (outL r k)[i]? = some (.int .i64 (r i)) := by
  induction k with
  | zero => omega
  | succ k ih =>
    have hl := outL_len r k
    by_cases e : i = k
    · subst e
      unfold outL
      rw [List.getElem?_append_right (by omega), show i - (outL r i).length = 0 by omega]; rfl
    · unfold outL
      rw [List.getElem?_append_left (by omega)]
      exact ih (by omega)

end Go.Proofs.Ytjceofmhodcefaa

namespace Go.Proofs.Ytjceofmhodcefaa
open Go.RowKit

set_option maxRecDepth 100000 in
set_option maxHeartbeats 4000000 in
theorem given_walk (B n c : Nat) (f : Nat → Nat → Int) (g : Nat → Bool) (r : Int) (w : World) (hl : LnS w B n f) (hn : n ≤ 20)
    (VV : Hid (∀ i, i < n → ∀ w, Calls Try.prog 19 #[.agg #[.int .i64 (f i 0), .int .i64 (f i 1), .int .i64 (f i 2), .int .i64 (f i 3), .int .i64 (f i 4), .int .i64 (f i 5)]] w fun e w' => e = .returned (.bool (g i)) ∧ Below w.heap.size w w'))
    (h1 : Hid (∀ i, i < n → g i = false → r = 1)) (h2 : Hid ((∀ i, i < n → g i = true) → ∀ i, i < n → ¬ (f i 0 = f 0 0 ∧ f i 1 = f 0 1) → r = 26)) (h3 : Hid ((∀ i, i < n → g i = true) → (∀ i, i < n → f i 0 = f 0 0 ∧ f i 1 = f 0 1) → r = 0)) :
    Calls Try.prog 32 #[.slice (some ⟨B, 0, none⟩) n c] w fun e w' => e = .returned (.int .i64 r) ∧ Below w.heap.size w w' := by
  have HL := hidden hl
  clear hl
  go_enter Try.func32, Try.ntmps32
  go_wp2
  go_loopw [9] (fun iv wr => ∃ k : Nat, iv = .int .i64 k ∧ k ≤ n ∧ Hid (∀ i, i < k → g i = true) ∧ Below w.heap.size w wr) (fun iv _ => 40 - (intOf iv).toNat)
  case atStart => exact ⟨0, rfl, Nat.zero_le _, (fun i h => absurd h (by omega)), Below.refl _ _⟩
  case round =>
    obtain ⟨k, rfl, hk, hg, hb0⟩ := hrel
    have hz0 := hb0.size
    by_cases hkn : k < n
    · have q1 : decide (k < n) = true := by simp; omega
      have LB := HL.out.lt (by omega)
      have c0 : wr.cell? ⟨B, k * 6, none⟩ = some (.int .i64 (f k 0)) := cell_later hb0 (HL.out k 0 hkn (by omega))
      have c1 : wr.cell? ⟨B, k * 6 + 1, none⟩ = some (.int .i64 (f k 1)) := cell_later hb0 (HL.out k 1 hkn (by omega))
      have c2 : wr.cell? ⟨B, k * 6 + 2, none⟩ = some (.int .i64 (f k 2)) := cell_later hb0 (HL.out k 2 hkn (by omega))
      have c3 : wr.cell? ⟨B, k * 6 + 3, none⟩ = some (.int .i64 (f k 3)) := cell_later hb0 (HL.out k 3 hkn (by omega))
      have c4 : wr.cell? ⟨B, k * 6 + 4, none⟩ = some (.int .i64 (f k 4)) := cell_later hb0 (HL.out k 4 hkn (by omega))
      have c5 : wr.cell? ⟨B, k * 6 + 5, none⟩ = some (.int .i64 (f k 5)) := cell_later hb0 (HL.out k 5 hkn (by omega))
      have V := hidden (VV.out k hkn)
      cases gk : g k with
      | true =>
        rw [gk] at V
        go_wp2_with (go_at_call 19; ((with_reducible refine (V.out _).mono ?_); rintro e w' ⟨rfl, hb⟩); (try replace hb := below_undrew hb); (try replace hb := below_undrewN hb); obtain ⟨hcell, hfroz⟩ := bcell hb; have hz := hb.size; (try simp at hz); (try (have z6 := Nat.lt_of_lt_of_le z7 hz)); (try (have z7 := Nat.lt_of_lt_of_le z8 hz)); (try (have z8 := Nat.lt_of_lt_of_le z9 hz)); (try (have z9 := Nat.lt_of_lt_of_le (Nat.lt_succ_self _) hz)); (try (have z0 : w.heap.size < w'.heap.size := by omega)); (try (have z1 : w.heap.size + 1 < w'.heap.size := by omega)); (try (have z2 : w.heap.size + 1 + 1 < w'.heap.size := by omega)); (try (have z3 : w.heap.size + 1 + 1 + 1 < w'.heap.size := by omega)); (try (have y1 : w1.heap.size < w'.heap.size := by omega)); (try (have y2 : w2.heap.size < w'.heap.size := by omega)); (try (have y3 : w3.heap.size < w'.heap.size := by omega)); (try (have y4 : w4.heap.size < w'.heap.size := by omega)); (try (have y5 : w5.heap.size < w'.heap.size := by omega)); (try (have y6 : w6.heap.size < w'.heap.size := by omega)); (try (have x1 : w1.heap.size + 1 < w'.heap.size := by omega)); (try (have x2 : w2.heap.size + 1 < w'.heap.size := by omega)); (try (have x3 : w3.heap.size + 1 < w'.heap.size := by omega)); (try (have x4 : w4.heap.size + 1 < w'.heap.size := by omega)); (try (have x5 : w5.heap.size + 1 < w'.heap.size := by omega)); (try (have x6 : w6.heap.size + 1 < w'.heap.size := by omega)); (try (have y7 : w7.heap.size < w'.heap.size := by omega)); (try (have y8 : w8.heap.size < w'.heap.size := by omega)); (try (have y9 : w9.heap.size < w'.heap.size := by omega)); (try (have z10 : w1.heap.size < w'.heap.size + 1 := by omega)); (try (have z20 : w2.heap.size < w'.heap.size + 1 := by omega)); (try (have z30 : w3.heap.size < w'.heap.size + 1 := by omega)); (try (have z40 : w4.heap.size < w'.heap.size + 1 := by omega)); (try (have z50 : w5.heap.size < w'.heap.size + 1 := by omega)); (try (have z60 : w6.heap.size < w'.heap.size + 1 := by omega)); (try (have z70 : w7.heap.size < w'.heap.size + 1 := by omega)); (try (have z80 : w8.heap.size < w'.heap.size + 1 := by omega)))
        exact ⟨⟨k + 1, by go_num, by omega, (fun i h => by rcases Nat.lt_or_ge i k with h4 | h4; exact hg.out i h4; obtain rfl : i = k := (by omega); exact gk), by (repeat (first | (with_reducible exact Below.refl _ _) | (with_reducible refine Below.setCell ?_ (by (first | (simp; done) | (simp; omega) | omega)) _) | (with_reducible refine bl_alloc ?_ _) | (with_reducible refine bl_drewN ?_) | (with_reducible refine bl_drew ?_) | (with_reducible refine bl_step (by assumption) ?_)))⟩, by simp [intOf]; omega⟩
      | false =>
        rw [gk] at V
        go_wp2_with (go_at_call 19; ((with_reducible refine (V.out _).mono ?_); rintro e w' ⟨rfl, hb⟩); (try replace hb := below_undrew hb); (try replace hb := below_undrewN hb); obtain ⟨hcell, hfroz⟩ := bcell hb; have hz := hb.size; (try simp at hz); (try (have z6 := Nat.lt_of_lt_of_le z7 hz)); (try (have z7 := Nat.lt_of_lt_of_le z8 hz)); (try (have z8 := Nat.lt_of_lt_of_le z9 hz)); (try (have z9 := Nat.lt_of_lt_of_le (Nat.lt_succ_self _) hz)); (try (have z0 : w.heap.size < w'.heap.size := by omega)); (try (have z1 : w.heap.size + 1 < w'.heap.size := by omega)); (try (have z2 : w.heap.size + 1 + 1 < w'.heap.size := by omega)); (try (have z3 : w.heap.size + 1 + 1 + 1 < w'.heap.size := by omega)); (try (have y1 : w1.heap.size < w'.heap.size := by omega)); (try (have y2 : w2.heap.size < w'.heap.size := by omega)); (try (have y3 : w3.heap.size < w'.heap.size := by omega)); (try (have y4 : w4.heap.size < w'.heap.size := by omega)); (try (have y5 : w5.heap.size < w'.heap.size := by omega)); (try (have y6 : w6.heap.size < w'.heap.size := by omega)); (try (have x1 : w1.heap.size + 1 < w'.heap.size := by omega)); (try (have x2 : w2.heap.size + 1 < w'.heap.size := by omega)); (try (have x3 : w3.heap.size + 1 < w'.heap.size := by omega)); (try (have x4 : w4.heap.size + 1 < w'.heap.size := by omega)); (try (have x5 : w5.heap.size + 1 < w'.heap.size := by omega)); (try (have x6 : w6.heap.size + 1 < w'.heap.size := by omega)); (try (have y7 : w7.heap.size < w'.heap.size := by omega)); (try (have y8 : w8.heap.size < w'.heap.size := by omega)); (try (have y9 : w9.heap.size < w'.heap.size := by omega)); (try (have z10 : w1.heap.size < w'.heap.size + 1 := by omega)); (try (have z20 : w2.heap.size < w'.heap.size + 1 := by omega)); (try (have z30 : w3.heap.size < w'.heap.size + 1 := by omega)); (try (have z40 : w4.heap.size < w'.heap.size + 1 := by omega)); (try (have z50 : w5.heap.size < w'.heap.size + 1 := by omega)); (try (have z60 : w6.heap.size < w'.heap.size + 1 := by omega)); (try (have z70 : w7.heap.size < w'.heap.size + 1 := by omega)); (try (have z80 : w8.heap.size < w'.heap.size + 1 := by omega)))
        go_ret
        obtain rfl : r = 1 := h1.out k hkn gk
        exact ⟨rfl, by (repeat (first | (with_reducible exact Below.refl _ _) | (with_reducible refine Below.setCell ?_ (by (first | (simp; done) | (simp; omega) | omega)) _) | (with_reducible refine bl_alloc ?_ _) | (with_reducible refine bl_drewN ?_) | (with_reducible refine bl_drew ?_) | (with_reducible refine bl_step (by assumption) ?_)))⟩
    · have q1 : decide (k < n) = false := by simp; omega
      have e : n = k := by omega
      subst e
      go_wp2
      go_loopw [19] (fun iv wr => ∃ k : Nat, iv = .int .i64 k ∧ k ≤ n ∧ Hid (∀ i, i < k → f i 0 = f 0 0 ∧ f i 1 = f 0 1) ∧ Below w.heap.size w wr) (fun iv _ => 40 - (intOf iv).toNat)
      case atStart => exact ⟨0, rfl, Nat.zero_le _, (fun i h => absurd h (by omega)), by (repeat (first | (with_reducible exact Below.refl _ _) | (with_reducible refine Below.setCell ?_ (by (first | (simp; done) | (simp; omega) | omega)) _) | (with_reducible refine bl_alloc ?_ _) | (with_reducible refine bl_drewN ?_) | (with_reducible refine bl_drew ?_) | (with_reducible refine bl_step (by assumption) ?_)))⟩
      case round =>
        obtain ⟨k, rfl, hk, hs, hb0⟩ := hrel
        have hz1 := hb0.size
        by_cases hkn2 : k < n
        · have q2 : decide (k < n) = true := by simp; omega
          have LB := HL.out.lt (by omega)
          have c0 : wr.cell? ⟨B, k * 6, none⟩ = some (.int .i64 (f k 0)) := cell_later hb0 (HL.out k 0 hkn2 (by omega))
          have c1 : wr.cell? ⟨B, k * 6 + 1, none⟩ = some (.int .i64 (f k 1)) := cell_later hb0 (HL.out k 1 hkn2 (by omega))
          have c2 : wr.cell? ⟨B, k * 6 + 2, none⟩ = some (.int .i64 (f k 2)) := cell_later hb0 (HL.out k 2 hkn2 (by omega))
          have c3 : wr.cell? ⟨B, k * 6 + 3, none⟩ = some (.int .i64 (f k 3)) := cell_later hb0 (HL.out k 3 hkn2 (by omega))
          have c4 : wr.cell? ⟨B, k * 6 + 4, none⟩ = some (.int .i64 (f k 4)) := cell_later hb0 (HL.out k 4 hkn2 (by omega))
          have c5 : wr.cell? ⟨B, k * 6 + 5, none⟩ = some (.int .i64 (f k 5)) := cell_later hb0 (HL.out k 5 hkn2 (by omega))
          have z0 : wr.cell? ⟨B, 0, none⟩ = some (.int .i64 (f 0 0)) := by have := cell_later hb0 (HL.out 0 0 (by omega) (by omega)); simpa using this
          have z1 : wr.cell? ⟨B, 1, none⟩ = some (.int .i64 (f 0 1)) := by have := cell_later hb0 (HL.out 0 1 (by omega) (by omega)); simpa using this
          have LB2 : B < wr.heap.size := by omega
          have q3 : 0 < n := by omega
          have q4 : decide (0 < n) = true := by simp; omega
          obtain ⟨x0, e0⟩ : ∃ x, f k 0 = x := ⟨_, rfl⟩
          obtain ⟨x1, e1⟩ : ∃ x, f k 1 = x := ⟨_, rfl⟩
          obtain ⟨y0, e2⟩ : ∃ x, f 0 0 = x := ⟨_, rfl⟩
          obtain ⟨y1, e3⟩ : ∃ x, f 0 1 = x := ⟨_, rfl⟩
          rw [e0] at c0
          rw [e1] at c1
          rw [e2] at z0
          rw [e3] at z1
          have EE := hidden (show (f k 0 = x0 ∧ f k 1 = x1) ∧ f 0 0 = y0 ∧ f 0 1 = y1 from ⟨⟨e0, e1⟩, e2, e3⟩)
          clear e0 e1 e2 e3
          by_cases hq : x0 = y0 ∧ x1 = y1
          · obtain ⟨rfl, rfl⟩ := hq
            go_wp2
            go_quiet (fail)
            go_wp2
            exact ⟨⟨k + 1, by go_num, by omega, (fun i h => by rcases Nat.lt_or_ge i k with h4 | h4; exact hs.out i h4; obtain rfl : i = k := (by omega); exact ⟨EE.out.1.1.trans EE.out.2.1.symm, EE.out.1.2.trans EE.out.2.2.symm⟩), by (repeat (first | exact Below.refl _ _ | refine bl_drewN ?_ | refine bl_drew ?_ | refine bl_alloc ?_ _ | refine Below.setCell ?_ (by (first | (simp; done) | (simp; omega) | omega)) _ | refine bl_step (by assumption) ?_))⟩, by simp [intOf]; omega⟩
          · have HR : Hid (r = 26) := hidden (h2.out hg.out k hkn2 (fun e => hq ⟨EE.out.1.1.symm.trans (e.1.trans EE.out.2.1), EE.out.1.2.symm.trans (e.2.trans EE.out.2.2)⟩))
            by_cases hx : x0 = y0
            · subst hx
              have hy : ¬ x1 = y1 := fun e => hq ⟨rfl, e⟩
              have hy2 : (x1 == y1) = false := by simp; exact hy
              go_wp2
              go_quiet (fail)
              go_wp2
              go_ret
              obtain rfl : r = 26 := HR.out
              exact ⟨rfl, by (repeat (first | exact Below.refl _ _ | refine bl_drewN ?_ | refine bl_drew ?_ | refine bl_alloc ?_ _ | refine Below.setCell ?_ (by (first | (simp; done) | (simp; omega) | omega)) _ | refine bl_step (by assumption) ?_))⟩
            · have hx2 : (x0 == y0) = false := by simp; exact hx
              go_wp2
              go_quiet (fail)
              go_wp2
              go_ret
              obtain rfl : r = 26 := HR.out
              exact ⟨rfl, by (repeat (first | exact Below.refl _ _ | refine bl_drewN ?_ | refine bl_drew ?_ | refine bl_alloc ?_ _ | refine Below.setCell ?_ (by (first | (simp; done) | (simp; omega) | omega)) _ | refine bl_step (by assumption) ?_))⟩
        · have q2 : decide (k < n) = false := by simp; omega
          have e : n = k := by omega
          subst e
          go_wp2
          go_ret
          obtain rfl : r = 0 := h3.out hg.out hs.out
          exact ⟨rfl, by (repeat (first | (with_reducible exact Below.refl _ _) | (with_reducible refine Below.setCell ?_ (by (first | (simp; done) | (simp; omega) | omega)) _) | (with_reducible refine bl_alloc ?_ _) | (with_reducible refine bl_drewN ?_) | (with_reducible refine bl_drew ?_) | (with_reducible refine bl_step (by assumption) ?_)))⟩

end Go.Proofs.Ytjceofmhodcefaa

namespace Go.Proofs.Ytjceofmhodcefaa
open Go.RowKit

theorem nonzero_0 (w : World) : Calls Try.prog 15 #[.int .i64 0] w fun e w' => e = .returned (.bool false) ∧ Below w.heap.size w w' := by
  go_enter Try.func15, Try.ntmps15
  go_wp2
  go_ret
  exact ⟨rfl, by (repeat (first | exact Below.refl _ _ | refine bl_drewN ?_ | refine bl_drew ?_ | refine bl_alloc ?_ _ | refine Below.setCell ?_ (by (first | (simp; done) | (simp; omega) | omega)) _ | refine bl_step (by assumption) ?_))⟩
set_option maxRecDepth 100000 in
set_option maxHeartbeats 2000000 in
theorem index_none (B n c : Nat) (w : World) (n0 : n ≤ 20) (h : Hid (∀ i, i < n → w.cell? ⟨B, i, none⟩ = some (.int .i64 0))) :
    Calls Try.prog 43 #[.slice (some ⟨B, 0, none⟩) n c, .func (.func 15) #[] #[]] w fun e w' => e = .returned (.int .i64 (-1)) ∧ Below w.heap.size w w' := by
  have Z := hidden nonzero_0
  go_enter Try.func43, Try.ntmps43
  go_wp2
  go_loopw [8] (fun iv wr => ∃ k : Nat, iv = .int .i64 k ∧ k ≤ n ∧ Below w.heap.size w wr) (fun iv _ => 40 - (intOf iv).toNat)
  case atStart => exact ⟨0, rfl, Nat.zero_le _, Below.refl _ _⟩
  case round =>
    obtain ⟨k, rfl, hk, hb0⟩ := hrel
    by_cases hkn : k < n
    · have q1 : decide (k < n) = true := by simp; omega
      have c0 := cell_later hb0 (h.out k hkn)
      go_wp2_with (go_at_call 15; ((with_reducible refine (Z.out _).mono ?_); rintro e w' ⟨rfl, hb⟩); (try replace hb := below_undrew hb); (try replace hb := below_undrewN hb); obtain ⟨hcell, hfroz⟩ := bcell hb; have hz := hb.size; (try simp at hz); (try (have z6 := Nat.lt_of_lt_of_le z7 hz)); (try (have z7 := Nat.lt_of_lt_of_le z8 hz)); (try (have z8 := Nat.lt_of_lt_of_le z9 hz)); (try (have z9 := Nat.lt_of_lt_of_le (Nat.lt_succ_self _) hz)); (try (have z0 : w.heap.size < w'.heap.size := by omega)); (try (have z1 : w.heap.size + 1 < w'.heap.size := by omega)); (try (have z2 : w.heap.size + 1 + 1 < w'.heap.size := by omega)); (try (have z3 : w.heap.size + 1 + 1 + 1 < w'.heap.size := by omega)); (try (have y1 : w1.heap.size < w'.heap.size := by omega)); (try (have y2 : w2.heap.size < w'.heap.size := by omega)); (try (have y3 : w3.heap.size < w'.heap.size := by omega)); (try (have y4 : w4.heap.size < w'.heap.size := by omega)); (try (have y5 : w5.heap.size < w'.heap.size := by omega)); (try (have y6 : w6.heap.size < w'.heap.size := by omega)); (try (have x1 : w1.heap.size + 1 < w'.heap.size := by omega)); (try (have x2 : w2.heap.size + 1 < w'.heap.size := by omega)); (try (have x3 : w3.heap.size + 1 < w'.heap.size := by omega)); (try (have x4 : w4.heap.size + 1 < w'.heap.size := by omega)); (try (have x5 : w5.heap.size + 1 < w'.heap.size := by omega)); (try (have x6 : w6.heap.size + 1 < w'.heap.size := by omega)); (try (have y7 : w7.heap.size < w'.heap.size := by omega)); (try (have y8 : w8.heap.size < w'.heap.size := by omega)); (try (have y9 : w9.heap.size < w'.heap.size := by omega)); (try (have z10 : w1.heap.size < w'.heap.size + 1 := by omega)); (try (have z20 : w2.heap.size < w'.heap.size + 1 := by omega)); (try (have z30 : w3.heap.size < w'.heap.size + 1 := by omega)); (try (have z40 : w4.heap.size < w'.heap.size + 1 := by omega)); (try (have z50 : w5.heap.size < w'.heap.size + 1 := by omega)); (try (have z60 : w6.heap.size < w'.heap.size + 1 := by omega)); (try (have z70 : w7.heap.size < w'.heap.size + 1 := by omega)); (try (have z80 : w8.heap.size < w'.heap.size + 1 := by omega)))
      exact ⟨⟨k + 1, by go_num, by omega, by (repeat (first | (with_reducible exact Below.refl _ _) | (with_reducible refine Below.setCell ?_ (by (first | (simp; done) | (simp; omega) | omega)) _) | (with_reducible refine bl_alloc ?_ _) | (with_reducible refine bl_drewN ?_) | (with_reducible refine bl_drew ?_) | (with_reducible refine bl_step (by assumption) ?_)))⟩, by simp [intOf]; omega⟩
    · have q1 : decide (k < n) = false := by simp; omega
      go_wp2
      go_ret
      exact ⟨rfl, by (repeat (first | (with_reducible exact Below.refl _ _) | (with_reducible refine Below.setCell ?_ (by (first | (simp; done) | (simp; omega) | omega)) _) | (with_reducible refine bl_alloc ?_ _) | (with_reducible refine bl_drewN ?_) | (with_reducible refine bl_drew ?_) | (with_reducible refine bl_step (by assumption) ?_)))⟩
theorem contains_none (B n c : Nat) (w : World) (n0 : n ≤ 20) (h : Hid (∀ i, i < n → w.cell? ⟨B, i, none⟩ = some (.int .i64 0))) :
    Calls Try.prog 14 #[.slice (some ⟨B, 0, none⟩) n c, .func (.func 15) #[] #[]] w fun e w' => e = .returned (.bool false) ∧ Below w.heap.size w w' := by
  have I := hidden (index_none B n c w n0 h)
  go_enter Try.func14, Try.ntmps14
  go_wp2_with (go_at_call 43; ((with_reducible refine I.out.mono ?_); rintro e w' ⟨rfl, hb⟩); (try replace hb := below_undrew hb); (try replace hb := below_undrewN hb); obtain ⟨hcell, hfroz⟩ := bcell hb; have hz := hb.size; (try simp at hz); (try (have z6 := Nat.lt_of_lt_of_le z7 hz)); (try (have z7 := Nat.lt_of_lt_of_le z8 hz)); (try (have z8 := Nat.lt_of_lt_of_le z9 hz)); (try (have z9 := Nat.lt_of_lt_of_le (Nat.lt_succ_self _) hz)); (try (have z0 : w.heap.size < w'.heap.size := by omega)); (try (have z1 : w.heap.size + 1 < w'.heap.size := by omega)); (try (have z2 : w.heap.size + 1 + 1 < w'.heap.size := by omega)); (try (have z3 : w.heap.size + 1 + 1 + 1 < w'.heap.size := by omega)); (try (have y1 : w1.heap.size < w'.heap.size := by omega)); (try (have y2 : w2.heap.size < w'.heap.size := by omega)); (try (have y3 : w3.heap.size < w'.heap.size := by omega)); (try (have y4 : w4.heap.size < w'.heap.size := by omega)); (try (have y5 : w5.heap.size < w'.heap.size := by omega)); (try (have y6 : w6.heap.size < w'.heap.size := by omega)); (try (have x1 : w1.heap.size + 1 < w'.heap.size := by omega)); (try (have x2 : w2.heap.size + 1 < w'.heap.size := by omega)); (try (have x3 : w3.heap.size + 1 < w'.heap.size := by omega)); (try (have x4 : w4.heap.size + 1 < w'.heap.size := by omega)); (try (have x5 : w5.heap.size + 1 < w'.heap.size := by omega)); (try (have x6 : w6.heap.size + 1 < w'.heap.size := by omega)); (try (have y7 : w7.heap.size < w'.heap.size := by omega)); (try (have y8 : w8.heap.size < w'.heap.size := by omega)); (try (have y9 : w9.heap.size < w'.heap.size := by omega)); (try (have z10 : w1.heap.size < w'.heap.size + 1 := by omega)); (try (have z20 : w2.heap.size < w'.heap.size + 1 := by omega)); (try (have z30 : w3.heap.size < w'.heap.size + 1 := by omega)); (try (have z40 : w4.heap.size < w'.heap.size + 1 := by omega)); (try (have z50 : w5.heap.size < w'.heap.size + 1 := by omega)); (try (have z60 : w6.heap.size < w'.heap.size + 1 := by omega)); (try (have z70 : w7.heap.size < w'.heap.size + 1 := by omega)); (try (have z80 : w8.heap.size < w'.heap.size + 1 := by omega)))
  go_ret
  exact ⟨rfl, by (repeat (first | (with_reducible exact Below.refl _ _) | (with_reducible refine Below.setCell ?_ (by (first | (simp; done) | (simp; omega) | omega)) _) | (with_reducible refine bl_alloc ?_ _) | (with_reducible refine bl_drewN ?_) | (with_reducible refine bl_drew ?_) | (with_reducible refine bl_step (by assumption) ?_)))⟩

end Go.Proofs.Ytjceofmhodcefaa
