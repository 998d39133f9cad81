/- The chain of operations of package lines, as contracts: while there is no error, its methods only read. -/
import Derived.Test.YtjceofmhodcefaaTrig5
import Derived.Test.YtjceofmhodcefaaPol
import Derived.Test.YtjceofmhodcefaaRotE
import Derived.Test.YtjceofmhodcefaaTrig7
import Derived.Test.YtjceofmhodcefaaFixC
import Derived.Test.YtjceofmhodcefaaAng3
namespace Go.Proofs.Ytjceofmhodcefaa
open Go.RowKit

/-- a store of what a cell holds changes nothing -/
theorem setCell_self {w : World} {b i : Nat} {v : Value} (h : w.cell? ⟨b, i, none⟩ = some v) : w.setCell ⟨b, i, none⟩ v = w := by
  unfold World.setCell
  cases w with
  | mk heap tape drawn os output =>
    simp only [World.mk.injEq, and_true]
    apply Array.ext
    · simp
    · intro k h1 h2
      simp only [Array.getElem_modify]
      split
      · rename_i e
        subst e
        have hk : heap[b]? = some heap[b] := by simp
        simp only [World.cell?, hk] at h
        cases hc : heap[b] with
        | cells c t f =>
          rw [hc] at h
          simp at h
          show Obj.cells (c.setIfInBounds i v) t f = Obj.cells c t f
          congr 1
          apply Array.ext_getElem?
          intro j
          rw [Array.getElem?_setIfInBounds]
          split
          · rename_i e2
            subst e2
            split
            · exact h.symm
            · rename_i e3
              simp only [Array.getElem?_eq_none (Nat.le_of_not_lt e3)] at h
              cases h
          · rfl
        | _ => rfl
      · rfl

theorem keep_any (B : Nat) (w : World) (h : w.cell? ⟨B, 0, none⟩ = some (.int .i64 0)) (hf : w.frozen? ⟨B, 0, none⟩ = false) :
    Calls Try.prog 33 #[.pointer (some ⟨B, 0, none⟩), .int .i64 0] w fun e w' => e = .returned (.tuple #[]) ∧ w = w' := by
  go_enter Try.func33, Try.ntmps33
  go_wp2
  go_end0
  exact ⟨rfl, (setCell_self h).symm⟩

/-- what a chain without an error holds -/
def okAt (w : World) (B : Nat) : Prop := w.cell? ⟨B, 0, none⟩ = some (.int .i64 0) ∧ w.frozen? ⟨B, 0, none⟩ = false
theorem okAt_later {w w' : World} {B : Nat} (hb : Below w.heap.size w w') (h : okAt w B) : okAt w' B :=
  have l := World.block_lt_of_cell? _ _ h.1
  ⟨(hb.cell (p := ⟨B, 0, none⟩) l).trans h.1, (hb.frozen (p := ⟨B, 0, none⟩) l).trans h.2⟩
theorem okAt_lt {w : World} {B : Nat} (h : okAt w B) : B < w.heap.size := World.block_lt_of_cell? _ _ h.1

set_option maxHeartbeats 1000000 in
theorem psin_any (a b : Int) (B1 : Nat) (w : World) (h : okAt w B1) (ha : arcV a b = true) :
    Calls Try.prog 34 #[.pointer (some ⟨B1, 0, none⟩), .agg #[.int .i64 (a), .int .i64 (b)]] w fun e w' => e = .returned (.agg #[.int .i64 (encLo a b), .int .i64 (encHi a b)]) ∧ Below w.heap.size w w' := by
  have S := hidden fun w => sin_ok a b w ha
  have h3 := okAt_lt h; have h4 : B1 < w.heap.size + 1 := (by omega); have h5 : B1 < w.heap.size + 1 + 1 := (by omega); have h6 : B1 < w.heap.size + 1 + 1 + 1 := (by omega); have h7 : B1 < w.heap.size + 1 + 1 + 1 + 1 := (by omega); obtain ⟨h1, h2⟩ := h
  go_enter Try.func34, Try.ntmps34
  go_wp2_with (first | (go_at_call 54; ((with_reducible refine (S.out _).mono ?_); rintro e w' ⟨rfl, hb⟩); (try replace hb := below_undrew hb); (try replace hb := below_undrewN hb); obtain ⟨hcell, hfroz⟩ := bcell hb; have hz := hb.size; (try simp at hz); (try (have z6 := Nat.lt_of_lt_of_le z7 hz)); (try (have z7 := Nat.lt_of_lt_of_le z8 hz)); (try (have z8 := Nat.lt_of_lt_of_le z9 hz)); (try (have z9 := Nat.lt_of_lt_of_le (Nat.lt_succ_self _) hz)); (try (have z0 : w.heap.size < w'.heap.size := by omega)); (try (have z1 : w.heap.size + 1 < w'.heap.size := by omega)); (try (have z2 : w.heap.size + 1 + 1 < w'.heap.size := by omega)); (try (have z3 : w.heap.size + 1 + 1 + 1 < w'.heap.size := by omega)); (try (have y1 : w1.heap.size < w'.heap.size := by omega)); (try (have y2 : w2.heap.size < w'.heap.size := by omega)); (try (have y3 : w3.heap.size < w'.heap.size := by omega)); (try (have y4 : w4.heap.size < w'.heap.size := by omega)); (try (have y5 : w5.heap.size < w'.heap.size := by omega)); (try (have y6 : w6.heap.size < w'.heap.size := by omega)); (try (have x1 : w1.heap.size + 1 < w'.heap.size := by omega)); (try (have x2 : w2.heap.size + 1 < w'.heap.size := by omega)); (try (have x3 : w3.heap.size + 1 < w'.heap.size := by omega)); (try (have x4 : w4.heap.size + 1 < w'.heap.size := by omega)); (try (have x5 : w5.heap.size + 1 < w'.heap.size := by omega)); (try (have x6 : w6.heap.size + 1 < w'.heap.size := by omega)); (try (have hB1 : B1 < w'.heap.size := by omega)); (try (have hB2 : B2 < w'.heap.size := by omega)); (try (have hB3 : B1 < w'.heap.size + 1 := by omega)); (try (have hB4 : B2 < w'.heap.size + 1 := by omega))) | (go_at_call 33; ((with_reducible refine (keep_any _ _ ?hc ?hf).mono ?_); (case hc => (simp [go_sem, *]; done)); (case hf => (simp [go_sem, *]; done)); rintro e w' ⟨rfl, rfl⟩)))
  exact bodyPost_ret (v := .agg #[.int .i64 (encLo a b), .int .i64 (encHi a b)]) (by first | (simp only [results, Try.results34]; go_simp; done) | simp [results, Try.results34, go_sem, *]) rfl ⟨rfl, by (repeat (first | exact Below.refl _ _ | refine bl_drewN ?_ | refine bl_drew ?_ | refine bl_alloc ?_ _ | refine Below.setCell ?_ (by (first | (simp; done) | (simp; omega) | omega)) _ | refine bl_step (by assumption) ?_))⟩
set_option maxHeartbeats 1000000 in
theorem pcos_any (a b : Int) (B1 : Nat) (w : World) (h : okAt w B1) (ha : arcV a b = true) :
    Calls Try.prog 30 #[.pointer (some ⟨B1, 0, none⟩), .agg #[.int .i64 (a), .int .i64 (b)]] w fun e w' => e = .returned (.agg #[.int .i64 (encLo (a + 5400000) (b + 5400000)), .int .i64 (encHi (a + 5400000) (b + 5400000))]) ∧ Below w.heap.size w w' := by
  have S := hidden fun w => cos_ok a b w ha
  have h3 := okAt_lt h; have h4 : B1 < w.heap.size + 1 := (by omega); have h5 : B1 < w.heap.size + 1 + 1 := (by omega); have h6 : B1 < w.heap.size + 1 + 1 + 1 := (by omega); have h7 : B1 < w.heap.size + 1 + 1 + 1 + 1 := (by omega); obtain ⟨h1, h2⟩ := h
  go_enter Try.func30, Try.ntmps30
  go_wp2_with (first | (go_at_call 53; ((with_reducible refine (S.out _).mono ?_); rintro e w' ⟨rfl, hb⟩); (try replace hb := below_undrew hb); (try replace hb := below_undrewN hb); obtain ⟨hcell, hfroz⟩ := bcell hb; have hz := hb.size; (try simp at hz); (try (have z6 := Nat.lt_of_lt_of_le z7 hz)); (try (have z7 := Nat.lt_of_lt_of_le z8 hz)); (try (have z8 := Nat.lt_of_lt_of_le z9 hz)); (try (have z9 := Nat.lt_of_lt_of_le (Nat.lt_succ_self _) hz)); (try (have z0 : w.heap.size < w'.heap.size := by omega)); (try (have z1 : w.heap.size + 1 < w'.heap.size := by omega)); (try (have z2 : w.heap.size + 1 + 1 < w'.heap.size := by omega)); (try (have z3 : w.heap.size + 1 + 1 + 1 < w'.heap.size := by omega)); (try (have y1 : w1.heap.size < w'.heap.size := by omega)); (try (have y2 : w2.heap.size < w'.heap.size := by omega)); (try (have y3 : w3.heap.size < w'.heap.size := by omega)); (try (have y4 : w4.heap.size < w'.heap.size := by omega)); (try (have y5 : w5.heap.size < w'.heap.size := by omega)); (try (have y6 : w6.heap.size < w'.heap.size := by omega)); (try (have x1 : w1.heap.size + 1 < w'.heap.size := by omega)); (try (have x2 : w2.heap.size + 1 < w'.heap.size := by omega)); (try (have x3 : w3.heap.size + 1 < w'.heap.size := by omega)); (try (have x4 : w4.heap.size + 1 < w'.heap.size := by omega)); (try (have x5 : w5.heap.size + 1 < w'.heap.size := by omega)); (try (have x6 : w6.heap.size + 1 < w'.heap.size := by omega)); (try (have hB1 : B1 < w'.heap.size := by omega)); (try (have hB2 : B2 < w'.heap.size := by omega)); (try (have hB3 : B1 < w'.heap.size + 1 := by omega)); (try (have hB4 : B2 < w'.heap.size + 1 := by omega))) | (go_at_call 33; ((with_reducible refine (keep_any _ _ ?hc ?hf).mono ?_); (case hc => (simp [go_sem, *]; done)); (case hf => (simp [go_sem, *]; done)); rintro e w' ⟨rfl, rfl⟩)))
  exact bodyPost_ret (v := .agg #[.int .i64 (encLo (a + 5400000) (b + 5400000)), .int .i64 (encHi (a + 5400000) (b + 5400000))]) (by first | (simp only [results, Try.results30]; go_simp; done) | simp [results, Try.results30, go_sem, *]) rfl ⟨rfl, by (repeat (first | exact Below.refl _ _ | refine bl_drewN ?_ | refine bl_drew ?_ | refine bl_alloc ?_ _ | refine Below.setCell ?_ (by (first | (simp; done) | (simp; omega) | omega)) _ | refine bl_step (by assumption) ?_))⟩

/-- the least arc of the products of an arc and an interval -/
def tmLo (a b f g : Int) : Int := min (cLo f g 1073741824 1073741824 a) (cLo f g 1073741824 1073741824 b)
def tmHi (a b f g : Int) : Int := max (cHi f g 1073741824 1073741824 a) (cHi f g 1073741824 1073741824 b)
set_option maxHeartbeats 1000000 in
theorem ptimes_walk (a b f g x y p q : Int) (B1 : Nat) (w : World) (h : okAt w B1)
    (S1 : Hid (∀ w, Calls Try.prog 52 #[.agg #[.int .i64 (f), .int .i64 (g)], .int .i64 a] w fun e w' => e = .returned (.tuple #[.int .i64 x, .int .i64 y, .int .i64 0]) ∧ Below w.heap.size w w'))
    (S2 : Hid (∀ w, Calls Try.prog 52 #[.agg #[.int .i64 (f), .int .i64 (g)], .int .i64 b] w fun e w' => e = .returned (.tuple #[.int .i64 p, .int .i64 q, .int .i64 0]) ∧ Below w.heap.size w w')) :
    Calls Try.prog 29 #[.pointer (some ⟨B1, 0, none⟩), .agg #[.int .i64 (a), .int .i64 (b)], .agg #[.int .i64 (f), .int .i64 (g)]] w fun e w' => e = .returned (.agg #[.int .i64 (min x p), .int .i64 (max y q)]) ∧ Below w.heap.size w w' := by
  have h3 := okAt_lt h; have h4 : B1 < w.heap.size + 1 := (by omega); have h5 : B1 < w.heap.size + 1 + 1 := (by omega); have h6 : B1 < w.heap.size + 1 + 1 + 1 := (by omega); have h7 : B1 < w.heap.size + 1 + 1 + 1 + 1 := (by omega); obtain ⟨h1, h2⟩ := h
  go_enter Try.func29, Try.ntmps29
  go_wp2_with (first | (go_at_call 52; ((with_reducible refine (S1.out _).mono ?_); rintro e w' ⟨rfl, hb⟩); (try replace hb := below_undrew hb); (try replace hb := below_undrewN hb); obtain ⟨hcell, hfroz⟩ := bcell hb; have hz := hb.size; (try simp at hz); (try (have z6 := Nat.lt_of_lt_of_le z7 hz)); (try (have z7 := Nat.lt_of_lt_of_le z8 hz)); (try (have z8 := Nat.lt_of_lt_of_le z9 hz)); (try (have z9 := Nat.lt_of_lt_of_le (Nat.lt_succ_self _) hz)); (try (have z0 : w.heap.size < w'.heap.size := by omega)); (try (have z1 : w.heap.size + 1 < w'.heap.size := by omega)); (try (have z2 : w.heap.size + 1 + 1 < w'.heap.size := by omega)); (try (have z3 : w.heap.size + 1 + 1 + 1 < w'.heap.size := by omega)); (try (have y1 : w1.heap.size < w'.heap.size := by omega)); (try (have y2 : w2.heap.size < w'.heap.size := by omega)); (try (have y3 : w3.heap.size < w'.heap.size := by omega)); (try (have y4 : w4.heap.size < w'.heap.size := by omega)); (try (have y5 : w5.heap.size < w'.heap.size := by omega)); (try (have y6 : w6.heap.size < w'.heap.size := by omega)); (try (have x1 : w1.heap.size + 1 < w'.heap.size := by omega)); (try (have x2 : w2.heap.size + 1 < w'.heap.size := by omega)); (try (have x3 : w3.heap.size + 1 < w'.heap.size := by omega)); (try (have x4 : w4.heap.size + 1 < w'.heap.size := by omega)); (try (have x5 : w5.heap.size + 1 < w'.heap.size := by omega)); (try (have x6 : w6.heap.size + 1 < w'.heap.size := by omega)); (try (have hB1 : B1 < w'.heap.size := by omega)); (try (have hB2 : B2 < w'.heap.size := by omega)); (try (have hB3 : B1 < w'.heap.size + 1 := by omega)); (try (have hB4 : B2 < w'.heap.size + 1 := by omega))) | (go_at_call 52; ((with_reducible refine (S2.out _).mono ?_); rintro e w' ⟨rfl, hb⟩); (try replace hb := below_undrew hb); (try replace hb := below_undrewN hb); obtain ⟨hcell, hfroz⟩ := bcell hb; have hz := hb.size; (try simp at hz); (try (have z6 := Nat.lt_of_lt_of_le z7 hz)); (try (have z7 := Nat.lt_of_lt_of_le z8 hz)); (try (have z8 := Nat.lt_of_lt_of_le z9 hz)); (try (have z9 := Nat.lt_of_lt_of_le (Nat.lt_succ_self _) hz)); (try (have z0 : w.heap.size < w'.heap.size := by omega)); (try (have z1 : w.heap.size + 1 < w'.heap.size := by omega)); (try (have z2 : w.heap.size + 1 + 1 < w'.heap.size := by omega)); (try (have z3 : w.heap.size + 1 + 1 + 1 < w'.heap.size := by omega)); (try (have y1 : w1.heap.size < w'.heap.size := by omega)); (try (have y2 : w2.heap.size < w'.heap.size := by omega)); (try (have y3 : w3.heap.size < w'.heap.size := by omega)); (try (have y4 : w4.heap.size < w'.heap.size := by omega)); (try (have y5 : w5.heap.size < w'.heap.size := by omega)); (try (have y6 : w6.heap.size < w'.heap.size := by omega)); (try (have x1 : w1.heap.size + 1 < w'.heap.size := by omega)); (try (have x2 : w2.heap.size + 1 < w'.heap.size := by omega)); (try (have x3 : w3.heap.size + 1 < w'.heap.size := by omega)); (try (have x4 : w4.heap.size + 1 < w'.heap.size := by omega)); (try (have x5 : w5.heap.size + 1 < w'.heap.size := by omega)); (try (have x6 : w6.heap.size + 1 < w'.heap.size := by omega)); (try (have hB1 : B1 < w'.heap.size := by omega)); (try (have hB2 : B2 < w'.heap.size := by omega)); (try (have hB3 : B1 < w'.heap.size + 1 := by omega)); (try (have hB4 : B2 < w'.heap.size + 1 := by omega))) | (go_at_call 33; ((with_reducible refine (keep_any _ _ ?hc ?hf).mono ?_); (case hc => (simp [go_sem, *]; done)); (case hf => (simp [go_sem, *]; done)); rintro e w' ⟨rfl, rfl⟩)))
  exact bodyPost_ret (v := .agg #[.int .i64 (min x p), .int .i64 (max y q)]) (by first | (simp only [results, Try.results29]; go_simp; done) | simp [results, Try.results29, go_sem, *]) rfl ⟨rfl, by (repeat (first | exact Below.refl _ _ | refine bl_drewN ?_ | refine bl_drew ?_ | refine bl_alloc ?_ _ | refine Below.setCell ?_ (by (first | (simp; done) | (simp; omega) | omega)) _ | refine bl_step (by assumption) ?_))⟩
theorem ptimes_any (a b f g : Int) (B1 : Nat) (w : World) (h : okAt w B1) (hf : fixB f g = true) (ha : reachB a = true) (hb : reachB b = true) :
    Calls Try.prog 29 #[.pointer (some ⟨B1, 0, none⟩), .agg #[.int .i64 (a), .int .i64 (b)], .agg #[.int .i64 (f), .int .i64 (g)]] w fun e w' => e = .returned (.agg #[.int .i64 (tmLo a b f g), .int .i64 (tmHi a b f g)]) ∧ Below w.heap.size w w' :=
  ptimes_walk a b f g _ _ _ _ B1 w h (hidden fun w => scale_any f g a w hf ha) (hidden fun w => scale_any f g b w hf hb)

def altB (a b : Int) : Bool := arcB a b && (decide (-5400000 ≤ a) && decide (b ≤ 5400000))
theorem altitude_any (a b : Int) (w : World) :
    Calls Try.prog 37 #[.agg #[.int .i64 (a), .int .i64 (b)]] w fun e w' => e = .returned (.bool (altB a b)) ∧ Below w.heap.size w w' := by
  obtain ⟨v, hv⟩ : ∃ v, altB a b = v := ⟨_, rfl⟩
  rw [hv]
  unfold altB at hv
  have V := hidden fun w => valid_any a b w
  cases h : arcB a b
  · rw [h] at V
    have H : Hid (false = v) := by rw [← hv]; unfold Hid; simp [h]
    clear hv h
    go_enter Try.func37, Try.ntmps37
    go_wp2_with (go_at_call 24; ((with_reducible refine (V.out _).mono ?_); rintro e w' ⟨rfl, hb⟩); (try replace hb := below_undrew hb); (try replace hb := below_undrewN hb); obtain ⟨hcell, hfroz⟩ := bcell hb; have hz := hb.size; (try simp at hz); (try (have z6 := Nat.lt_of_lt_of_le z7 hz)); (try (have z7 := Nat.lt_of_lt_of_le z8 hz)); (try (have z8 := Nat.lt_of_lt_of_le z9 hz)); (try (have z9 := Nat.lt_of_lt_of_le (Nat.lt_succ_self _) hz)); (try (have z0 : w.heap.size < w'.heap.size := by omega)); (try (have z1 : w.heap.size + 1 < w'.heap.size := by omega)); (try (have z2 : w.heap.size + 1 + 1 < w'.heap.size := by omega)); (try (have z3 : w.heap.size + 1 + 1 + 1 < w'.heap.size := by omega)); (try (have y1 : w1.heap.size < w'.heap.size := by omega)); (try (have y2 : w2.heap.size < w'.heap.size := by omega)); (try (have y3 : w3.heap.size < w'.heap.size := by omega)); (try (have y4 : w4.heap.size < w'.heap.size := by omega)); (try (have y5 : w5.heap.size < w'.heap.size := by omega)); (try (have y6 : w6.heap.size < w'.heap.size := by omega)); (try (have x1 : w1.heap.size + 1 < w'.heap.size := by omega)); (try (have x2 : w2.heap.size + 1 < w'.heap.size := by omega)); (try (have x3 : w3.heap.size + 1 < w'.heap.size := by omega)); (try (have x4 : w4.heap.size + 1 < w'.heap.size := by omega)); (try (have x5 : w5.heap.size + 1 < w'.heap.size := by omega)); (try (have x6 : w6.heap.size + 1 < w'.heap.size := by omega)); (try (have hB1 : B1 < w'.heap.size := by omega)); (try (have hB2 : B2 < w'.heap.size := by omega)); (try (have hB3 : B1 < w'.heap.size + 1 := by omega)); (try (have hB4 : B2 < w'.heap.size + 1 := by omega)))
    go_ret
    exact ⟨by rw [← H.out]; rfl, by (repeat (first | exact Below.refl _ _ | refine bl_drewN ?_ | refine bl_drew ?_ | refine bl_alloc ?_ _ | refine Below.setCell ?_ (by (first | (simp; done) | (simp; omega) | omega)) _ | refine bl_step (by assumption) ?_))⟩
  · rw [h] at V
    by_cases h1 : -5400000 ≤ a
    · have H : Hid (decide (b ≤ 5400000) = v) := by rw [← hv]; unfold Hid; simp [h, h1]
      clear hv h
      go_enter Try.func37, Try.ntmps37
      go_wp2_with (go_at_call 24; ((with_reducible refine (V.out _).mono ?_); rintro e w' ⟨rfl, hb⟩); (try replace hb := below_undrew hb); (try replace hb := below_undrewN hb); obtain ⟨hcell, hfroz⟩ := bcell hb; have hz := hb.size; (try simp at hz); (try (have z6 := Nat.lt_of_lt_of_le z7 hz)); (try (have z7 := Nat.lt_of_lt_of_le z8 hz)); (try (have z8 := Nat.lt_of_lt_of_le z9 hz)); (try (have z9 := Nat.lt_of_lt_of_le (Nat.lt_succ_self _) hz)); (try (have z0 : w.heap.size < w'.heap.size := by omega)); (try (have z1 : w.heap.size + 1 < w'.heap.size := by omega)); (try (have z2 : w.heap.size + 1 + 1 < w'.heap.size := by omega)); (try (have z3 : w.heap.size + 1 + 1 + 1 < w'.heap.size := by omega)); (try (have y1 : w1.heap.size < w'.heap.size := by omega)); (try (have y2 : w2.heap.size < w'.heap.size := by omega)); (try (have y3 : w3.heap.size < w'.heap.size := by omega)); (try (have y4 : w4.heap.size < w'.heap.size := by omega)); (try (have y5 : w5.heap.size < w'.heap.size := by omega)); (try (have y6 : w6.heap.size < w'.heap.size := by omega)); (try (have x1 : w1.heap.size + 1 < w'.heap.size := by omega)); (try (have x2 : w2.heap.size + 1 < w'.heap.size := by omega)); (try (have x3 : w3.heap.size + 1 < w'.heap.size := by omega)); (try (have x4 : w4.heap.size + 1 < w'.heap.size := by omega)); (try (have x5 : w5.heap.size + 1 < w'.heap.size := by omega)); (try (have x6 : w6.heap.size + 1 < w'.heap.size := by omega)); (try (have hB1 : B1 < w'.heap.size := by omega)); (try (have hB2 : B2 < w'.heap.size := by omega)); (try (have hB3 : B1 < w'.heap.size + 1 := by omega)); (try (have hB4 : B2 < w'.heap.size + 1 := by omega)))
      go_ret
      exact ⟨by rw [← H.out]; rfl, by (repeat (first | exact Below.refl _ _ | refine bl_drewN ?_ | refine bl_drew ?_ | refine bl_alloc ?_ _ | refine Below.setCell ?_ (by (first | (simp; done) | (simp; omega) | omega)) _ | refine bl_step (by assumption) ?_))⟩
    · have H : Hid (false = v) := by rw [← hv]; unfold Hid; simp [h, h1]
      clear hv h
      go_enter Try.func37, Try.ntmps37
      go_wp2_with (go_at_call 24; ((with_reducible refine (V.out _).mono ?_); rintro e w' ⟨rfl, hb⟩); (try replace hb := below_undrew hb); (try replace hb := below_undrewN hb); obtain ⟨hcell, hfroz⟩ := bcell hb; have hz := hb.size; (try simp at hz); (try (have z6 := Nat.lt_of_lt_of_le z7 hz)); (try (have z7 := Nat.lt_of_lt_of_le z8 hz)); (try (have z8 := Nat.lt_of_lt_of_le z9 hz)); (try (have z9 := Nat.lt_of_lt_of_le (Nat.lt_succ_self _) hz)); (try (have z0 : w.heap.size < w'.heap.size := by omega)); (try (have z1 : w.heap.size + 1 < w'.heap.size := by omega)); (try (have z2 : w.heap.size + 1 + 1 < w'.heap.size := by omega)); (try (have z3 : w.heap.size + 1 + 1 + 1 < w'.heap.size := by omega)); (try (have y1 : w1.heap.size < w'.heap.size := by omega)); (try (have y2 : w2.heap.size < w'.heap.size := by omega)); (try (have y3 : w3.heap.size < w'.heap.size := by omega)); (try (have y4 : w4.heap.size < w'.heap.size := by omega)); (try (have y5 : w5.heap.size < w'.heap.size := by omega)); (try (have y6 : w6.heap.size < w'.heap.size := by omega)); (try (have x1 : w1.heap.size + 1 < w'.heap.size := by omega)); (try (have x2 : w2.heap.size + 1 < w'.heap.size := by omega)); (try (have x3 : w3.heap.size + 1 < w'.heap.size := by omega)); (try (have x4 : w4.heap.size + 1 < w'.heap.size := by omega)); (try (have x5 : w5.heap.size + 1 < w'.heap.size := by omega)); (try (have x6 : w6.heap.size + 1 < w'.heap.size := by omega)); (try (have hB1 : B1 < w'.heap.size := by omega)); (try (have hB2 : B2 < w'.heap.size := by omega)); (try (have hB3 : B1 < w'.heap.size + 1 := by omega)); (try (have hB4 : B2 < w'.heap.size + 1 := by omega)))
      go_ret
      exact ⟨by rw [← H.out]; rfl, by (repeat (first | exact Below.refl _ _ | refine bl_drewN ?_ | refine bl_drew ?_ | refine bl_alloc ?_ _ | refine Below.setCell ?_ (by (first | (simp; done) | (simp; omega) | omega)) _ | refine bl_step (by assumption) ?_))⟩

end Go.Proofs.Ytjceofmhodcefaa
