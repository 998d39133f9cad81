/- Several small texts in one: XLin1, XLin2. -/
import Derived.Test.YtjceofmhodcefaaGreatTq
import Derived.Test.YtjceofmhodcefaaGreatFixC
import Derived.Test.YtjceofmhodcefaaGreatAg
import Derived.Test.YtjceofmhodcefaaGreatRef05
namespace Go.Proofs.YtjceofmhodcefaaGreat
open Go.RowKit

/-- a store of what a cell holds changes nothing -/
theorem setCell_self {w : World} {b i : Nat} {v : Value} (h : w.cell? ⟨b, i, none⟩ = some v) : w.setCell ⟨b, i, none⟩ v = w := by
  unfold World.setCell
  cases w with
  | mk heap tape drawn os output =>
    simp only [World.mk.injEq, and_true]
    apply Array.ext
    · simp
    · intro k h1 h2
      simp only [Array.getElem_modify]
      split
      · rename_i e
        subst e
        have hk : heap[b]? = some heap[b] := by simp
        simp only [World.cell?, hk] at h
        cases hc : heap[b] with
        | cells c t f =>
          rw [hc] at h
          simp at h
          show Obj.cells (c.setIfInBounds i v) t f = Obj.cells c t f
          congr 1
          apply Array.ext_getElem?
          intro j
          rw [Array.getElem?_setIfInBounds]
          split
          · rename_i e2
            subst e2
            split
            · exact h.symm
            · rename_i e3
              simp only [Array.getElem?_eq_none (Nat.le_of_not_lt e3)] at h
              cases h
          · rfl
        | _ => rfl
      · rfl

theorem keep_any (B : Nat) (w : World) (h : w.cell? ⟨B, 0, none⟩ = some (.int .i64 0)) (hf : w.frozen? ⟨B, 0, none⟩ = false) :
    Calls Tryz.prog 30 #[.pointer (some ⟨B, 0, none⟩), .int .i64 0] w fun e w' => e = .returned (.tuple #[]) ∧ w = w' := by
  go_enter Tryz.func30, Tryz.ntmps30
  go_wp2
  go_end0
  exact ⟨rfl, (setCell_self h).symm⟩

/-- what a chain without an error holds -/
def okAt (w : World) (B : Nat) : Prop := w.cell? ⟨B, 0, none⟩ = some (.int .i64 0) ∧ w.frozen? ⟨B, 0, none⟩ = false
theorem okAt_later {w w' : World} {B : Nat} (hb : Below w.heap.size w w') (h : okAt w B) : okAt w' B :=
  have l := World.block_lt_of_cell? _ _ h.1
  ⟨(hb.cell (p := ⟨B, 0, none⟩) l).trans h.1, (hb.frozen (p := ⟨B, 0, none⟩) l).trans h.2⟩
theorem okAt_lt {w : World} {B : Nat} (h : okAt w B) : B < w.heap.size := World.block_lt_of_cell? _ _ h.1

set_option maxHeartbeats 1000000 in
theorem psin_any (a b : Int) (B1 : Nat) (w : World) (h : okAt w B1) (ha : arcV a b = true) :
    Calls Tryz.prog 15 #[.pointer (some ⟨B1, 0, none⟩), .agg #[.int .i64 (a), .int .i64 (b)]] w fun e w' => e = .returned (.agg #[.int .i64 (encLo a b), .int .i64 (encHi a b)]) ∧ Below w.heap.size w w' := by
  have S := hidden fun w => sin_ok a b w ha
  have h3 := okAt_lt h; have h4 : B1 < w.heap.size + 1 := (by omega); have h5 : B1 < w.heap.size + 1 + 1 := (by omega); have h6 : B1 < w.heap.size + 1 + 1 + 1 := (by omega); have h7 : B1 < w.heap.size + 1 + 1 + 1 + 1 := (by omega); obtain ⟨h1, h2⟩ := h
  go_enter Tryz.func15, Tryz.ntmps15
  go_wp2_with (first | (go_at_call 40; ((with_reducible refine (S.out _).mono ?_); rintro e w' ⟨rfl, hb⟩); (try replace hb := below_undrew hb); (try replace hb := below_undrewN hb); obtain ⟨hcell, hfroz⟩ := bcell hb; have hz := hb.size; (try simp at hz); (try (have z6 := Nat.lt_of_lt_of_le z7 hz)); (try (have z7 := Nat.lt_of_lt_of_le z8 hz)); (try (have z8 := Nat.lt_of_lt_of_le z9 hz)); (try (have z9 := Nat.lt_of_lt_of_le (Nat.lt_succ_self _) hz)); (try (have z0 : w.heap.size < w'.heap.size := by omega)); (try (have z1 : w.heap.size + 1 < w'.heap.size := by omega)); (try (have z2 : w.heap.size + 1 + 1 < w'.heap.size := by omega)); (try (have z3 : w.heap.size + 1 + 1 + 1 < w'.heap.size := by omega)); (try (have hB1 : B1 < w'.heap.size := by omega)); (try (have hB3 : B1 < w'.heap.size + 1 := by omega))) | (go_at_call 30; ((with_reducible refine (keep_any _ _ ?hc ?hf).mono ?_); (case hc => (simp [go_sem, *]; done)); (case hf => (simp [go_sem, *]; done)); rintro e w' ⟨rfl, rfl⟩)))
  exact bodyPost_ret (v := .agg #[.int .i64 (encLo a b), .int .i64 (encHi a b)]) (by first | (simp only [results, Tryz.results15]; go_simp; done) | simp [results, Tryz.results15, go_sem, *]) rfl ⟨rfl, by (repeat (first | exact Below.refl _ _ | refine bl_drewN ?_ | refine bl_drew ?_ | refine bl_alloc ?_ _ | refine Below.setCell ?_ (by (first | (simp; done) | (simp; omega) | omega)) _ | refine bl_step (by assumption) ?_))⟩
set_option maxHeartbeats 1000000 in
theorem pcos_any (a b : Int) (B1 : Nat) (w : World) (h : okAt w B1) (ha : arcV a b = true) :
    Calls Tryz.prog 16 #[.pointer (some ⟨B1, 0, none⟩), .agg #[.int .i64 (a), .int .i64 (b)]] w fun e w' => e = .returned (.agg #[.int .i64 (encLo (a + 5400000) (b + 5400000)), .int .i64 (encHi (a + 5400000) (b + 5400000))]) ∧ Below w.heap.size w w' := by
  have S := hidden fun w => cos_ok a b w ha
  have h3 := okAt_lt h; have h4 : B1 < w.heap.size + 1 := (by omega); have h5 : B1 < w.heap.size + 1 + 1 := (by omega); have h6 : B1 < w.heap.size + 1 + 1 + 1 := (by omega); have h7 : B1 < w.heap.size + 1 + 1 + 1 + 1 := (by omega); obtain ⟨h1, h2⟩ := h
  go_enter Tryz.func16, Tryz.ntmps16
  go_wp2_with (first | (go_at_call 41; ((with_reducible refine (S.out _).mono ?_); rintro e w' ⟨rfl, hb⟩); (try replace hb := below_undrew hb); (try replace hb := below_undrewN hb); obtain ⟨hcell, hfroz⟩ := bcell hb; have hz := hb.size; (try simp at hz); (try (have z6 := Nat.lt_of_lt_of_le z7 hz)); (try (have z7 := Nat.lt_of_lt_of_le z8 hz)); (try (have z8 := Nat.lt_of_lt_of_le z9 hz)); (try (have z9 := Nat.lt_of_lt_of_le (Nat.lt_succ_self _) hz)); (try (have z0 : w.heap.size < w'.heap.size := by omega)); (try (have z1 : w.heap.size + 1 < w'.heap.size := by omega)); (try (have z2 : w.heap.size + 1 + 1 < w'.heap.size := by omega)); (try (have z3 : w.heap.size + 1 + 1 + 1 < w'.heap.size := by omega)); (try (have hB1 : B1 < w'.heap.size := by omega)); (try (have hB3 : B1 < w'.heap.size + 1 := by omega))) | (go_at_call 30; ((with_reducible refine (keep_any _ _ ?hc ?hf).mono ?_); (case hc => (simp [go_sem, *]; done)); (case hf => (simp [go_sem, *]; done)); rintro e w' ⟨rfl, rfl⟩)))
  exact bodyPost_ret (v := .agg #[.int .i64 (encLo (a + 5400000) (b + 5400000)), .int .i64 (encHi (a + 5400000) (b + 5400000))]) (by first | (simp only [results, Tryz.results16]; go_simp; done) | simp [results, Tryz.results16, go_sem, *]) rfl ⟨rfl, by (repeat (first | exact Below.refl _ _ | refine bl_drewN ?_ | refine bl_drew ?_ | refine bl_alloc ?_ _ | refine Below.setCell ?_ (by (first | (simp; done) | (simp; omega) | omega)) _ | refine bl_step (by assumption) ?_))⟩

/-- the least arc of the products of an arc and an interval -/
def tmLo (a b f g : Int) : Int := min (cLo f g 1073741824 1073741824 a) (cLo f g 1073741824 1073741824 b)
def tmHi (a b f g : Int) : Int := max (cHi f g 1073741824 1073741824 a) (cHi f g 1073741824 1073741824 b)
set_option maxHeartbeats 1000000 in
theorem ptimes_walk (a b f g x y p q : Int) (B1 : Nat) (w : World) (h : okAt w B1)
    (S1 : Hid (∀ w, Calls Tryz.prog 61 #[.agg #[.int .i64 (f), .int .i64 (g)], .int .i64 a] w fun e w' => e = .returned (.tuple #[.int .i64 x, .int .i64 y, .int .i64 0]) ∧ Below w.heap.size w w'))
    (S2 : Hid (∀ w, Calls Tryz.prog 61 #[.agg #[.int .i64 (f), .int .i64 (g)], .int .i64 b] w fun e w' => e = .returned (.tuple #[.int .i64 p, .int .i64 q, .int .i64 0]) ∧ Below w.heap.size w w')) :
    Calls Tryz.prog 33 #[.pointer (some ⟨B1, 0, none⟩), .agg #[.int .i64 (a), .int .i64 (b)], .agg #[.int .i64 (f), .int .i64 (g)]] w fun e w' => e = .returned (.agg #[.int .i64 (min x p), .int .i64 (max y q)]) ∧ Below w.heap.size w w' := by
  have h3 := okAt_lt h; have h4 : B1 < w.heap.size + 1 := (by omega); have h5 : B1 < w.heap.size + 1 + 1 := (by omega); have h6 : B1 < w.heap.size + 1 + 1 + 1 := (by omega); have h7 : B1 < w.heap.size + 1 + 1 + 1 + 1 := (by omega); obtain ⟨h1, h2⟩ := h
  go_enter Tryz.func33, Tryz.ntmps33
  go_wp2_with (first | ((first | (go_at_call 61; ((with_reducible refine (S1.out _).mono ?_); rintro e w' ⟨rfl, hb⟩)) | (go_at_call 61; ((with_reducible refine (S2.out _).mono ?_); rintro e w' ⟨rfl, hb⟩))); (try replace hb := below_undrew hb); (try replace hb := below_undrewN hb); obtain ⟨hcell, hfroz⟩ := bcell hb; have hz := hb.size; (try simp at hz); (try (have z6 := Nat.lt_of_lt_of_le z7 hz)); (try (have z7 := Nat.lt_of_lt_of_le z8 hz)); (try (have z8 := Nat.lt_of_lt_of_le z9 hz)); (try (have z9 := Nat.lt_of_lt_of_le (Nat.lt_succ_self _) hz)); (try (have z0 : w.heap.size < w'.heap.size := by omega)); (try (have z1 : w.heap.size + 1 < w'.heap.size := by omega)); (try (have z2 : w.heap.size + 1 + 1 < w'.heap.size := by omega)); (try (have z3 : w.heap.size + 1 + 1 + 1 < w'.heap.size := by omega)); (try (have hB1 : B1 < w'.heap.size := by omega)); (try (have hB3 : B1 < w'.heap.size + 1 := by omega))) | (go_at_call 30; ((with_reducible refine (keep_any _ _ ?hc ?hf).mono ?_); (case hc => (simp [go_sem, *]; done)); (case hf => (simp [go_sem, *]; done)); rintro e w' ⟨rfl, rfl⟩)))
  exact bodyPost_ret (v := .agg #[.int .i64 (min x p), .int .i64 (max y q)]) (by first | (simp only [results, Tryz.results33]; go_simp; done) | simp [results, Tryz.results33, go_sem, *]) rfl ⟨rfl, by (repeat (first | exact Below.refl _ _ | refine bl_drewN ?_ | refine bl_drew ?_ | refine bl_alloc ?_ _ | refine Below.setCell ?_ (by (first | (simp; done) | (simp; omega) | omega)) _ | refine bl_step (by assumption) ?_))⟩
theorem ptimes_any (a b f g : Int) (B1 : Nat) (w : World) (h : okAt w B1) (hf : fixB f g = true) (ha : reachB a = true) (hb : reachB b = true) :
    Calls Tryz.prog 33 #[.pointer (some ⟨B1, 0, none⟩), .agg #[.int .i64 (a), .int .i64 (b)], .agg #[.int .i64 (f), .int .i64 (g)]] w fun e w' => e = .returned (.agg #[.int .i64 (tmLo a b f g), .int .i64 (tmHi a b f g)]) ∧ Below w.heap.size w w' :=
  ptimes_walk a b f g _ _ _ _ B1 w h (hidden fun w => scale_any f g a w hf ha) (hidden fun w => scale_any f g b w hf hb)

def altB (a b : Int) : Bool := arcB a b && (decide (-5400000 ≤ a) && decide (b ≤ 5400000))
theorem altitude_any (a b : Int) (w : World) :
    Calls Tryz.prog 35 #[.agg #[.int .i64 (a), .int .i64 (b)]] w fun e w' => e = .returned (.bool (altB a b)) ∧ Below w.heap.size w w' := by
  obtain ⟨v, hv⟩ : ∃ v, altB a b = v := ⟨_, rfl⟩
  rw [hv]
  unfold altB at hv
  have V := hidden fun w => valid_any a b w
  cases h : arcB a b
  · rw [h] at V
    have H : Hid (false = v) := by rw [← hv]; unfold Hid; simp [h]
    clear hv h
    go_enter Tryz.func35, Tryz.ntmps35
    go_wp2_with (go_at_call 38; ((with_reducible refine (V.out _).mono ?_); rintro e w' ⟨rfl, hb⟩); (try replace hb := below_undrew hb); (try replace hb := below_undrewN hb); obtain ⟨hcell, hfroz⟩ := bcell hb; have hz := hb.size; (try simp at hz); (try (have z6 := Nat.lt_of_lt_of_le z7 hz)); (try (have z7 := Nat.lt_of_lt_of_le z8 hz)); (try (have z8 := Nat.lt_of_lt_of_le z9 hz)); (try (have z9 := Nat.lt_of_lt_of_le (Nat.lt_succ_self _) hz)); (try (have z0 : w.heap.size < w'.heap.size := by omega)); (try (have z1 : w.heap.size + 1 < w'.heap.size := by omega)); (try (have z2 : w.heap.size + 1 + 1 < w'.heap.size := by omega)); (try (have z3 : w.heap.size + 1 + 1 + 1 < w'.heap.size := by omega)))
    go_ret
    exact ⟨by rw [← H.out]; rfl, by (repeat (first | exact Below.refl _ _ | refine bl_drewN ?_ | refine bl_drew ?_ | refine bl_alloc ?_ _ | refine Below.setCell ?_ (by (first | (simp; done) | (simp; omega) | omega)) _ | refine bl_step (by assumption) ?_))⟩
  · rw [h] at V
    by_cases h1 : -5400000 ≤ a
    · have H : Hid (decide (b ≤ 5400000) = v) := by rw [← hv]; unfold Hid; simp [h, h1]
      clear hv h
      go_enter Tryz.func35, Tryz.ntmps35
      go_wp2_with (go_at_call 38; ((with_reducible refine (V.out _).mono ?_); rintro e w' ⟨rfl, hb⟩); (try replace hb := below_undrew hb); (try replace hb := below_undrewN hb); obtain ⟨hcell, hfroz⟩ := bcell hb; have hz := hb.size; (try simp at hz); (try (have z6 := Nat.lt_of_lt_of_le z7 hz)); (try (have z7 := Nat.lt_of_lt_of_le z8 hz)); (try (have z8 := Nat.lt_of_lt_of_le z9 hz)); (try (have z9 := Nat.lt_of_lt_of_le (Nat.lt_succ_self _) hz)); (try (have z0 : w.heap.size < w'.heap.size := by omega)); (try (have z1 : w.heap.size + 1 < w'.heap.size := by omega)); (try (have z2 : w.heap.size + 1 + 1 < w'.heap.size := by omega)); (try (have z3 : w.heap.size + 1 + 1 + 1 < w'.heap.size := by omega)))
      go_ret
      exact ⟨by rw [← H.out]; rfl, by (repeat (first | exact Below.refl _ _ | refine bl_drewN ?_ | refine bl_drew ?_ | refine bl_alloc ?_ _ | refine Below.setCell ?_ (by (first | (simp; done) | (simp; omega) | omega)) _ | refine bl_step (by assumption) ?_))⟩
    · have H : Hid (false = v) := by rw [← hv]; unfold Hid; simp [h, h1]
      clear hv h
      go_enter Tryz.func35, Tryz.ntmps35
      go_wp2_with (go_at_call 38; ((with_reducible refine (V.out _).mono ?_); rintro e w' ⟨rfl, hb⟩); (try replace hb := below_undrew hb); (try replace hb := below_undrewN hb); obtain ⟨hcell, hfroz⟩ := bcell hb; have hz := hb.size; (try simp at hz); (try (have z6 := Nat.lt_of_lt_of_le z7 hz)); (try (have z7 := Nat.lt_of_lt_of_le z8 hz)); (try (have z8 := Nat.lt_of_lt_of_le z9 hz)); (try (have z9 := Nat.lt_of_lt_of_le (Nat.lt_succ_self _) hz)); (try (have z0 : w.heap.size < w'.heap.size := by omega)); (try (have z1 : w.heap.size + 1 < w'.heap.size := by omega)); (try (have z2 : w.heap.size + 1 + 1 < w'.heap.size := by omega)); (try (have z3 : w.heap.size + 1 + 1 + 1 < w'.heap.size := by omega)))
      go_ret
      exact ⟨by rw [← H.out]; rfl, by (repeat (first | exact Below.refl _ _ | refine bl_drewN ?_ | refine bl_drew ?_ | refine bl_alloc ?_ _ | refine Below.setCell ?_ (by (first | (simp; done) | (simp; omega) | omega)) _ | refine bl_step (by assumption) ?_))⟩

end Go.Proofs.YtjceofmhodcefaaGreat

namespace Go.Proofs.YtjceofmhodcefaaGreat
open Go.RowKit

def nearB (a b : Int) : Bool := decide (-5340000 ≤ a) && (decide (a ≤ 5340000) && (decide (-10800000 ≤ b) && (decide (b < 10800000))))
set_option maxHeartbeats 1000000 in
theorem near_any (a b : Int) (w : World) :
    Calls Tryz.prog 62 #[.agg #[.int .i64 (a), .int .i64 (b)]] w fun e w' => e = .returned (.bool (nearB a b)) ∧ Below w.heap.size w w' := by
  obtain ⟨v, hv⟩ : ∃ v, nearB a b = v := ⟨_, rfl⟩
  rw [hv]
  by_cases h0 : -5340000 ≤ a
  · by_cases h1 : a ≤ 5340000
    · by_cases h2 : -10800000 ≤ b
      · have H : Hid (decide (b < 10800000) = v) := by rw [← hv]; unfold Hid nearB; simp [h0, h1, h2]
        clear hv
        go_enter Tryz.func62, Tryz.ntmps62
        go_wp2
        all_goals go_ret
        all_goals exact ⟨by rw [← H.out]; first | rfl | (simp [*]; done) | (simp [*]; omega), by (repeat (first | exact Below.refl _ _ | refine bl_drewN ?_ | refine bl_drew ?_ | refine bl_alloc ?_ _ | refine Below.setCell ?_ (by (first | (simp; done) | (simp; omega) | omega)) _ | refine bl_step (by assumption) ?_))⟩
      · have H : Hid (false = v) := by rw [← hv]; unfold Hid nearB; simp [h0, h1, h2]
        clear hv
        go_enter Tryz.func62, Tryz.ntmps62
        go_wp2
        all_goals go_ret
        all_goals exact ⟨by rw [← H.out]; first | rfl | (simp [*]; done) | (simp [*]; omega), by (repeat (first | exact Below.refl _ _ | refine bl_drewN ?_ | refine bl_drew ?_ | refine bl_alloc ?_ _ | refine Below.setCell ?_ (by (first | (simp; done) | (simp; omega) | omega)) _ | refine bl_step (by assumption) ?_))⟩
    · have H : Hid (false = v) := by rw [← hv]; unfold Hid nearB; simp [h0, h1]
      clear hv
      go_enter Tryz.func62, Tryz.ntmps62
      go_wp2
      all_goals go_ret
      all_goals exact ⟨by rw [← H.out]; first | rfl | (simp [*]; done) | (simp [*]; omega), by (repeat (first | exact Below.refl _ _ | refine bl_drewN ?_ | refine bl_drew ?_ | refine bl_alloc ?_ _ | refine Below.setCell ?_ (by (first | (simp; done) | (simp; omega) | omega)) _ | refine bl_step (by assumption) ?_))⟩
  · have H : Hid (false = v) := by rw [← hv]; unfold Hid nearB; simp [h0]
    clear hv
    go_enter Tryz.func62, Tryz.ntmps62
    go_wp2
    all_goals go_ret
    all_goals exact ⟨by rw [← H.out]; first | rfl | (simp [*]; done) | (simp [*]; omega), by (repeat (first | exact Below.refl _ _ | refine bl_drewN ?_ | refine bl_drew ?_ | refine bl_alloc ?_ _ | refine Below.setCell ?_ (by (first | (simp; done) | (simp; omega) | omega)) _ | refine bl_step (by assumption) ?_))⟩

def pointB (a b : Int) : Bool := decide (-5400000 ≤ a) && (decide (a ≤ 5400000) && (decide (-10800000 ≤ b) && (decide (b < 10800000))))
set_option maxHeartbeats 1000000 in
theorem point8_any (a b : Int) (w : World) :
    Calls Tryz.prog 73 #[.agg #[.int .i64 (a), .int .i64 (b)]] w fun e w' => e = .returned (.bool (pointB a b)) ∧ Below w.heap.size w w' := by
  obtain ⟨v, hv⟩ : ∃ v, pointB a b = v := ⟨_, rfl⟩
  rw [hv]
  by_cases h0 : -5400000 ≤ a
  · by_cases h1 : a ≤ 5400000
    · by_cases h2 : -10800000 ≤ b
      · have H : Hid (decide (b < 10800000) = v) := by rw [← hv]; unfold Hid pointB; simp [h0, h1, h2]
        clear hv
        go_enter Tryz.func73, Tryz.ntmps73
        go_wp2
        all_goals go_ret
        all_goals exact ⟨by rw [← H.out]; first | rfl | (simp [*]; done) | (simp [*]; omega), by (repeat (first | exact Below.refl _ _ | refine bl_drewN ?_ | refine bl_drew ?_ | refine bl_alloc ?_ _ | refine Below.setCell ?_ (by (first | (simp; done) | (simp; omega) | omega)) _ | refine bl_step (by assumption) ?_))⟩
      · have H : Hid (false = v) := by rw [← hv]; unfold Hid pointB; simp [h0, h1, h2]
        clear hv
        go_enter Tryz.func73, Tryz.ntmps73
        go_wp2
        all_goals go_ret
        all_goals exact ⟨by rw [← H.out]; first | rfl | (simp [*]; done) | (simp [*]; omega), by (repeat (first | exact Below.refl _ _ | refine bl_drewN ?_ | refine bl_drew ?_ | refine bl_alloc ?_ _ | refine Below.setCell ?_ (by (first | (simp; done) | (simp; omega) | omega)) _ | refine bl_step (by assumption) ?_))⟩
    · have H : Hid (false = v) := by rw [← hv]; unfold Hid pointB; simp [h0, h1]
      clear hv
      go_enter Tryz.func73, Tryz.ntmps73
      go_wp2
      all_goals go_ret
      all_goals exact ⟨by rw [← H.out]; first | rfl | (simp [*]; done) | (simp [*]; omega), by (repeat (first | exact Below.refl _ _ | refine bl_drewN ?_ | refine bl_drew ?_ | refine bl_alloc ?_ _ | refine Below.setCell ?_ (by (first | (simp; done) | (simp; omega) | omega)) _ | refine bl_step (by assumption) ?_))⟩
  · have H : Hid (false = v) := by rw [← hv]; unfold Hid pointB; simp [h0]
    clear hv
    go_enter Tryz.func73, Tryz.ntmps73
    go_wp2
    all_goals go_ret
    all_goals exact ⟨by rw [← H.out]; first | rfl | (simp [*]; done) | (simp [*]; omega), by (repeat (first | exact Below.refl _ _ | refine bl_drewN ?_ | refine bl_drew ?_ | refine bl_alloc ?_ _ | refine Below.setCell ?_ (by (first | (simp; done) | (simp; omega) | omega)) _ | refine bl_step (by assumption) ?_))⟩

def near37B (a b : Int) : Bool := pointB a b && (decide (-5340000 ≤ a) && (decide (a ≤ 5340000)))
set_option maxHeartbeats 1000000 in
theorem near37_any (a b : Int) (w : World) :
    Calls Tryz.prog 46 #[.agg #[.int .i64 (a), .int .i64 (b)]] w fun e w' => e = .returned (.bool (near37B a b)) ∧ Below w.heap.size w w' := by
  obtain ⟨v, hv⟩ : ∃ v, near37B a b = v := ⟨_, rfl⟩
  rw [hv]
  have V0 := hidden fun w => point8_any a b w
  cases h0 : pointB a b
  · rw [h0] at V0
    have H : Hid (false = v) := by rw [← hv]; unfold Hid near37B; simp [h0]
    clear hv
    go_enter Tryz.func46, Tryz.ntmps46
    go_wp2_with (first | (go_at_call 73; ((with_reducible refine (V0.out _).mono ?_); rintro e w' ⟨rfl, hb⟩); (try replace hb := below_undrew hb); (try replace hb := below_undrewN hb); obtain ⟨hcell, hfroz⟩ := bcell hb; have hz := hb.size; (try simp at hz); (try (have z6 := Nat.lt_of_lt_of_le z7 hz)); (try (have z7 := Nat.lt_of_lt_of_le z8 hz)); (try (have z8 := Nat.lt_of_lt_of_le z9 hz)); (try (have z9 := Nat.lt_of_lt_of_le (Nat.lt_succ_self _) hz)); (try (have z0 : w.heap.size < w'.heap.size := by omega)); (try (have z1 : w.heap.size + 1 < w'.heap.size := by omega)); (try (have z2 : w.heap.size + 1 + 1 < w'.heap.size := by omega)); (try (have z3 : w.heap.size + 1 + 1 + 1 < w'.heap.size := by omega))))
    all_goals go_ret
    all_goals exact ⟨by rw [← H.out]; first | rfl | (simp [*]; done) | (simp [*]; omega), by (repeat (first | exact Below.refl _ _ | refine bl_drewN ?_ | refine bl_drew ?_ | refine bl_alloc ?_ _ | refine Below.setCell ?_ (by (first | (simp; done) | (simp; omega) | omega)) _ | refine bl_step (by assumption) ?_))⟩
  · rw [h0] at V0
    by_cases h1 : -5340000 ≤ a
    · have H : Hid (decide (a ≤ 5340000) = v) := by rw [← hv]; unfold Hid near37B; simp [h0, h1]
      clear hv
      go_enter Tryz.func46, Tryz.ntmps46
      go_wp2_with (first | (go_at_call 73; ((with_reducible refine (V0.out _).mono ?_); rintro e w' ⟨rfl, hb⟩); (try replace hb := below_undrew hb); (try replace hb := below_undrewN hb); obtain ⟨hcell, hfroz⟩ := bcell hb; have hz := hb.size; (try simp at hz); (try (have z6 := Nat.lt_of_lt_of_le z7 hz)); (try (have z7 := Nat.lt_of_lt_of_le z8 hz)); (try (have z8 := Nat.lt_of_lt_of_le z9 hz)); (try (have z9 := Nat.lt_of_lt_of_le (Nat.lt_succ_self _) hz)); (try (have z0 : w.heap.size < w'.heap.size := by omega)); (try (have z1 : w.heap.size + 1 < w'.heap.size := by omega)); (try (have z2 : w.heap.size + 1 + 1 < w'.heap.size := by omega)); (try (have z3 : w.heap.size + 1 + 1 + 1 < w'.heap.size := by omega))))
      all_goals go_ret
      all_goals exact ⟨by rw [← H.out]; first | rfl | (simp [*]; done) | (simp [*]; omega), by (repeat (first | exact Below.refl _ _ | refine bl_drewN ?_ | refine bl_drew ?_ | refine bl_alloc ?_ _ | refine Below.setCell ?_ (by (first | (simp; done) | (simp; omega) | omega)) _ | refine bl_step (by assumption) ?_))⟩
    · have H : Hid (false = v) := by rw [← hv]; unfold Hid near37B; simp [h0, h1]
      clear hv
      go_enter Tryz.func46, Tryz.ntmps46
      go_wp2_with (first | (go_at_call 73; ((with_reducible refine (V0.out _).mono ?_); rintro e w' ⟨rfl, hb⟩); (try replace hb := below_undrew hb); (try replace hb := below_undrewN hb); obtain ⟨hcell, hfroz⟩ := bcell hb; have hz := hb.size; (try simp at hz); (try (have z6 := Nat.lt_of_lt_of_le z7 hz)); (try (have z7 := Nat.lt_of_lt_of_le z8 hz)); (try (have z8 := Nat.lt_of_lt_of_le z9 hz)); (try (have z9 := Nat.lt_of_lt_of_le (Nat.lt_succ_self _) hz)); (try (have z0 : w.heap.size < w'.heap.size := by omega)); (try (have z1 : w.heap.size + 1 < w'.heap.size := by omega)); (try (have z2 : w.heap.size + 1 + 1 < w'.heap.size := by omega)); (try (have z3 : w.heap.size + 1 + 1 + 1 < w'.heap.size := by omega))))
      all_goals go_ret
      all_goals exact ⟨by rw [← H.out]; first | rfl | (simp [*]; done) | (simp [*]; omega), by (repeat (first | exact Below.refl _ _ | refine bl_drewN ?_ | refine bl_drew ?_ | refine bl_alloc ?_ _ | refine Below.setCell ?_ (by (first | (simp; done) | (simp; omega) | omega)) _ | refine bl_step (by assumption) ?_))⟩

theorem near37_eq (a b : Int) : near37B a b = nearB a b := by
  unfold near37B pointB nearB
  rw [Bool.eq_iff_iff]
  simp only [Bool.and_eq_true, decide_eq_true_eq]
  omega
theorem near37_is (a b : Int) (w : World) : Calls Tryz.prog 46 #[.agg #[.int .i64 (a), .int .i64 (b)]] w fun e w' => e = .returned (.bool (nearB a b)) ∧ Below w.heap.size w w' := by
  rw [← near37_eq]
  exact near37_any a b w

def withB (a b : Int) : Bool := decide (-600000 ≤ a) && (decide (b ≤ 600000))
set_option maxHeartbeats 1000000 in
theorem within_any (a b : Int) (w : World) :
    Calls Tryz.prog 18 #[.agg #[.int .i64 (a), .int .i64 (b)], .int .i64 600000] w fun e w' => e = .returned (.bool (withB a b)) ∧ Below w.heap.size w w' := by
  obtain ⟨v, hv⟩ : ∃ v, withB a b = v := ⟨_, rfl⟩
  rw [hv]
  by_cases h0 : -600000 ≤ a
  · have H : Hid (decide (b ≤ 600000) = v) := by rw [← hv]; unfold Hid withB; simp [h0]
    clear hv
    go_enter Tryz.func18, Tryz.ntmps18
    go_wp2
    all_goals go_ret
    all_goals exact ⟨by rw [← H.out]; first | rfl | (simp [*]; done) | (simp [*]; omega), by (repeat (first | exact Below.refl _ _ | refine bl_drewN ?_ | refine bl_drew ?_ | refine bl_alloc ?_ _ | refine Below.setCell ?_ (by (first | (simp; done) | (simp; omega) | omega)) _ | refine bl_step (by assumption) ?_))⟩
  · have H : Hid (false = v) := by rw [← hv]; unfold Hid withB; simp [h0]
    clear hv
    go_enter Tryz.func18, Tryz.ntmps18
    go_wp2
    all_goals go_ret
    all_goals exact ⟨by rw [← H.out]; first | rfl | (simp [*]; done) | (simp [*]; omega), by (repeat (first | exact Below.refl _ _ | refine bl_drewN ?_ | refine bl_drew ?_ | refine bl_alloc ?_ _ | refine Below.setCell ?_ (by (first | (simp; done) | (simp; omega) | omega)) _ | refine bl_step (by assumption) ?_))⟩

def fromB (a b : Int) : Bool := decide (a ≤ b) && (decide (-600000 ≤ a) && (decide (b ≤ 600000)))
set_option maxHeartbeats 1000000 in
theorem from_any (a b : Int) (w : World) :
    Calls Tryz.prog 49 #[.agg #[.int .i64 (a), .int .i64 (b)], .int .i64 600000] w fun e w' => e = .returned (.bool (fromB a b)) ∧ Below w.heap.size w w' := by
  obtain ⟨v, hv⟩ : ∃ v, fromB a b = v := ⟨_, rfl⟩
  rw [hv]
  by_cases h0 : a ≤ b
  · by_cases h1 : -600000 ≤ a
    · have H : Hid (decide (b ≤ 600000) = v) := by rw [← hv]; unfold Hid fromB; simp [h0, h1]
      clear hv
      go_enter Tryz.func49, Tryz.ntmps49
      go_wp2
      all_goals go_ret
      all_goals exact ⟨by rw [← H.out]; first | rfl | (simp [*]; done) | (simp [*]; omega), by (repeat (first | exact Below.refl _ _ | refine bl_drewN ?_ | refine bl_drew ?_ | refine bl_alloc ?_ _ | refine Below.setCell ?_ (by (first | (simp; done) | (simp; omega) | omega)) _ | refine bl_step (by assumption) ?_))⟩
    · have H : Hid (false = v) := by rw [← hv]; unfold Hid fromB; simp [h0, h1]
      clear hv
      go_enter Tryz.func49, Tryz.ntmps49
      go_wp2
      all_goals go_ret
      all_goals exact ⟨by rw [← H.out]; first | rfl | (simp [*]; done) | (simp [*]; omega), by (repeat (first | exact Below.refl _ _ | refine bl_drewN ?_ | refine bl_drew ?_ | refine bl_alloc ?_ _ | refine Below.setCell ?_ (by (first | (simp; done) | (simp; omega) | omega)) _ | refine bl_step (by assumption) ?_))⟩
  · have H : Hid (false = v) := by rw [← hv]; unfold Hid fromB; simp [h0]
    clear hv
    go_enter Tryz.func49, Tryz.ntmps49
    go_wp2
    all_goals go_ret
    all_goals exact ⟨by rw [← H.out]; first | rfl | (simp [*]; done) | (simp [*]; omega), by (repeat (first | exact Below.refl _ _ | refine bl_drewN ?_ | refine bl_drew ?_ | refine bl_alloc ?_ _ | refine Below.setCell ?_ (by (first | (simp; done) | (simp; omega) | omega)) _ | refine bl_step (by assumption) ?_))⟩

def lineB (c d a b p q : Int) : Bool := nearB c d && (arcB a b && (decide (0 ≤ a) && (decide (a < 21600000) && (decide (b - a < 10800000) && (arcB p q && (decide (-600000 ≤ p) && (decide (q ≤ 600000))))))))
set_option maxHeartbeats 1000000 in
theorem lvalid_any (c d a b p q : Int) (w : World) :
    Calls Tryz.prog 37 #[.agg #[.int .i64 c, .int .i64 d, .int .i64 a, .int .i64 b, .int .i64 p, .int .i64 q]] w fun e w' => e = .returned (.bool (lineB c d a b p q)) ∧ Below w.heap.size w w' := by
  obtain ⟨v, hv⟩ : ∃ v, lineB c d a b p q = v := ⟨_, rfl⟩
  rw [hv]
  have V0 := hidden fun w => near_any c d w
  have V1 := hidden fun w => valid_any a b w
  have V5 := hidden fun w => valid_any p q w
  cases h0 : nearB c d
  · rw [h0] at V0
    have H : Hid (false = v) := by rw [← hv]; unfold Hid lineB; simp [h0]
    clear hv
    go_enter Tryz.func37, Tryz.ntmps37
    go_wp2_with ((first | (go_at_call 62; ((with_reducible refine (V0.out _).mono ?_); rintro e w' ⟨rfl, hb⟩)) | (go_at_call 38; ((with_reducible refine (V1.out _).mono ?_); rintro e w' ⟨rfl, hb⟩)) | (go_at_call 38; ((with_reducible refine (V5.out _).mono ?_); rintro e w' ⟨rfl, hb⟩))); (try replace hb := below_undrew hb); (try replace hb := below_undrewN hb); obtain ⟨hcell, hfroz⟩ := bcell hb; have hz := hb.size; (try simp at hz); (try (have z6 := Nat.lt_of_lt_of_le z7 hz)); (try (have z7 := Nat.lt_of_lt_of_le z8 hz)); (try (have z8 := Nat.lt_of_lt_of_le z9 hz)); (try (have z9 := Nat.lt_of_lt_of_le (Nat.lt_succ_self _) hz)); (try (have z0 : w.heap.size < w'.heap.size := by omega)); (try (have z1 : w.heap.size + 1 < w'.heap.size := by omega)); (try (have z2 : w.heap.size + 1 + 1 < w'.heap.size := by omega)); (try (have z3 : w.heap.size + 1 + 1 + 1 < w'.heap.size := by omega)))
    all_goals go_ret
    all_goals exact ⟨by rw [← H.out]; first | rfl | (simp [*]; done) | (simp [*]; omega), by (repeat (first | exact Below.refl _ _ | refine bl_drewN ?_ | refine bl_drew ?_ | refine bl_alloc ?_ _ | refine Below.setCell ?_ (by (first | (simp; done) | (simp; omega) | omega)) _ | refine bl_step (by assumption) ?_))⟩
  · rw [h0] at V0
    cases h1 : arcB a b
    · rw [h1] at V1
      have H : Hid (false = v) := by rw [← hv]; unfold Hid lineB; simp [h0, h1]
      clear hv
      go_enter Tryz.func37, Tryz.ntmps37
      go_wp2_with ((first | (go_at_call 62; ((with_reducible refine (V0.out _).mono ?_); rintro e w' ⟨rfl, hb⟩)) | (go_at_call 38; ((with_reducible refine (V1.out _).mono ?_); rintro e w' ⟨rfl, hb⟩)) | (go_at_call 38; ((with_reducible refine (V5.out _).mono ?_); rintro e w' ⟨rfl, hb⟩))); (try replace hb := below_undrew hb); (try replace hb := below_undrewN hb); obtain ⟨hcell, hfroz⟩ := bcell hb; have hz := hb.size; (try simp at hz); (try (have z6 := Nat.lt_of_lt_of_le z7 hz)); (try (have z7 := Nat.lt_of_lt_of_le z8 hz)); (try (have z8 := Nat.lt_of_lt_of_le z9 hz)); (try (have z9 := Nat.lt_of_lt_of_le (Nat.lt_succ_self _) hz)); (try (have z0 : w.heap.size < w'.heap.size := by omega)); (try (have z1 : w.heap.size + 1 < w'.heap.size := by omega)); (try (have z2 : w.heap.size + 1 + 1 < w'.heap.size := by omega)); (try (have z3 : w.heap.size + 1 + 1 + 1 < w'.heap.size := by omega)))
      all_goals go_ret
      all_goals exact ⟨by rw [← H.out]; first | rfl | (simp [*]; done) | (simp [*]; omega), by (repeat (first | exact Below.refl _ _ | refine bl_drewN ?_ | refine bl_drew ?_ | refine bl_alloc ?_ _ | refine Below.setCell ?_ (by (first | (simp; done) | (simp; omega) | omega)) _ | refine bl_step (by assumption) ?_))⟩
    · rw [h1] at V1
      have wba : IntKind.i64.wrap (b - a) = b - a := by have := arcB_t h1; rw [IntKind.wrap_i64]; omega
      by_cases h2 : 0 ≤ a
      · by_cases h3 : a < 21600000
        · by_cases h4 : b - a < 10800000
          · cases h5 : arcB p q
            · rw [h5] at V5
              have H : Hid (false = v) := by rw [← hv]; unfold Hid lineB; simp [h0, h1, h2, h3, h4, h5]
              clear hv
              go_enter Tryz.func37, Tryz.ntmps37
              go_wp2_with ((first | (go_at_call 62; ((with_reducible refine (V0.out _).mono ?_); rintro e w' ⟨rfl, hb⟩)) | (go_at_call 38; ((with_reducible refine (V1.out _).mono ?_); rintro e w' ⟨rfl, hb⟩)) | (go_at_call 38; ((with_reducible refine (V5.out _).mono ?_); rintro e w' ⟨rfl, hb⟩))); (try replace hb := below_undrew hb); (try replace hb := below_undrewN hb); obtain ⟨hcell, hfroz⟩ := bcell hb; have hz := hb.size; (try simp at hz); (try (have z6 := Nat.lt_of_lt_of_le z7 hz)); (try (have z7 := Nat.lt_of_lt_of_le z8 hz)); (try (have z8 := Nat.lt_of_lt_of_le z9 hz)); (try (have z9 := Nat.lt_of_lt_of_le (Nat.lt_succ_self _) hz)); (try (have z0 : w.heap.size < w'.heap.size := by omega)); (try (have z1 : w.heap.size + 1 < w'.heap.size := by omega)); (try (have z2 : w.heap.size + 1 + 1 < w'.heap.size := by omega)); (try (have z3 : w.heap.size + 1 + 1 + 1 < w'.heap.size := by omega)))
              all_goals go_ret
              all_goals exact ⟨by rw [← H.out]; first | rfl | (simp [*]; done) | (simp [*]; omega), by (repeat (first | exact Below.refl _ _ | refine bl_drewN ?_ | refine bl_drew ?_ | refine bl_alloc ?_ _ | refine Below.setCell ?_ (by (first | (simp; done) | (simp; omega) | omega)) _ | refine bl_step (by assumption) ?_))⟩
            · rw [h5] at V5
              by_cases h6 : -600000 ≤ p
              · have H : Hid (decide (q ≤ 600000) = v) := by rw [← hv]; unfold Hid lineB; simp [h0, h1, h2, h3, h4, h5, h6]
                clear hv
                go_enter Tryz.func37, Tryz.ntmps37
                go_wp2_with ((first | (go_at_call 62; ((with_reducible refine (V0.out _).mono ?_); rintro e w' ⟨rfl, hb⟩)) | (go_at_call 38; ((with_reducible refine (V1.out _).mono ?_); rintro e w' ⟨rfl, hb⟩)) | (go_at_call 38; ((with_reducible refine (V5.out _).mono ?_); rintro e w' ⟨rfl, hb⟩))); (try replace hb := below_undrew hb); (try replace hb := below_undrewN hb); obtain ⟨hcell, hfroz⟩ := bcell hb; have hz := hb.size; (try simp at hz); (try (have z6 := Nat.lt_of_lt_of_le z7 hz)); (try (have z7 := Nat.lt_of_lt_of_le z8 hz)); (try (have z8 := Nat.lt_of_lt_of_le z9 hz)); (try (have z9 := Nat.lt_of_lt_of_le (Nat.lt_succ_self _) hz)); (try (have z0 : w.heap.size < w'.heap.size := by omega)); (try (have z1 : w.heap.size + 1 < w'.heap.size := by omega)); (try (have z2 : w.heap.size + 1 + 1 < w'.heap.size := by omega)); (try (have z3 : w.heap.size + 1 + 1 + 1 < w'.heap.size := by omega)))
                all_goals go_ret
                all_goals exact ⟨by rw [← H.out]; first | rfl | (simp [*]; done) | (simp [*]; omega), by (repeat (first | exact Below.refl _ _ | refine bl_drewN ?_ | refine bl_drew ?_ | refine bl_alloc ?_ _ | refine Below.setCell ?_ (by (first | (simp; done) | (simp; omega) | omega)) _ | refine bl_step (by assumption) ?_))⟩
              · have H : Hid (false = v) := by rw [← hv]; unfold Hid lineB; simp [h0, h1, h2, h3, h4, h5, h6]
                clear hv
                go_enter Tryz.func37, Tryz.ntmps37
                go_wp2_with ((first | (go_at_call 62; ((with_reducible refine (V0.out _).mono ?_); rintro e w' ⟨rfl, hb⟩)) | (go_at_call 38; ((with_reducible refine (V1.out _).mono ?_); rintro e w' ⟨rfl, hb⟩)) | (go_at_call 38; ((with_reducible refine (V5.out _).mono ?_); rintro e w' ⟨rfl, hb⟩))); (try replace hb := below_undrew hb); (try replace hb := below_undrewN hb); obtain ⟨hcell, hfroz⟩ := bcell hb; have hz := hb.size; (try simp at hz); (try (have z6 := Nat.lt_of_lt_of_le z7 hz)); (try (have z7 := Nat.lt_of_lt_of_le z8 hz)); (try (have z8 := Nat.lt_of_lt_of_le z9 hz)); (try (have z9 := Nat.lt_of_lt_of_le (Nat.lt_succ_self _) hz)); (try (have z0 : w.heap.size < w'.heap.size := by omega)); (try (have z1 : w.heap.size + 1 < w'.heap.size := by omega)); (try (have z2 : w.heap.size + 1 + 1 < w'.heap.size := by omega)); (try (have z3 : w.heap.size + 1 + 1 + 1 < w'.heap.size := by omega)))
                all_goals go_ret
                all_goals exact ⟨by rw [← H.out]; first | rfl | (simp [*]; done) | (simp [*]; omega), by (repeat (first | exact Below.refl _ _ | refine bl_drewN ?_ | refine bl_drew ?_ | refine bl_alloc ?_ _ | refine Below.setCell ?_ (by (first | (simp; done) | (simp; omega) | omega)) _ | refine bl_step (by assumption) ?_))⟩
          · have H : Hid (false = v) := by rw [← hv]; unfold Hid lineB; simp [h0, h1, h2, h3, h4]
            clear hv
            go_enter Tryz.func37, Tryz.ntmps37
            go_wp2_with ((first | (go_at_call 62; ((with_reducible refine (V0.out _).mono ?_); rintro e w' ⟨rfl, hb⟩)) | (go_at_call 38; ((with_reducible refine (V1.out _).mono ?_); rintro e w' ⟨rfl, hb⟩)) | (go_at_call 38; ((with_reducible refine (V5.out _).mono ?_); rintro e w' ⟨rfl, hb⟩))); (try replace hb := below_undrew hb); (try replace hb := below_undrewN hb); obtain ⟨hcell, hfroz⟩ := bcell hb; have hz := hb.size; (try simp at hz); (try (have z6 := Nat.lt_of_lt_of_le z7 hz)); (try (have z7 := Nat.lt_of_lt_of_le z8 hz)); (try (have z8 := Nat.lt_of_lt_of_le z9 hz)); (try (have z9 := Nat.lt_of_lt_of_le (Nat.lt_succ_self _) hz)); (try (have z0 : w.heap.size < w'.heap.size := by omega)); (try (have z1 : w.heap.size + 1 < w'.heap.size := by omega)); (try (have z2 : w.heap.size + 1 + 1 < w'.heap.size := by omega)); (try (have z3 : w.heap.size + 1 + 1 + 1 < w'.heap.size := by omega)))
            all_goals go_ret
            all_goals exact ⟨by rw [← H.out]; first | rfl | (simp [*]; done) | (simp [*]; omega), by (repeat (first | exact Below.refl _ _ | refine bl_drewN ?_ | refine bl_drew ?_ | refine bl_alloc ?_ _ | refine Below.setCell ?_ (by (first | (simp; done) | (simp; omega) | omega)) _ | refine bl_step (by assumption) ?_))⟩
        · have H : Hid (false = v) := by rw [← hv]; unfold Hid lineB; simp [h0, h1, h2, h3]
          clear hv
          go_enter Tryz.func37, Tryz.ntmps37
          go_wp2_with ((first | (go_at_call 62; ((with_reducible refine (V0.out _).mono ?_); rintro e w' ⟨rfl, hb⟩)) | (go_at_call 38; ((with_reducible refine (V1.out _).mono ?_); rintro e w' ⟨rfl, hb⟩)) | (go_at_call 38; ((with_reducible refine (V5.out _).mono ?_); rintro e w' ⟨rfl, hb⟩))); (try replace hb := below_undrew hb); (try replace hb := below_undrewN hb); obtain ⟨hcell, hfroz⟩ := bcell hb; have hz := hb.size; (try simp at hz); (try (have z6 := Nat.lt_of_lt_of_le z7 hz)); (try (have z7 := Nat.lt_of_lt_of_le z8 hz)); (try (have z8 := Nat.lt_of_lt_of_le z9 hz)); (try (have z9 := Nat.lt_of_lt_of_le (Nat.lt_succ_self _) hz)); (try (have z0 : w.heap.size < w'.heap.size := by omega)); (try (have z1 : w.heap.size + 1 < w'.heap.size := by omega)); (try (have z2 : w.heap.size + 1 + 1 < w'.heap.size := by omega)); (try (have z3 : w.heap.size + 1 + 1 + 1 < w'.heap.size := by omega)))
          all_goals go_ret
          all_goals exact ⟨by rw [← H.out]; first | rfl | (simp [*]; done) | (simp [*]; omega), by (repeat (first | exact Below.refl _ _ | refine bl_drewN ?_ | refine bl_drew ?_ | refine bl_alloc ?_ _ | refine Below.setCell ?_ (by (first | (simp; done) | (simp; omega) | omega)) _ | refine bl_step (by assumption) ?_))⟩
      · have H : Hid (false = v) := by rw [← hv]; unfold Hid lineB; simp [h0, h1, h2]
        clear hv
        go_enter Tryz.func37, Tryz.ntmps37
        go_wp2_with ((first | (go_at_call 62; ((with_reducible refine (V0.out _).mono ?_); rintro e w' ⟨rfl, hb⟩)) | (go_at_call 38; ((with_reducible refine (V1.out _).mono ?_); rintro e w' ⟨rfl, hb⟩)) | (go_at_call 38; ((with_reducible refine (V5.out _).mono ?_); rintro e w' ⟨rfl, hb⟩))); (try replace hb := below_undrew hb); (try replace hb := below_undrewN hb); obtain ⟨hcell, hfroz⟩ := bcell hb; have hz := hb.size; (try simp at hz); (try (have z6 := Nat.lt_of_lt_of_le z7 hz)); (try (have z7 := Nat.lt_of_lt_of_le z8 hz)); (try (have z8 := Nat.lt_of_lt_of_le z9 hz)); (try (have z9 := Nat.lt_of_lt_of_le (Nat.lt_succ_self _) hz)); (try (have z0 : w.heap.size < w'.heap.size := by omega)); (try (have z1 : w.heap.size + 1 < w'.heap.size := by omega)); (try (have z2 : w.heap.size + 1 + 1 < w'.heap.size := by omega)); (try (have z3 : w.heap.size + 1 + 1 + 1 < w'.heap.size := by omega)))
        all_goals go_ret
        all_goals exact ⟨by rw [← H.out]; first | rfl | (simp [*]; done) | (simp [*]; omega), by (repeat (first | exact Below.refl _ _ | refine bl_drewN ?_ | refine bl_drew ?_ | refine bl_alloc ?_ _ | refine Below.setCell ?_ (by (first | (simp; done) | (simp; omega) | omega)) _ | refine bl_step (by assumption) ?_))⟩

theorem lat_any (a : Int) (w : World) : Calls Tryz.prog 12 #[.int .i64 a] w fun e w' => e = .returned (.agg #[.int .i64 (a), .int .i64 (a)]) ∧ Below w.heap.size w w' := by
  go_enter Tryz.func12, Tryz.ntmps12
  go_wp2
  exact bodyPost_ret (v := .agg #[.int .i64 (a), .int .i64 (a)]) (by first | (simp only [results, Tryz.results12]; go_simp; done) | simp [results, Tryz.results12, go_sem, *]) rfl ⟨rfl, by (repeat (first | exact Below.refl _ _ | refine bl_drewN ?_ | refine bl_drew ?_ | refine bl_alloc ?_ _ | refine Below.setCell ?_ (by (first | (simp; done) | (simp; omega) | omega)) _ | refine bl_step (by assumption) ?_))⟩
theorem one37_any (a : Int) (w : World) : Calls Tryz.prog 8 #[.int .i64 a] w fun e w' => e = .returned (.agg #[.int .i64 (a), .int .i64 (a)]) ∧ Below w.heap.size w w' := by
  go_enter Tryz.func8, Tryz.ntmps8
  go_wp2
  exact bodyPost_ret (v := .agg #[.int .i64 (a), .int .i64 (a)]) (by first | (simp only [results, Tryz.results8]; go_simp; done) | simp [results, Tryz.results8, go_sem, *]) rfl ⟨rfl, by (repeat (first | exact Below.refl _ _ | refine bl_drewN ?_ | refine bl_drew ?_ | refine bl_alloc ?_ _ | refine Below.setCell ?_ (by (first | (simp; done) | (simp; omega) | omega)) _ | refine bl_step (by assumption) ?_))⟩
theorem ladd_any (a b c d : Int) (w : World) (h1 : -9223372036854775808 ≤ a + c) (h2 : a + c ≤ 9223372036854775807) (h3 : -9223372036854775808 ≤ b + d) (h4 : b + d ≤ 9223372036854775807) :
    Calls Tryz.prog 34 #[.agg #[.int .i64 (a), .int .i64 (b)], .agg #[.int .i64 (c), .int .i64 (d)]] w fun e w' => e = .returned (.agg #[.int .i64 (a + c), .int .i64 (b + d)]) ∧ Below w.heap.size w w' := by
  go_enter Tryz.func34, Tryz.ntmps34
  go_wp2
  exact bodyPost_ret (v := .agg #[.int .i64 (a + c), .int .i64 (b + d)]) (by first | (simp only [results, Tryz.results34]; go_simp; done) | simp [results, Tryz.results34, go_sem, *]) rfl ⟨rfl, by (repeat (first | exact Below.refl _ _ | refine bl_drewN ?_ | refine bl_drew ?_ | refine bl_alloc ?_ _ | refine Below.setCell ?_ (by (first | (simp; done) | (simp; omega) | omega)) _ | refine bl_step (by assumption) ?_))⟩
theorem lsub_any (a b c d : Int) (w : World) (h1 : -9223372036854775808 ≤ a - d) (h2 : a - d ≤ 9223372036854775807) (h3 : -9223372036854775808 ≤ b - c) (h4 : b - c ≤ 9223372036854775807) :
    Calls Tryz.prog 32 #[.agg #[.int .i64 (a), .int .i64 (b)], .agg #[.int .i64 (c), .int .i64 (d)]] w fun e w' => e = .returned (.agg #[.int .i64 (a - d), .int .i64 (b - c)]) ∧ Below w.heap.size w w' := by
  go_enter Tryz.func32, Tryz.ntmps32
  go_wp2
  exact bodyPost_ret (v := .agg #[.int .i64 (a - d), .int .i64 (b - c)]) (by first | (simp only [results, Tryz.results32]; go_simp; done) | simp [results, Tryz.results32, go_sem, *]) rfl ⟨rfl, by (repeat (first | exact Below.refl _ _ | refine bl_drewN ?_ | refine bl_drew ?_ | refine bl_alloc ?_ _ | refine Below.setCell ?_ (by (first | (simp; done) | (simp; omega) | omega)) _ | refine bl_step (by assumption) ?_))⟩
end Go.Proofs.YtjceofmhodcefaaGreat
