/- The chain of operations of package parallax, as contracts: while there is no error, its methods only read. -/
import Derived.Test.YtcpghihgppgpmaaGreatTrigQ
import Derived.Test.YtcpghihgppgpmaaGreatFixC
import Derived.Test.YtcpghihgppgpmaaGreatAng3
namespace Go.Proofs.YtcpghihgppgpmaaGreat
open Go.RowKit

/-- a store of what a cell holds changes nothing -/
theorem setCell_self {w : World} {b i : Nat} {v : Value} (h : w.cell? ⟨b, i, none⟩ = some v) : w.setCell ⟨b, i, none⟩ v = w := by
  unfold World.setCell
  cases w with
  | mk heap tape drawn os output =>
    simp only [World.mk.injEq, and_true]
    apply Array.ext
    · simp
    · intro k h1 h2
      simp only [Array.getElem_modify]
      split
      · rename_i e
        subst e
        have hk : heap[b]? = some heap[b] := by simp
        simp only [World.cell?, hk] at h
        cases hc : heap[b] with
        | cells c t f =>
          rw [hc] at h
          simp at h
          show Obj.cells (c.setIfInBounds i v) t f = Obj.cells c t f
          congr 1
          apply Array.ext_getElem?
          intro j
          rw [Array.getElem?_setIfInBounds]
          split
          · rename_i e2
            subst e2
            split
            · exact h.symm
            · rename_i e3
              simp only [Array.getElem?_eq_none (Nat.le_of_not_lt e3)] at h
              cases h
          · rfl
        | _ => rfl
      · rfl

theorem keep_any (B : Nat) (w : World) (h : w.cell? ⟨B, 0, none⟩ = some (.int .i64 0)) (hf : w.frozen? ⟨B, 0, none⟩ = false) :
    Calls Tryz.prog 23 #[.pointer (some ⟨B, 0, none⟩), .int .i64 0] w fun e w' => e = .returned (.tuple #[]) ∧ w = w' := by
  go_enter Tryz.func23, Tryz.ntmps23
  go_wp2
  go_end0
  exact ⟨rfl, (setCell_self h).symm⟩

/-- what a chain without an error holds -/
def okAt (w : World) (B : Nat) : Prop := w.cell? ⟨B, 0, none⟩ = some (.int .i64 0) ∧ w.frozen? ⟨B, 0, none⟩ = false
theorem okAt_redrawn {w : World} {B d : Nat} {os : Array Obj} (h : okAt w B) : okAt (Go.Sort.grow (redrawn w d) os) B :=
  have l := World.block_lt_of_cell? _ _ h.1
  ⟨((below_regrown w d os).cell (p := ⟨B, 0, none⟩) l).trans h.1, ((below_regrown w d os).frozen (p := ⟨B, 0, none⟩) l).trans h.2⟩
theorem okAt_later {w w' : World} {B : Nat} (hb : Below w.heap.size w w') (h : okAt w B) : okAt w' B :=
  have l := World.block_lt_of_cell? _ _ h.1
  ⟨(hb.cell (p := ⟨B, 0, none⟩) l).trans h.1, (hb.frozen (p := ⟨B, 0, none⟩) l).trans h.2⟩
theorem okAt_lt {w : World} {B : Nat} (h : okAt w B) : B < w.heap.size := World.block_lt_of_cell? _ _ h.1

set_option maxHeartbeats 1000000 in
theorem psin_any (a b : Int) (B1 : Nat) (w : World) (h : okAt w B1) (ha : arcV a b = true) :
    Calls Tryz.prog 22 #[.pointer (some ⟨B1, 0, none⟩), .agg #[.int .i64 (a), .int .i64 (b)]] w fun e w' => e = .returned (.agg #[.int .i64 (encLo a b), .int .i64 (encHi a b)]) ∧ Below w.heap.size w w' := by
  have S := hidden fun w => sin_ok a b w ha
  have h3 := okAt_lt h; have h4 : B1 < w.heap.size + 1 := (by omega); have h5 : B1 < w.heap.size + 1 + 1 := (by omega); have h6 : B1 < w.heap.size + 1 + 1 + 1 := (by omega); have h7 : B1 < w.heap.size + 1 + 1 + 1 + 1 := (by omega); obtain ⟨h1, h2⟩ := h
  go_enter Tryz.func22, Tryz.ntmps22
  go_wp2_with (first | (go_at_call 47; ((with_reducible refine (S.out _).mono ?_); rintro e w' ⟨rfl, hb⟩); (try replace hb := below_undrew hb); (try replace hb := below_undrewN hb); obtain ⟨hcell, hfroz⟩ := bcell hb; have hz := hb.size; (try simp at hz); (try (have z6 := Nat.lt_of_lt_of_le z7 hz)); (try (have z7 := Nat.lt_of_lt_of_le z8 hz)); (try (have z8 := Nat.lt_of_lt_of_le z9 hz)); (try (have z9 := Nat.lt_of_lt_of_le (Nat.lt_succ_self _) hz)); (try (have z0 : w.heap.size < w'.heap.size := by omega)); (try (have z1 : w.heap.size + 1 < w'.heap.size := by omega)); (try (have z2 : w.heap.size + 1 + 1 < w'.heap.size := by omega)); (try (have z3 : w.heap.size + 1 + 1 + 1 < w'.heap.size := by omega)); (try (have y1 : w1.heap.size < w'.heap.size := by omega)); (try (have y2 : w2.heap.size < w'.heap.size := by omega)); (try (have y3 : w3.heap.size < w'.heap.size := by omega)); (try (have y4 : w4.heap.size < w'.heap.size := by omega)); (try (have y5 : w5.heap.size < w'.heap.size := by omega)); (try (have y6 : w6.heap.size < w'.heap.size := by omega)); (try (have x1 : w1.heap.size + 1 < w'.heap.size := by omega)); (try (have x2 : w2.heap.size + 1 < w'.heap.size := by omega)); (try (have x3 : w3.heap.size + 1 < w'.heap.size := by omega)); (try (have x4 : w4.heap.size + 1 < w'.heap.size := by omega)); (try (have x5 : w5.heap.size + 1 < w'.heap.size := by omega)); (try (have x6 : w6.heap.size + 1 < w'.heap.size := by omega)); (try (have hB1 : B1 < w'.heap.size := by omega)); (try (have hB2 : B2 < w'.heap.size := by omega)); (try (have hB3 : B1 < w'.heap.size + 1 := by omega)); (try (have hB4 : B2 < w'.heap.size + 1 := by omega))) | (go_at_call 23; ((with_reducible refine (keep_any _ _ ?hc ?hf).mono ?_); (case hc => (simp [go_sem, *]; done)); (case hf => (simp [go_sem, *]; done)); rintro e w' ⟨rfl, rfl⟩)))
  exact bodyPost_ret (v := .agg #[.int .i64 (encLo a b), .int .i64 (encHi a b)]) (by first | (simp only [results, Tryz.results22]; go_simp; done) | simp [results, Tryz.results22, go_sem, *]) rfl ⟨rfl, by (repeat (first | exact Below.refl _ _ | refine bl_drewN ?_ | refine bl_drew ?_ | refine bl_alloc ?_ _ | refine Below.setCell ?_ (by (first | (simp; done) | (simp; omega) | omega)) _ | refine bl_step (by assumption) ?_))⟩
set_option maxHeartbeats 1000000 in
theorem pcos_any (a b : Int) (B1 : Nat) (w : World) (h : okAt w B1) (ha : arcV a b = true) :
    Calls Tryz.prog 20 #[.pointer (some ⟨B1, 0, none⟩), .agg #[.int .i64 (a), .int .i64 (b)]] w fun e w' => e = .returned (.agg #[.int .i64 (encLo (a + 5400000) (b + 5400000)), .int .i64 (encHi (a + 5400000) (b + 5400000))]) ∧ Below w.heap.size w w' := by
  have S := hidden fun w => cos_ok a b w ha
  have h3 := okAt_lt h; have h4 : B1 < w.heap.size + 1 := (by omega); have h5 : B1 < w.heap.size + 1 + 1 := (by omega); have h6 : B1 < w.heap.size + 1 + 1 + 1 := (by omega); have h7 : B1 < w.heap.size + 1 + 1 + 1 + 1 := (by omega); obtain ⟨h1, h2⟩ := h
  go_enter Tryz.func20, Tryz.ntmps20
  go_wp2_with (first | (go_at_call 42; ((with_reducible refine (S.out _).mono ?_); rintro e w' ⟨rfl, hb⟩); (try replace hb := below_undrew hb); (try replace hb := below_undrewN hb); obtain ⟨hcell, hfroz⟩ := bcell hb; have hz := hb.size; (try simp at hz); (try (have z6 := Nat.lt_of_lt_of_le z7 hz)); (try (have z7 := Nat.lt_of_lt_of_le z8 hz)); (try (have z8 := Nat.lt_of_lt_of_le z9 hz)); (try (have z9 := Nat.lt_of_lt_of_le (Nat.lt_succ_self _) hz)); (try (have z0 : w.heap.size < w'.heap.size := by omega)); (try (have z1 : w.heap.size + 1 < w'.heap.size := by omega)); (try (have z2 : w.heap.size + 1 + 1 < w'.heap.size := by omega)); (try (have z3 : w.heap.size + 1 + 1 + 1 < w'.heap.size := by omega)); (try (have y1 : w1.heap.size < w'.heap.size := by omega)); (try (have y2 : w2.heap.size < w'.heap.size := by omega)); (try (have y3 : w3.heap.size < w'.heap.size := by omega)); (try (have y4 : w4.heap.size < w'.heap.size := by omega)); (try (have y5 : w5.heap.size < w'.heap.size := by omega)); (try (have y6 : w6.heap.size < w'.heap.size := by omega)); (try (have x1 : w1.heap.size + 1 < w'.heap.size := by omega)); (try (have x2 : w2.heap.size + 1 < w'.heap.size := by omega)); (try (have x3 : w3.heap.size + 1 < w'.heap.size := by omega)); (try (have x4 : w4.heap.size + 1 < w'.heap.size := by omega)); (try (have x5 : w5.heap.size + 1 < w'.heap.size := by omega)); (try (have x6 : w6.heap.size + 1 < w'.heap.size := by omega)); (try (have hB1 : B1 < w'.heap.size := by omega)); (try (have hB2 : B2 < w'.heap.size := by omega)); (try (have hB3 : B1 < w'.heap.size + 1 := by omega)); (try (have hB4 : B2 < w'.heap.size + 1 := by omega))) | (go_at_call 23; ((with_reducible refine (keep_any _ _ ?hc ?hf).mono ?_); (case hc => (simp [go_sem, *]; done)); (case hf => (simp [go_sem, *]; done)); rintro e w' ⟨rfl, rfl⟩)))
  exact bodyPost_ret (v := .agg #[.int .i64 (encLo (a + 5400000) (b + 5400000)), .int .i64 (encHi (a + 5400000) (b + 5400000))]) (by first | (simp only [results, Tryz.results20]; go_simp; done) | simp [results, Tryz.results20, go_sem, *]) rfl ⟨rfl, by (repeat (first | exact Below.refl _ _ | refine bl_drewN ?_ | refine bl_drew ?_ | refine bl_alloc ?_ _ | refine Below.setCell ?_ (by (first | (simp; done) | (simp; omega) | omega)) _ | refine bl_step (by assumption) ?_))⟩

/-- the least arc of the products of an arc and an interval -/
def tmLo (a b f g : Int) : Int := min (cLo f g 1073741824 1073741824 a) (cLo f g 1073741824 1073741824 b)
def tmHi (a b f g : Int) : Int := max (cHi f g 1073741824 1073741824 a) (cHi f g 1073741824 1073741824 b)
set_option maxHeartbeats 1000000 in
theorem ptimes_walk (a b f g x y p q : Int) (B1 : Nat) (w : World) (h : okAt w B1)
    (S1 : Hid (∀ w, Calls Tryz.prog 41 #[.agg #[.int .i64 (f), .int .i64 (g)], .int .i64 a] w fun e w' => e = .returned (.tuple #[.int .i64 x, .int .i64 y, .int .i64 0]) ∧ Below w.heap.size w w'))
    (S2 : Hid (∀ w, Calls Tryz.prog 41 #[.agg #[.int .i64 (f), .int .i64 (g)], .int .i64 b] w fun e w' => e = .returned (.tuple #[.int .i64 p, .int .i64 q, .int .i64 0]) ∧ Below w.heap.size w w')) :
    Calls Tryz.prog 19 #[.pointer (some ⟨B1, 0, none⟩), .agg #[.int .i64 (a), .int .i64 (b)], .agg #[.int .i64 (f), .int .i64 (g)]] w fun e w' => e = .returned (.agg #[.int .i64 (min x p), .int .i64 (max y q)]) ∧ Below w.heap.size w w' := by
  have h3 := okAt_lt h; have h4 : B1 < w.heap.size + 1 := (by omega); have h5 : B1 < w.heap.size + 1 + 1 := (by omega); have h6 : B1 < w.heap.size + 1 + 1 + 1 := (by omega); have h7 : B1 < w.heap.size + 1 + 1 + 1 + 1 := (by omega); obtain ⟨h1, h2⟩ := h
  go_enter Tryz.func19, Tryz.ntmps19
  go_wp2_with (first | (go_at_call 41; ((with_reducible refine (S1.out _).mono ?_); rintro e w' ⟨rfl, hb⟩); (try replace hb := below_undrew hb); (try replace hb := below_undrewN hb); obtain ⟨hcell, hfroz⟩ := bcell hb; have hz := hb.size; (try simp at hz); (try (have z6 := Nat.lt_of_lt_of_le z7 hz)); (try (have z7 := Nat.lt_of_lt_of_le z8 hz)); (try (have z8 := Nat.lt_of_lt_of_le z9 hz)); (try (have z9 := Nat.lt_of_lt_of_le (Nat.lt_succ_self _) hz)); (try (have z0 : w.heap.size < w'.heap.size := by omega)); (try (have z1 : w.heap.size + 1 < w'.heap.size := by omega)); (try (have z2 : w.heap.size + 1 + 1 < w'.heap.size := by omega)); (try (have z3 : w.heap.size + 1 + 1 + 1 < w'.heap.size := by omega)); (try (have y1 : w1.heap.size < w'.heap.size := by omega)); (try (have y2 : w2.heap.size < w'.heap.size := by omega)); (try (have y3 : w3.heap.size < w'.heap.size := by omega)); (try (have y4 : w4.heap.size < w'.heap.size := by omega)); (try (have y5 : w5.heap.size < w'.heap.size := by omega)); (try (have y6 : w6.heap.size < w'.heap.size := by omega)); (try (have x1 : w1.heap.size + 1 < w'.heap.size := by omega)); (try (have x2 : w2.heap.size + 1 < w'.heap.size := by omega)); (try (have x3 : w3.heap.size + 1 < w'.heap.size := by omega)); (try (have x4 : w4.heap.size + 1 < w'.heap.size := by omega)); (try (have x5 : w5.heap.size + 1 < w'.heap.size := by omega)); (try (have x6 : w6.heap.size + 1 < w'.heap.size := by omega)); (try (have hB1 : B1 < w'.heap.size := by omega)); (try (have hB2 : B2 < w'.heap.size := by omega)); (try (have hB3 : B1 < w'.heap.size + 1 := by omega)); (try (have hB4 : B2 < w'.heap.size + 1 := by omega))) | (go_at_call 41; ((with_reducible refine (S2.out _).mono ?_); rintro e w' ⟨rfl, hb⟩); (try replace hb := below_undrew hb); (try replace hb := below_undrewN hb); obtain ⟨hcell, hfroz⟩ := bcell hb; have hz := hb.size; (try simp at hz); (try (have z6 := Nat.lt_of_lt_of_le z7 hz)); (try (have z7 := Nat.lt_of_lt_of_le z8 hz)); (try (have z8 := Nat.lt_of_lt_of_le z9 hz)); (try (have z9 := Nat.lt_of_lt_of_le (Nat.lt_succ_self _) hz)); (try (have z0 : w.heap.size < w'.heap.size := by omega)); (try (have z1 : w.heap.size + 1 < w'.heap.size := by omega)); (try (have z2 : w.heap.size + 1 + 1 < w'.heap.size := by omega)); (try (have z3 : w.heap.size + 1 + 1 + 1 < w'.heap.size := by omega)); (try (have y1 : w1.heap.size < w'.heap.size := by omega)); (try (have y2 : w2.heap.size < w'.heap.size := by omega)); (try (have y3 : w3.heap.size < w'.heap.size := by omega)); (try (have y4 : w4.heap.size < w'.heap.size := by omega)); (try (have y5 : w5.heap.size < w'.heap.size := by omega)); (try (have y6 : w6.heap.size < w'.heap.size := by omega)); (try (have x1 : w1.heap.size + 1 < w'.heap.size := by omega)); (try (have x2 : w2.heap.size + 1 < w'.heap.size := by omega)); (try (have x3 : w3.heap.size + 1 < w'.heap.size := by omega)); (try (have x4 : w4.heap.size + 1 < w'.heap.size := by omega)); (try (have x5 : w5.heap.size + 1 < w'.heap.size := by omega)); (try (have x6 : w6.heap.size + 1 < w'.heap.size := by omega)); (try (have hB1 : B1 < w'.heap.size := by omega)); (try (have hB2 : B2 < w'.heap.size := by omega)); (try (have hB3 : B1 < w'.heap.size + 1 := by omega)); (try (have hB4 : B2 < w'.heap.size + 1 := by omega))) | (go_at_call 23; ((with_reducible refine (keep_any _ _ ?hc ?hf).mono ?_); (case hc => (simp [go_sem, *]; done)); (case hf => (simp [go_sem, *]; done)); rintro e w' ⟨rfl, rfl⟩)))
  exact bodyPost_ret (v := .agg #[.int .i64 (min x p), .int .i64 (max y q)]) (by first | (simp only [results, Tryz.results19]; go_simp; done) | simp [results, Tryz.results19, go_sem, *]) rfl ⟨rfl, by (repeat (first | exact Below.refl _ _ | refine bl_drewN ?_ | refine bl_drew ?_ | refine bl_alloc ?_ _ | refine Below.setCell ?_ (by (first | (simp; done) | (simp; omega) | omega)) _ | refine bl_step (by assumption) ?_))⟩
theorem ptimes_any (a b f g : Int) (B1 : Nat) (w : World) (h : okAt w B1) (hf : fixB f g = true) (ha : reachB a = true) (hb : reachB b = true) :
    Calls Tryz.prog 19 #[.pointer (some ⟨B1, 0, none⟩), .agg #[.int .i64 (a), .int .i64 (b)], .agg #[.int .i64 (f), .int .i64 (g)]] w fun e w' => e = .returned (.agg #[.int .i64 (tmLo a b f g), .int .i64 (tmHi a b f g)]) ∧ Below w.heap.size w w' :=
  ptimes_walk a b f g _ _ _ _ B1 w h (hidden fun w => scale_any f g a w hf ha) (hidden fun w => scale_any f g b w hf hb)

set_option maxHeartbeats 1000000 in
theorem padd_any (a b c d : Int) (B1 : Nat) (w : World) (h : okAt w B1) (g1 : arcB a b = true) (g2 : arcB c d = true) (g3 : fitsB (a + c) = true) (g4 : fitsB (b + d) = true) :
    Calls Tryz.prog 25 #[.pointer (some ⟨B1, 0, none⟩), .agg #[.int .i64 (a), .int .i64 (b)], .agg #[.int .i64 (c), .int .i64 (d)]] w fun e w' => e = .returned (.agg #[.int .i64 (a + c), .int .i64 (b + d)]) ∧ Below w.heap.size w w' := by
  have S := hidden fun w => add_ok a b c d w g1 g2 g3 g4
  have h3 := okAt_lt h; have h4 : B1 < w.heap.size + 1 := (by omega); have h5 : B1 < w.heap.size + 1 + 1 := (by omega); have h6 : B1 < w.heap.size + 1 + 1 + 1 := (by omega); have h7 : B1 < w.heap.size + 1 + 1 + 1 + 1 := (by omega); obtain ⟨h1, h2⟩ := h
  clear g1 g2 g3 g4
  go_enter Tryz.func25, Tryz.ntmps25
  go_wp2_with (first | (go_at_call 48; ((with_reducible refine (S.out _).mono ?_); rintro e w' ⟨rfl, hb⟩); (try replace hb := below_undrew hb); (try replace hb := below_undrewN hb); obtain ⟨hcell, hfroz⟩ := bcell hb; have hz := hb.size; (try simp at hz); (try (have z6 := Nat.lt_of_lt_of_le z7 hz)); (try (have z7 := Nat.lt_of_lt_of_le z8 hz)); (try (have z8 := Nat.lt_of_lt_of_le z9 hz)); (try (have z9 := Nat.lt_of_lt_of_le (Nat.lt_succ_self _) hz)); (try (have z0 : w.heap.size < w'.heap.size := by omega)); (try (have z1 : w.heap.size + 1 < w'.heap.size := by omega)); (try (have z2 : w.heap.size + 1 + 1 < w'.heap.size := by omega)); (try (have z3 : w.heap.size + 1 + 1 + 1 < w'.heap.size := by omega)); (try (have y1 : w1.heap.size < w'.heap.size := by omega)); (try (have y2 : w2.heap.size < w'.heap.size := by omega)); (try (have y3 : w3.heap.size < w'.heap.size := by omega)); (try (have y4 : w4.heap.size < w'.heap.size := by omega)); (try (have y5 : w5.heap.size < w'.heap.size := by omega)); (try (have y6 : w6.heap.size < w'.heap.size := by omega)); (try (have x1 : w1.heap.size + 1 < w'.heap.size := by omega)); (try (have x2 : w2.heap.size + 1 < w'.heap.size := by omega)); (try (have x3 : w3.heap.size + 1 < w'.heap.size := by omega)); (try (have x4 : w4.heap.size + 1 < w'.heap.size := by omega)); (try (have x5 : w5.heap.size + 1 < w'.heap.size := by omega)); (try (have x6 : w6.heap.size + 1 < w'.heap.size := by omega)); (try (have hB1 : B1 < w'.heap.size := by omega)); (try (have hB2 : B2 < w'.heap.size := by omega)); (try (have hB3 : B1 < w'.heap.size + 1 := by omega)); (try (have hB4 : B2 < w'.heap.size + 1 := by omega))) | (go_at_call 23; ((with_reducible refine (keep_any _ _ ?hc ?hf).mono ?_); (case hc => (simp [go_sem, *]; done)); (case hf => (simp [go_sem, *]; done)); rintro e w' ⟨rfl, rfl⟩)))
  exact bodyPost_ret (v := .agg #[.int .i64 (a + c), .int .i64 (b + d)]) (by first | (simp only [results, Tryz.results25]; go_simp; done) | simp [results, Tryz.results25, go_sem, *]) rfl ⟨rfl, by (repeat (first | exact Below.refl _ _ | refine bl_drewN ?_ | refine bl_drew ?_ | refine bl_alloc ?_ _ | refine Below.setCell ?_ (by (first | (simp; done) | (simp; omega) | omega)) _ | refine bl_step (by assumption) ?_))⟩
set_option maxHeartbeats 1000000 in
theorem psub_any (a b c d : Int) (B1 : Nat) (w : World) (h : okAt w B1) (g1 : arcB a b = true) (g2 : arcB c d = true) (g3 : fitsB (a - d) = true) (g4 : fitsB (b - c) = true) :
    Calls Tryz.prog 28 #[.pointer (some ⟨B1, 0, none⟩), .agg #[.int .i64 (a), .int .i64 (b)], .agg #[.int .i64 (c), .int .i64 (d)]] w fun e w' => e = .returned (.agg #[.int .i64 (a - d), .int .i64 (b - c)]) ∧ Below w.heap.size w w' := by
  have S := hidden fun w => sub_ok a b c d w g1 g2 g3 g4
  have h3 := okAt_lt h; have h4 : B1 < w.heap.size + 1 := (by omega); have h5 : B1 < w.heap.size + 1 + 1 := (by omega); have h6 : B1 < w.heap.size + 1 + 1 + 1 := (by omega); have h7 : B1 < w.heap.size + 1 + 1 + 1 + 1 := (by omega); obtain ⟨h1, h2⟩ := h
  clear g1 g2 g3 g4
  go_enter Tryz.func28, Tryz.ntmps28
  go_wp2_with (first | (go_at_call 52; ((with_reducible refine (S.out _).mono ?_); rintro e w' ⟨rfl, hb⟩); (try replace hb := below_undrew hb); (try replace hb := below_undrewN hb); obtain ⟨hcell, hfroz⟩ := bcell hb; have hz := hb.size; (try simp at hz); (try (have z6 := Nat.lt_of_lt_of_le z7 hz)); (try (have z7 := Nat.lt_of_lt_of_le z8 hz)); (try (have z8 := Nat.lt_of_lt_of_le z9 hz)); (try (have z9 := Nat.lt_of_lt_of_le (Nat.lt_succ_self _) hz)); (try (have z0 : w.heap.size < w'.heap.size := by omega)); (try (have z1 : w.heap.size + 1 < w'.heap.size := by omega)); (try (have z2 : w.heap.size + 1 + 1 < w'.heap.size := by omega)); (try (have z3 : w.heap.size + 1 + 1 + 1 < w'.heap.size := by omega)); (try (have y1 : w1.heap.size < w'.heap.size := by omega)); (try (have y2 : w2.heap.size < w'.heap.size := by omega)); (try (have y3 : w3.heap.size < w'.heap.size := by omega)); (try (have y4 : w4.heap.size < w'.heap.size := by omega)); (try (have y5 : w5.heap.size < w'.heap.size := by omega)); (try (have y6 : w6.heap.size < w'.heap.size := by omega)); (try (have x1 : w1.heap.size + 1 < w'.heap.size := by omega)); (try (have x2 : w2.heap.size + 1 < w'.heap.size := by omega)); (try (have x3 : w3.heap.size + 1 < w'.heap.size := by omega)); (try (have x4 : w4.heap.size + 1 < w'.heap.size := by omega)); (try (have x5 : w5.heap.size + 1 < w'.heap.size := by omega)); (try (have x6 : w6.heap.size + 1 < w'.heap.size := by omega)); (try (have hB1 : B1 < w'.heap.size := by omega)); (try (have hB2 : B2 < w'.heap.size := by omega)); (try (have hB3 : B1 < w'.heap.size + 1 := by omega)); (try (have hB4 : B2 < w'.heap.size + 1 := by omega))) | (go_at_call 23; ((with_reducible refine (keep_any _ _ ?hc ?hf).mono ?_); (case hc => (simp [go_sem, *]; done)); (case hf => (simp [go_sem, *]; done)); rintro e w' ⟨rfl, rfl⟩)))
  exact bodyPost_ret (v := .agg #[.int .i64 (a - d), .int .i64 (b - c)]) (by first | (simp only [results, Tryz.results28]; go_simp; done) | simp [results, Tryz.results28, go_sem, *]) rfl ⟨rfl, by (repeat (first | exact Below.refl _ _ | refine bl_drewN ?_ | refine bl_drew ?_ | refine bl_alloc ?_ _ | refine Below.setCell ?_ (by (first | (simp; done) | (simp; omega) | omega)) _ | refine bl_step (by assumption) ?_))⟩
theorem presult_any (a b : Int) (B1 : Nat) (w : World) (h : okAt w B1) :
    Calls Tryz.prog 18 #[.pointer (some ⟨B1, 0, none⟩), .agg #[.int .i64 (a), .int .i64 (b)]] w fun e w' => e = .returned (.tuple #[.agg #[.int .i64 (a), .int .i64 (b)], .int .i64 (0)]) ∧ Below w.heap.size w w' := by
  have h3 := okAt_lt h; have h4 : B1 < w.heap.size + 1 := (by omega); have h5 : B1 < w.heap.size + 1 + 1 := (by omega); have h6 : B1 < w.heap.size + 1 + 1 + 1 := (by omega); have h7 : B1 < w.heap.size + 1 + 1 + 1 + 1 := (by omega); obtain ⟨h1, h2⟩ := h
  go_enter Tryz.func18, Tryz.ntmps18
  go_wp2
  exact bodyPost_ret (v := .tuple #[.agg #[.int .i64 (a), .int .i64 (b)], .int .i64 (0)]) (by first | (simp only [results, Tryz.results18]; go_simp; done) | simp [results, Tryz.results18, go_sem, *]) rfl ⟨rfl, by (repeat (first | exact Below.refl _ _ | refine bl_drewN ?_ | refine bl_drew ?_ | refine bl_alloc ?_ _ | refine Below.setCell ?_ (by (first | (simp; done) | (simp; omega) | omega)) _ | refine bl_step (by assumption) ?_))⟩

def smallB (a b : Int) : Bool := arcB a b && (decide (0 ≤ a) && decide (b ≤ 120000))
def altB (a b : Int) : Bool := arcB a b && (decide (-5400000 ≤ a) && decide (b ≤ 5400000))
theorem small_any (a b : Int) (w : World) :
    Calls Tryz.prog 16 #[.agg #[.int .i64 (a), .int .i64 (b)]] w fun e w' => e = .returned (.bool (smallB a b)) ∧ Below w.heap.size w w' := by
  obtain ⟨v, hv⟩ : ∃ v, smallB a b = v := ⟨_, rfl⟩
  rw [hv]
  unfold smallB at hv
  have V := hidden fun w => valid_any a b w
  cases h : arcB a b
  · rw [h] at V
    have H : Hid (false = v) := by rw [← hv]; unfold Hid; simp [h]
    clear hv h
    go_enter Tryz.func16, Tryz.ntmps16
    go_wp2_with (go_at_call 40; ((with_reducible refine (V.out _).mono ?_); rintro e w' ⟨rfl, hb⟩); (try replace hb := below_undrew hb); (try replace hb := below_undrewN hb); obtain ⟨hcell, hfroz⟩ := bcell hb; have hz := hb.size; (try simp at hz); (try (have z6 := Nat.lt_of_lt_of_le z7 hz)); (try (have z7 := Nat.lt_of_lt_of_le z8 hz)); (try (have z8 := Nat.lt_of_lt_of_le z9 hz)); (try (have z9 := Nat.lt_of_lt_of_le (Nat.lt_succ_self _) hz)); (try (have z0 : w.heap.size < w'.heap.size := by omega)); (try (have z1 : w.heap.size + 1 < w'.heap.size := by omega)); (try (have z2 : w.heap.size + 1 + 1 < w'.heap.size := by omega)); (try (have z3 : w.heap.size + 1 + 1 + 1 < w'.heap.size := by omega)); (try (have y1 : w1.heap.size < w'.heap.size := by omega)); (try (have y2 : w2.heap.size < w'.heap.size := by omega)); (try (have y3 : w3.heap.size < w'.heap.size := by omega)); (try (have y4 : w4.heap.size < w'.heap.size := by omega)); (try (have y5 : w5.heap.size < w'.heap.size := by omega)); (try (have y6 : w6.heap.size < w'.heap.size := by omega)); (try (have x1 : w1.heap.size + 1 < w'.heap.size := by omega)); (try (have x2 : w2.heap.size + 1 < w'.heap.size := by omega)); (try (have x3 : w3.heap.size + 1 < w'.heap.size := by omega)); (try (have x4 : w4.heap.size + 1 < w'.heap.size := by omega)); (try (have x5 : w5.heap.size + 1 < w'.heap.size := by omega)); (try (have x6 : w6.heap.size + 1 < w'.heap.size := by omega)); (try (have hB1 : B1 < w'.heap.size := by omega)); (try (have hB2 : B2 < w'.heap.size := by omega)); (try (have hB3 : B1 < w'.heap.size + 1 := by omega)); (try (have hB4 : B2 < w'.heap.size + 1 := by omega)))
    go_ret
    exact ⟨by rw [← H.out]; rfl, by (repeat (first | exact Below.refl _ _ | refine bl_drewN ?_ | refine bl_drew ?_ | refine bl_alloc ?_ _ | refine Below.setCell ?_ (by (first | (simp; done) | (simp; omega) | omega)) _ | refine bl_step (by assumption) ?_))⟩
  · rw [h] at V
    by_cases h1 : 0 ≤ a
    · have H : Hid (decide (b ≤ 120000) = v) := by rw [← hv]; unfold Hid; simp [h, h1]
      clear hv h
      go_enter Tryz.func16, Tryz.ntmps16
      go_wp2_with (go_at_call 40; ((with_reducible refine (V.out _).mono ?_); rintro e w' ⟨rfl, hb⟩); (try replace hb := below_undrew hb); (try replace hb := below_undrewN hb); obtain ⟨hcell, hfroz⟩ := bcell hb; have hz := hb.size; (try simp at hz); (try (have z6 := Nat.lt_of_lt_of_le z7 hz)); (try (have z7 := Nat.lt_of_lt_of_le z8 hz)); (try (have z8 := Nat.lt_of_lt_of_le z9 hz)); (try (have z9 := Nat.lt_of_lt_of_le (Nat.lt_succ_self _) hz)); (try (have z0 : w.heap.size < w'.heap.size := by omega)); (try (have z1 : w.heap.size + 1 < w'.heap.size := by omega)); (try (have z2 : w.heap.size + 1 + 1 < w'.heap.size := by omega)); (try (have z3 : w.heap.size + 1 + 1 + 1 < w'.heap.size := by omega)); (try (have y1 : w1.heap.size < w'.heap.size := by omega)); (try (have y2 : w2.heap.size < w'.heap.size := by omega)); (try (have y3 : w3.heap.size < w'.heap.size := by omega)); (try (have y4 : w4.heap.size < w'.heap.size := by omega)); (try (have y5 : w5.heap.size < w'.heap.size := by omega)); (try (have y6 : w6.heap.size < w'.heap.size := by omega)); (try (have x1 : w1.heap.size + 1 < w'.heap.size := by omega)); (try (have x2 : w2.heap.size + 1 < w'.heap.size := by omega)); (try (have x3 : w3.heap.size + 1 < w'.heap.size := by omega)); (try (have x4 : w4.heap.size + 1 < w'.heap.size := by omega)); (try (have x5 : w5.heap.size + 1 < w'.heap.size := by omega)); (try (have x6 : w6.heap.size + 1 < w'.heap.size := by omega)); (try (have hB1 : B1 < w'.heap.size := by omega)); (try (have hB2 : B2 < w'.heap.size := by omega)); (try (have hB3 : B1 < w'.heap.size + 1 := by omega)); (try (have hB4 : B2 < w'.heap.size + 1 := by omega)))
      go_ret
      exact ⟨by rw [← H.out]; rfl, by (repeat (first | exact Below.refl _ _ | refine bl_drewN ?_ | refine bl_drew ?_ | refine bl_alloc ?_ _ | refine Below.setCell ?_ (by (first | (simp; done) | (simp; omega) | omega)) _ | refine bl_step (by assumption) ?_))⟩
    · have H : Hid (false = v) := by rw [← hv]; unfold Hid; simp [h, h1]
      clear hv h
      go_enter Tryz.func16, Tryz.ntmps16
      go_wp2_with (go_at_call 40; ((with_reducible refine (V.out _).mono ?_); rintro e w' ⟨rfl, hb⟩); (try replace hb := below_undrew hb); (try replace hb := below_undrewN hb); obtain ⟨hcell, hfroz⟩ := bcell hb; have hz := hb.size; (try simp at hz); (try (have z6 := Nat.lt_of_lt_of_le z7 hz)); (try (have z7 := Nat.lt_of_lt_of_le z8 hz)); (try (have z8 := Nat.lt_of_lt_of_le z9 hz)); (try (have z9 := Nat.lt_of_lt_of_le (Nat.lt_succ_self _) hz)); (try (have z0 : w.heap.size < w'.heap.size := by omega)); (try (have z1 : w.heap.size + 1 < w'.heap.size := by omega)); (try (have z2 : w.heap.size + 1 + 1 < w'.heap.size := by omega)); (try (have z3 : w.heap.size + 1 + 1 + 1 < w'.heap.size := by omega)); (try (have y1 : w1.heap.size < w'.heap.size := by omega)); (try (have y2 : w2.heap.size < w'.heap.size := by omega)); (try (have y3 : w3.heap.size < w'.heap.size := by omega)); (try (have y4 : w4.heap.size < w'.heap.size := by omega)); (try (have y5 : w5.heap.size < w'.heap.size := by omega)); (try (have y6 : w6.heap.size < w'.heap.size := by omega)); (try (have x1 : w1.heap.size + 1 < w'.heap.size := by omega)); (try (have x2 : w2.heap.size + 1 < w'.heap.size := by omega)); (try (have x3 : w3.heap.size + 1 < w'.heap.size := by omega)); (try (have x4 : w4.heap.size + 1 < w'.heap.size := by omega)); (try (have x5 : w5.heap.size + 1 < w'.heap.size := by omega)); (try (have x6 : w6.heap.size + 1 < w'.heap.size := by omega)); (try (have hB1 : B1 < w'.heap.size := by omega)); (try (have hB2 : B2 < w'.heap.size := by omega)); (try (have hB3 : B1 < w'.heap.size + 1 := by omega)); (try (have hB4 : B2 < w'.heap.size + 1 := by omega)))
      go_ret
      exact ⟨by rw [← H.out]; rfl, by (repeat (first | exact Below.refl _ _ | refine bl_drewN ?_ | refine bl_drew ?_ | refine bl_alloc ?_ _ | refine Below.setCell ?_ (by (first | (simp; done) | (simp; omega) | omega)) _ | refine bl_step (by assumption) ?_))⟩
theorem altitude_any (a b : Int) (w : World) :
    Calls Tryz.prog 17 #[.agg #[.int .i64 (a), .int .i64 (b)]] w fun e w' => e = .returned (.bool (altB a b)) ∧ Below w.heap.size w w' := by
  obtain ⟨v, hv⟩ : ∃ v, altB a b = v := ⟨_, rfl⟩
  rw [hv]
  unfold altB at hv
  have V := hidden fun w => valid_any a b w
  cases h : arcB a b
  · rw [h] at V
    have H : Hid (false = v) := by rw [← hv]; unfold Hid; simp [h]
    clear hv h
    go_enter Tryz.func17, Tryz.ntmps17
    go_wp2_with (go_at_call 40; ((with_reducible refine (V.out _).mono ?_); rintro e w' ⟨rfl, hb⟩); (try replace hb := below_undrew hb); (try replace hb := below_undrewN hb); obtain ⟨hcell, hfroz⟩ := bcell hb; have hz := hb.size; (try simp at hz); (try (have z6 := Nat.lt_of_lt_of_le z7 hz)); (try (have z7 := Nat.lt_of_lt_of_le z8 hz)); (try (have z8 := Nat.lt_of_lt_of_le z9 hz)); (try (have z9 := Nat.lt_of_lt_of_le (Nat.lt_succ_self _) hz)); (try (have z0 : w.heap.size < w'.heap.size := by omega)); (try (have z1 : w.heap.size + 1 < w'.heap.size := by omega)); (try (have z2 : w.heap.size + 1 + 1 < w'.heap.size := by omega)); (try (have z3 : w.heap.size + 1 + 1 + 1 < w'.heap.size := by omega)); (try (have y1 : w1.heap.size < w'.heap.size := by omega)); (try (have y2 : w2.heap.size < w'.heap.size := by omega)); (try (have y3 : w3.heap.size < w'.heap.size := by omega)); (try (have y4 : w4.heap.size < w'.heap.size := by omega)); (try (have y5 : w5.heap.size < w'.heap.size := by omega)); (try (have y6 : w6.heap.size < w'.heap.size := by omega)); (try (have x1 : w1.heap.size + 1 < w'.heap.size := by omega)); (try (have x2 : w2.heap.size + 1 < w'.heap.size := by omega)); (try (have x3 : w3.heap.size + 1 < w'.heap.size := by omega)); (try (have x4 : w4.heap.size + 1 < w'.heap.size := by omega)); (try (have x5 : w5.heap.size + 1 < w'.heap.size := by omega)); (try (have x6 : w6.heap.size + 1 < w'.heap.size := by omega)); (try (have hB1 : B1 < w'.heap.size := by omega)); (try (have hB2 : B2 < w'.heap.size := by omega)); (try (have hB3 : B1 < w'.heap.size + 1 := by omega)); (try (have hB4 : B2 < w'.heap.size + 1 := by omega)))
    go_ret
    exact ⟨by rw [← H.out]; rfl, by (repeat (first | exact Below.refl _ _ | refine bl_drewN ?_ | refine bl_drew ?_ | refine bl_alloc ?_ _ | refine Below.setCell ?_ (by (first | (simp; done) | (simp; omega) | omega)) _ | refine bl_step (by assumption) ?_))⟩
  · rw [h] at V
    by_cases h1 : -5400000 ≤ a
    · have H : Hid (decide (b ≤ 5400000) = v) := by rw [← hv]; unfold Hid; simp [h, h1]
      clear hv h
      go_enter Tryz.func17, Tryz.ntmps17
      go_wp2_with (go_at_call 40; ((with_reducible refine (V.out _).mono ?_); rintro e w' ⟨rfl, hb⟩); (try replace hb := below_undrew hb); (try replace hb := below_undrewN hb); obtain ⟨hcell, hfroz⟩ := bcell hb; have hz := hb.size; (try simp at hz); (try (have z6 := Nat.lt_of_lt_of_le z7 hz)); (try (have z7 := Nat.lt_of_lt_of_le z8 hz)); (try (have z8 := Nat.lt_of_lt_of_le z9 hz)); (try (have z9 := Nat.lt_of_lt_of_le (Nat.lt_succ_self _) hz)); (try (have z0 : w.heap.size < w'.heap.size := by omega)); (try (have z1 : w.heap.size + 1 < w'.heap.size := by omega)); (try (have z2 : w.heap.size + 1 + 1 < w'.heap.size := by omega)); (try (have z3 : w.heap.size + 1 + 1 + 1 < w'.heap.size := by omega)); (try (have y1 : w1.heap.size < w'.heap.size := by omega)); (try (have y2 : w2.heap.size < w'.heap.size := by omega)); (try (have y3 : w3.heap.size < w'.heap.size := by omega)); (try (have y4 : w4.heap.size < w'.heap.size := by omega)); (try (have y5 : w5.heap.size < w'.heap.size := by omega)); (try (have y6 : w6.heap.size < w'.heap.size := by omega)); (try (have x1 : w1.heap.size + 1 < w'.heap.size := by omega)); (try (have x2 : w2.heap.size + 1 < w'.heap.size := by omega)); (try (have x3 : w3.heap.size + 1 < w'.heap.size := by omega)); (try (have x4 : w4.heap.size + 1 < w'.heap.size := by omega)); (try (have x5 : w5.heap.size + 1 < w'.heap.size := by omega)); (try (have x6 : w6.heap.size + 1 < w'.heap.size := by omega)); (try (have hB1 : B1 < w'.heap.size := by omega)); (try (have hB2 : B2 < w'.heap.size := by omega)); (try (have hB3 : B1 < w'.heap.size + 1 := by omega)); (try (have hB4 : B2 < w'.heap.size + 1 := by omega)))
      go_ret
      exact ⟨by rw [← H.out]; rfl, by (repeat (first | exact Below.refl _ _ | refine bl_drewN ?_ | refine bl_drew ?_ | refine bl_alloc ?_ _ | refine Below.setCell ?_ (by (first | (simp; done) | (simp; omega) | omega)) _ | refine bl_step (by assumption) ?_))⟩
    · have H : Hid (false = v) := by rw [← hv]; unfold Hid; simp [h, h1]
      clear hv h
      go_enter Tryz.func17, Tryz.ntmps17
      go_wp2_with (go_at_call 40; ((with_reducible refine (V.out _).mono ?_); rintro e w' ⟨rfl, hb⟩); (try replace hb := below_undrew hb); (try replace hb := below_undrewN hb); obtain ⟨hcell, hfroz⟩ := bcell hb; have hz := hb.size; (try simp at hz); (try (have z6 := Nat.lt_of_lt_of_le z7 hz)); (try (have z7 := Nat.lt_of_lt_of_le z8 hz)); (try (have z8 := Nat.lt_of_lt_of_le z9 hz)); (try (have z9 := Nat.lt_of_lt_of_le (Nat.lt_succ_self _) hz)); (try (have z0 : w.heap.size < w'.heap.size := by omega)); (try (have z1 : w.heap.size + 1 < w'.heap.size := by omega)); (try (have z2 : w.heap.size + 1 + 1 < w'.heap.size := by omega)); (try (have z3 : w.heap.size + 1 + 1 + 1 < w'.heap.size := by omega)); (try (have y1 : w1.heap.size < w'.heap.size := by omega)); (try (have y2 : w2.heap.size < w'.heap.size := by omega)); (try (have y3 : w3.heap.size < w'.heap.size := by omega)); (try (have y4 : w4.heap.size < w'.heap.size := by omega)); (try (have y5 : w5.heap.size < w'.heap.size := by omega)); (try (have y6 : w6.heap.size < w'.heap.size := by omega)); (try (have x1 : w1.heap.size + 1 < w'.heap.size := by omega)); (try (have x2 : w2.heap.size + 1 < w'.heap.size := by omega)); (try (have x3 : w3.heap.size + 1 < w'.heap.size := by omega)); (try (have x4 : w4.heap.size + 1 < w'.heap.size := by omega)); (try (have x5 : w5.heap.size + 1 < w'.heap.size := by omega)); (try (have x6 : w6.heap.size + 1 < w'.heap.size := by omega)); (try (have hB1 : B1 < w'.heap.size := by omega)); (try (have hB2 : B2 < w'.heap.size := by omega)); (try (have hB3 : B1 < w'.heap.size + 1 := by omega)); (try (have hB4 : B2 < w'.heap.size + 1 := by omega)))
      go_ret
      exact ⟨by rw [← H.out]; rfl, by (repeat (first | exact Below.refl _ _ | refine bl_drewN ?_ | refine bl_drew ?_ | refine bl_alloc ?_ _ | refine Below.setCell ?_ (by (first | (simp; done) | (simp; omega) | omega)) _ | refine bl_step (by assumption) ?_))⟩

end Go.Proofs.YtcpghihgppgpmaaGreat
