/- What a box and the point of the equator at the first meridian have in common, as contracts. -/
import Derived.Test.YtdhbeoahpfimbaaGreatCo
import Derived.Test.YtdhbeoahpfimbaaGreatComB
import Derived.Test.YtdhbeoahpfimbaaGreatRa
import Derived.Deep.AppendLies
namespace Go.Proofs.YtdhbeoahpfimbaaGreat
open Go.RowKit
theorem row_one {w : World} {base : Nat} {e : TypeId} {v x y : Value} (h : w.ownsRow base e 2 v 1 [x, y]) : ∃ g cap, v = .slice (some ⟨g, 0, none⟩) 1 cap ∧ base ≤ g ∧ w.cell? ⟨g, 0, none⟩ = some x ∧ w.cell? ⟨g, 1, none⟩ = some y := by
  obtain ⟨_, h | ⟨g, cap, cur, rfl, h2, h3, h4⟩⟩ := h
  · exact absurd h.2 (by decide)
  · have H : w.ownsRow base e 2 (.slice (some ⟨g, 0, none⟩) 1 cap) 1 [x, y] := ⟨by simp, .inr ⟨g, cap, cur, rfl, h2, h3, h4⟩⟩
    exact ⟨g, cap, rfl, h2, by simpa using H.cellAt 0 (by decide), by simpa using H.cellAt 1 (by decide)⟩
/-- what the longitudes of a box and the first meridian have in common -/
def ComV (v : Value) (w w' : World) : Prop := ∃ g cap, v = .slice (some ⟨g, 0, none⟩) 1 cap ∧ w.heap.size ≤ g ∧ w'.cell? ⟨g, 0, none⟩ = some (.int .i64 0) ∧ w'.cell? ⟨g, 1, none⟩ = some (.int .i64 0)
theorem com_yes (c d : Int) (w : World) (h0 : -10800000 ≤ c) (hc : c ≤ 0) (h1 : 0 ≤ d) (h2 : d ≤ 10800000) (hn : ¬ (c = -10800000 ∧ d = 10800000)) :
    Calls Tryz.prog 300 #[.agg #[.int .i64 0, .int .i64 0], .agg #[.int .i64 c, .int .i64 d]] w fun e w' => ∃ v, e = .returned v ∧ ComV v w w' ∧ Below w.heap.size w w' := by
  by_cases z : c = 0
  · subst z
    refine (com_first d w h1 h2).mono ?_
    rintro e w' ⟨v, he, hr, hb⟩
    obtain ⟨g, cap, e1, e2, e3, e4⟩ := row_one hr
    exact ⟨v, he, ⟨g, cap, e1, e2, e3, e4⟩, hb⟩
  · refine (com_second c d _ w h0 (by omega) h1 h2 hn rfl).mono ?_
    rintro e w' ⟨v, he, hr, hb⟩
    obtain ⟨g, cap, e1, e2, e3, e4⟩ := row_one hr
    exact ⟨v, he, ⟨g, cap, e1, e2, e3, e4⟩, hb⟩
theorem cell_rd {w : World} {B i d : Nat} {os : Array Obj} {x : Value} (h : w.cell? ⟨B, i, none⟩ = some x) : (Go.Sort.grow (redrawn w d) os).cell? ⟨B, i, none⟩ = some x :=
  ((below_regrown w d os).cell (p := ⟨B, i, none⟩) (World.block_lt_of_cell? _ _ h)).trans h
set_option maxRecDepth 100000 in
set_option maxHeartbeats 4000000 in
theorem meet_yes (a b c d : Int) (w : World) (l1 : -5400000 ≤ a) (l2 : a ≤ 0) (l3 : 0 ≤ b) (l4 : b ≤ 5400000) (h0 : -10800000 ≤ c) (hc : c ≤ 0) (h1 : 0 ≤ d) (h2 : d ≤ 10800000) (hn : ¬ (c = -10800000 ∧ d = 10800000)) :
    Calls Tryz.prog 260 #[.agg #[.int .i64 0, .int .i64 0, .int .i64 0, .int .i64 0], .agg #[.int .i64 a, .int .i64 b, .int .i64 c, .int .i64 d]] w fun e w' => e = .returned (.tuple #[.agg #[.int .i64 0, .int .i64 0, .int .i64 0, .int .i64 0], .int .i64 0]) ∧ Below w.heap.size w w' := by
  have V1 := hidden fun w => pvalid_ok 0 0 0 0 w (by omega) (by omega) (by omega) (by omega) (by omega) (by omega) (by omega) (by omega)
  have V2 := hidden fun w => pvalid_ok a b c d w hn (by omega) (by omega) (by omega) (by omega) (by omega) (by omega) (by omega)
  have C := hidden fun w => com_yes c d w h0 hc h1 h2 hn
  have R := hidden fun g cap w => around_one g cap w
  have m1 : max 0 a = 0 := by omega
  have m2 : min 0 b = 0 := by omega
  have M1 := hidden m1
  have M2 := hidden m2
  have k1 : ¬ 0 < a := by omega
  have k2 : ¬ b < 0 := by omega
  clear hn m1 m2
  go_enter Tryz.func260, Tryz.ntmps260
  go_upto_region 4 with (((first | (go_at_call 111; ((with_reducible refine (V1.out _).mono ?_); rintro e w' ⟨rfl, hb⟩); have nm0 := trivial) | (go_at_call 111; ((with_reducible refine (V2.out _).mono ?_); rintro e w' ⟨rfl, hb⟩); have nm1 := trivial)); (try replace hb := below_undrew hb); (try replace hb := below_undrewN hb); obtain ⟨hcell, hfroz⟩ := bcell hb; have hz := hb.size; (try simp at hz); (try (have z9 := Nat.lt_of_lt_of_le (Nat.lt_succ_self _) hz)); (try (have z0 : w.heap.size < w'.heap.size := by omega)); (try (have z1 : w.heap.size + 1 < w'.heap.size := by omega)); (try (have z2 : w.heap.size + 1 + 1 < w'.heap.size := by omega)); (try (have z3 : w.heap.size + 1 + 1 + 1 < w'.heap.size := by omega)); (first | (clear nm0; obtain ⟨w1, rfl⟩ : ∃ v, v = w' := ⟨_, rfl⟩) | (clear nm1; obtain ⟨w2, rfl⟩ : ∃ v, v = w' := ⟨_, rfl⟩))))
  go_wp2_with (go_at_call 300; ((with_reducible refine (C.out _).mono ?_); rintro e w' ⟨v, rfl, ⟨g, cap, rfl, hg, cg0, cg1⟩, hb⟩); (try replace hb := below_undrew hb); (try replace hb := below_undrewN hb); obtain ⟨hcell, hfroz⟩ := bcell hb; have hz := hb.size; (try simp at hz); (try (have z9 := Nat.lt_of_lt_of_le (Nat.lt_succ_self _) hz)); (try (have z0 : w.heap.size < w'.heap.size := by omega)); (try (have z1 : w.heap.size + 1 < w'.heap.size := by omega)); (try (have z2 : w.heap.size + 1 + 1 < w'.heap.size := by omega)); (try (have z3 : w.heap.size + 1 + 1 + 1 < w'.heap.size := by omega)); (try (have y1 : w1.heap.size < w'.heap.size := by omega)); (try (have y2 : w2.heap.size < w'.heap.size := by omega)); (try (have x1 : w1.heap.size + 1 < w'.heap.size := by omega)); (try (have x2 : w2.heap.size + 1 < w'.heap.size := by omega)); (try (have z10 : w1.heap.size < w'.heap.size + 1 := by omega)); (try (have z20 : w2.heap.size < w'.heap.size + 1 := by omega)); obtain ⟨w3, rfl⟩ : ∃ v, v = w' := ⟨_, rfl⟩)
  (refine name_code ?_; intro w' hb; (try replace hb := below_undrew hb); (try replace hb := below_undrewN hb); obtain ⟨hcell, hfroz⟩ := bcell hb; have hz := hb.size; (try simp at hz); (try (have z9 := Nat.lt_of_lt_of_le (Nat.lt_succ_self _) hz)); (try (have z0 : w.heap.size < w'.heap.size := by omega)); (try (have z1 : w.heap.size + 1 < w'.heap.size := by omega)); (try (have z2 : w.heap.size + 1 + 1 < w'.heap.size := by omega)); (try (have z3 : w.heap.size + 1 + 1 + 1 < w'.heap.size := by omega)); (try (have y1 : w1.heap.size < w'.heap.size := by omega)); (try (have y2 : w2.heap.size < w'.heap.size := by omega)); (try (have y3 : w3.heap.size < w'.heap.size := by omega)); (try (have x1 : w1.heap.size + 1 < w'.heap.size := by omega)); (try (have x2 : w2.heap.size + 1 < w'.heap.size := by omega)); (try (have x3 : w3.heap.size + 1 < w'.heap.size := by omega)); (try (have z10 : w1.heap.size < w'.heap.size + 1 := by omega)); (try (have z20 : w2.heap.size < w'.heap.size + 1 := by omega)); (try (have z30 : w3.heap.size < w'.heap.size + 1 := by omega)))
  have p0 : w'.cell? ⟨w2.heap.size, 0, none⟩ = some (.int .i64 0) := by simp [go_sem, *]
  have p1 : w'.cell? ⟨w2.heap.size, 1, none⟩ = some (.int .i64 0) := by simp [go_sem, *]
  have r0 : w'.cell? ⟨w.heap.size + 1 + 1, 0, none⟩ = some (.int .i64 0) := by simp [go_sem, *]
  have r1 : w'.cell? ⟨w.heap.size + 1 + 1, 1, none⟩ = some (.int .i64 0) := by simp [go_sem, *]
  have r2 : w'.cell? ⟨w.heap.size + 1 + 1, 2, none⟩ = some (.int .i64 0) := by simp [go_sem, *]
  have r3 : w'.cell? ⟨w.heap.size + 1 + 1, 3, none⟩ = some (.int .i64 0) := by simp [go_sem, *]
  have rf : ∀ o, w'.frozen? ⟨w.heap.size + 1 + 1, o, none⟩ = false := by intro o; simp [go_sem, *]
  have q0 : w'.cell? ⟨g, 0, none⟩ = some (.int .i64 0) := cell_later hb cg0
  have q1 : w'.cell? ⟨g, 1, none⟩ = some (.int .i64 0) := cell_later hb cg1
  have hw0 : Below w.heap.size w w' := by (repeat (first | (with_reducible exact Below.refl _ _) | (with_reducible refine Below.setCell ?_ (by (first | (simp; done) | (simp; omega) | omega)) _) | (with_reducible refine bl_alloc ?_ _) | (with_reducible refine bl_drewN ?_) | (with_reducible refine bl_drew ?_) | (with_reducible refine bl_step (by assumption) ?_)))
  have hzg : w.heap.size + 1 + 1 < w2.heap.size := by omega
  clear hcell hfroz hz hb cg0 cg1
  obtain ⟨V0, rfl⟩ : ∃ v, v = w' := ⟨_, rfl⟩
  have g3 : w.heap.size + 1 + 1 < V0.heap.size := World.block_lt_of_cell? _ _ r0
  have g4 : w2.heap.size < V0.heap.size := World.block_lt_of_cell? _ _ p0
  refine wp_region_quiet_tail 4 (by kernel_rfl) (by kernel_rfl) ?_
  simp only [List.take_succ_cons, List.take_zero, List.drop_succ_cons, List.drop_zero]
  repeat (first | go_big_quiet_step ((go_at_call 301; (with_reducible exact Calls.regrown_of (R.out _ _ _ (cell_rd q0) (cell_rd q1))))) | quiet_step ((go_at_call 301; (with_reducible exact Calls.regrown_of (R.out _ _ _ (cell_rd q0) (cell_rd q1))))))
  refine wpQuiet_nil ?_; intro w' hw'; have hb := below_of_regrown hw'; clear hw'; (try replace hb := below_undrew hb); (try replace hb := below_undrewN hb); obtain ⟨hcell, hfroz⟩ := bcell hb; have hz := hb.size; (try simp at hz); (try (have z9 := Nat.lt_of_lt_of_le (Nat.lt_succ_self _) hz)); (try (have z0 : w.heap.size < w'.heap.size := by omega)); (try (have z1 : w.heap.size + 1 < w'.heap.size := by omega)); (try (have z2 : w.heap.size + 1 + 1 < w'.heap.size := by omega)); (try (have z3 : w.heap.size + 1 + 1 + 1 < w'.heap.size := by omega)); (try (have y1 : w1.heap.size < w'.heap.size := by omega)); (try (have y2 : w2.heap.size < w'.heap.size := by omega)); (try (have y3 : w3.heap.size < w'.heap.size := by omega)); (try (have x1 : w1.heap.size + 1 < w'.heap.size := by omega)); (try (have x2 : w2.heap.size + 1 < w'.heap.size := by omega)); (try (have x3 : w3.heap.size + 1 < w'.heap.size := by omega)); (try (have z10 : w1.heap.size < w'.heap.size + 1 := by omega)); (try (have z20 : w2.heap.size < w'.heap.size + 1 := by omega)); (try (have z30 : w3.heap.size < w'.heap.size + 1 := by omega))
  go_wp2
  exact bodyPost_ret (v := .tuple #[.agg #[.int .i64 0, .int .i64 0, .int .i64 0, .int .i64 0], .int .i64 0]) (by first | (simp only [results, Tryz.results260]; go_simp; done) | simp [results, Tryz.results260, go_sem, *]) rfl ⟨rfl, by (repeat (first | (with_reducible exact Below.refl _ _) | (with_reducible refine Below.setCell ?_ (by (first | (simp; done) | (simp; omega) | omega)) _) | (with_reducible refine bl_alloc ?_ _) | (with_reducible refine bl_drewN ?_) | (with_reducible refine bl_drew ?_) | (with_reducible refine bl_step (by assumption) ?_)))⟩
set_option maxRecDepth 100000 in
set_option maxHeartbeats 4000000 in
theorem meet_lat (a b c d : Int) (w : World) (l0 : a ≤ b) (l1 : -5400000 ≤ a) (l4 : b ≤ 5400000) (hl : 0 < a ∨ b < 0) (h0 : -10800000 ≤ c) (hc : c ≤ d) (h3 : c < 10800000) (h2 : d ≤ 10800000) (hn : ¬ (c = -10800000 ∧ d = 10800000))
    (C : Hid (∀ w, Calls Tryz.prog 300 #[.agg #[.int .i64 0, .int .i64 0], .agg #[.int .i64 c, .int .i64 d]] w fun e w' => ∃ v, e = .returned v ∧ (ComV v w w' ∨ v = .slice none 0 0) ∧ Below w.heap.size w w')) :
    Calls Tryz.prog 260 #[.agg #[.int .i64 0, .int .i64 0, .int .i64 0, .int .i64 0], .agg #[.int .i64 a, .int .i64 b, .int .i64 c, .int .i64 d]] w fun e w' => e = .returned (.tuple #[.agg #[.int .i64 0, .int .i64 0, .int .i64 0, .int .i64 0], .int .i64 23]) ∧ Below w.heap.size w w' := by
  have V1 := hidden fun w => pvalid_ok 0 0 0 0 w (by omega) (by omega) (by omega) (by omega) (by omega) (by omega) (by omega) (by omega)
  have V2 := hidden fun w => pvalid_ok a b c d w hn (by omega) (by omega) (by omega) (by omega) (by omega) (by omega) (by omega)
  clear hn
  rcases hl with hl | hl
  · have k2 : ¬ b < 0 := by omega
    go_enter Tryz.func260, Tryz.ntmps260
    go_upto_region 4 with (((first | (go_at_call 111; ((with_reducible refine (V1.out _).mono ?_); rintro e w' ⟨rfl, hb⟩); have nm0 := trivial) | (go_at_call 111; ((with_reducible refine (V2.out _).mono ?_); rintro e w' ⟨rfl, hb⟩); have nm1 := trivial)); (try replace hb := below_undrew hb); (try replace hb := below_undrewN hb); obtain ⟨hcell, hfroz⟩ := bcell hb; have hz := hb.size; (try simp at hz); (try (have z9 := Nat.lt_of_lt_of_le (Nat.lt_succ_self _) hz)); (try (have z0 : w.heap.size < w'.heap.size := by omega)); (try (have z1 : w.heap.size + 1 < w'.heap.size := by omega)); (try (have z2 : w.heap.size + 1 + 1 < w'.heap.size := by omega)); (try (have z3 : w.heap.size + 1 + 1 + 1 < w'.heap.size := by omega)); (first | (clear nm0; obtain ⟨w1, rfl⟩ : ∃ v, v = w' := ⟨_, rfl⟩) | (clear nm1; obtain ⟨w2, rfl⟩ : ∃ v, v = w' := ⟨_, rfl⟩))))
    go_wp2_with (go_at_call 300; ((with_reducible refine (C.out _).mono ?_); rintro e w' ⟨v, rfl, _, hb⟩); (try replace hb := below_undrew hb); (try replace hb := below_undrewN hb); obtain ⟨hcell, hfroz⟩ := bcell hb; have hz := hb.size; (try simp at hz); (try (have z9 := Nat.lt_of_lt_of_le (Nat.lt_succ_self _) hz)); (try (have z0 : w.heap.size < w'.heap.size := by omega)); (try (have z1 : w.heap.size + 1 < w'.heap.size := by omega)); (try (have z2 : w.heap.size + 1 + 1 < w'.heap.size := by omega)); (try (have z3 : w.heap.size + 1 + 1 + 1 < w'.heap.size := by omega)); (try (have y1 : w1.heap.size < w'.heap.size := by omega)); (try (have y2 : w2.heap.size < w'.heap.size := by omega)); (try (have x1 : w1.heap.size + 1 < w'.heap.size := by omega)); (try (have x2 : w2.heap.size + 1 < w'.heap.size := by omega)); (try (have z10 : w1.heap.size < w'.heap.size + 1 := by omega)); (try (have z20 : w2.heap.size < w'.heap.size + 1 := by omega)); obtain ⟨w3, rfl⟩ : ∃ v, v = w' := ⟨_, rfl⟩)
    exact bodyPost_ret (v := .tuple #[.agg #[.int .i64 0, .int .i64 0, .int .i64 0, .int .i64 0], .int .i64 23]) (by first | (simp only [results, Tryz.results260]; go_simp; done) | simp [results, Tryz.results260, go_sem, *]) rfl ⟨rfl, by (repeat (first | (with_reducible exact Below.refl _ _) | (with_reducible refine Below.setCell ?_ (by (first | (simp; done) | (simp; omega) | omega)) _) | (with_reducible refine bl_alloc ?_ _) | (with_reducible refine bl_drewN ?_) | (with_reducible refine bl_drew ?_) | (with_reducible refine bl_step (by assumption) ?_)))⟩
  · have k1 : ¬ 0 < a := by omega
    go_enter Tryz.func260, Tryz.ntmps260
    go_upto_region 4 with (((first | (go_at_call 111; ((with_reducible refine (V1.out _).mono ?_); rintro e w' ⟨rfl, hb⟩); have nm0 := trivial) | (go_at_call 111; ((with_reducible refine (V2.out _).mono ?_); rintro e w' ⟨rfl, hb⟩); have nm1 := trivial)); (try replace hb := below_undrew hb); (try replace hb := below_undrewN hb); obtain ⟨hcell, hfroz⟩ := bcell hb; have hz := hb.size; (try simp at hz); (try (have z9 := Nat.lt_of_lt_of_le (Nat.lt_succ_self _) hz)); (try (have z0 : w.heap.size < w'.heap.size := by omega)); (try (have z1 : w.heap.size + 1 < w'.heap.size := by omega)); (try (have z2 : w.heap.size + 1 + 1 < w'.heap.size := by omega)); (try (have z3 : w.heap.size + 1 + 1 + 1 < w'.heap.size := by omega)); (first | (clear nm0; obtain ⟨w1, rfl⟩ : ∃ v, v = w' := ⟨_, rfl⟩) | (clear nm1; obtain ⟨w2, rfl⟩ : ∃ v, v = w' := ⟨_, rfl⟩))))
    go_wp2_with (go_at_call 300; ((with_reducible refine (C.out _).mono ?_); rintro e w' ⟨v, rfl, _, hb⟩); (try replace hb := below_undrew hb); (try replace hb := below_undrewN hb); obtain ⟨hcell, hfroz⟩ := bcell hb; have hz := hb.size; (try simp at hz); (try (have z9 := Nat.lt_of_lt_of_le (Nat.lt_succ_self _) hz)); (try (have z0 : w.heap.size < w'.heap.size := by omega)); (try (have z1 : w.heap.size + 1 < w'.heap.size := by omega)); (try (have z2 : w.heap.size + 1 + 1 < w'.heap.size := by omega)); (try (have z3 : w.heap.size + 1 + 1 + 1 < w'.heap.size := by omega)); (try (have y1 : w1.heap.size < w'.heap.size := by omega)); (try (have y2 : w2.heap.size < w'.heap.size := by omega)); (try (have x1 : w1.heap.size + 1 < w'.heap.size := by omega)); (try (have x2 : w2.heap.size + 1 < w'.heap.size := by omega)); (try (have z10 : w1.heap.size < w'.heap.size + 1 := by omega)); (try (have z20 : w2.heap.size < w'.heap.size + 1 := by omega)); obtain ⟨w3, rfl⟩ : ∃ v, v = w' := ⟨_, rfl⟩)
    exact bodyPost_ret (v := .tuple #[.agg #[.int .i64 0, .int .i64 0, .int .i64 0, .int .i64 0], .int .i64 23]) (by first | (simp only [results, Tryz.results260]; go_simp; done) | simp [results, Tryz.results260, go_sem, *]) rfl ⟨rfl, by (repeat (first | (with_reducible exact Below.refl _ _) | (with_reducible refine Below.setCell ?_ (by (first | (simp; done) | (simp; omega) | omega)) _) | (with_reducible refine bl_alloc ?_ _) | (with_reducible refine bl_drewN ?_) | (with_reducible refine bl_drew ?_) | (with_reducible refine bl_step (by assumption) ?_)))⟩
set_option maxRecDepth 100000 in
set_option maxHeartbeats 4000000 in
theorem meet_lon (a b c d : Int) (w : World) (l1 : -5400000 ≤ a) (l2 : a ≤ 0) (l3 : 0 ≤ b) (l4 : b ≤ 5400000) (h0 : -10800000 ≤ c) (hc : c ≤ d) (h3 : c < 10800000) (h2 : d ≤ 10800000) (hl : 0 < c ∨ d < 0) :
    Calls Tryz.prog 260 #[.agg #[.int .i64 0, .int .i64 0, .int .i64 0, .int .i64 0], .agg #[.int .i64 a, .int .i64 b, .int .i64 c, .int .i64 d]] w fun e w' => e = .returned (.tuple #[.agg #[.int .i64 0, .int .i64 0, .int .i64 0, .int .i64 0], .int .i64 23]) ∧ Below w.heap.size w w' := by
  have V1 := hidden fun w => pvalid_ok 0 0 0 0 w (by omega) (by omega) (by omega) (by omega) (by omega) (by omega) (by omega) (by omega)
  have V2 := hidden fun w => pvalid_ok a b c d w (by omega) (by omega) (by omega) (by omega) (by omega) (by omega) (by omega) (by omega)
  have C := hidden fun w => com_none c d _ w h0 hc h2 (by omega) rfl
  have k1 : ¬ 0 < a := by omega
  have k2 : ¬ b < 0 := by omega
  clear hl
  go_enter Tryz.func260, Tryz.ntmps260
  go_upto_region 4 with (((first | (go_at_call 111; ((with_reducible refine (V1.out _).mono ?_); rintro e w' ⟨rfl, hb⟩); have nm0 := trivial) | (go_at_call 111; ((with_reducible refine (V2.out _).mono ?_); rintro e w' ⟨rfl, hb⟩); have nm1 := trivial)); (try replace hb := below_undrew hb); (try replace hb := below_undrewN hb); obtain ⟨hcell, hfroz⟩ := bcell hb; have hz := hb.size; (try simp at hz); (try (have z9 := Nat.lt_of_lt_of_le (Nat.lt_succ_self _) hz)); (try (have z0 : w.heap.size < w'.heap.size := by omega)); (try (have z1 : w.heap.size + 1 < w'.heap.size := by omega)); (try (have z2 : w.heap.size + 1 + 1 < w'.heap.size := by omega)); (try (have z3 : w.heap.size + 1 + 1 + 1 < w'.heap.size := by omega)); (first | (clear nm0; obtain ⟨w1, rfl⟩ : ∃ v, v = w' := ⟨_, rfl⟩) | (clear nm1; obtain ⟨w2, rfl⟩ : ∃ v, v = w' := ⟨_, rfl⟩))))
  go_wp2_with (go_at_call 300; ((with_reducible refine (C.out _).mono ?_); rintro e w' ⟨rfl, hb⟩); (try replace hb := below_undrew hb); (try replace hb := below_undrewN hb); obtain ⟨hcell, hfroz⟩ := bcell hb; have hz := hb.size; (try simp at hz); (try (have z9 := Nat.lt_of_lt_of_le (Nat.lt_succ_self _) hz)); (try (have z0 : w.heap.size < w'.heap.size := by omega)); (try (have z1 : w.heap.size + 1 < w'.heap.size := by omega)); (try (have z2 : w.heap.size + 1 + 1 < w'.heap.size := by omega)); (try (have z3 : w.heap.size + 1 + 1 + 1 < w'.heap.size := by omega)); (try (have y1 : w1.heap.size < w'.heap.size := by omega)); (try (have y2 : w2.heap.size < w'.heap.size := by omega)); (try (have x1 : w1.heap.size + 1 < w'.heap.size := by omega)); (try (have x2 : w2.heap.size + 1 < w'.heap.size := by omega)); (try (have z10 : w1.heap.size < w'.heap.size + 1 := by omega)); (try (have z20 : w2.heap.size < w'.heap.size + 1 := by omega)); obtain ⟨w3, rfl⟩ : ∃ v, v = w' := ⟨_, rfl⟩)
  exact bodyPost_ret (v := .tuple #[.agg #[.int .i64 0, .int .i64 0, .int .i64 0, .int .i64 0], .int .i64 23]) (by first | (simp only [results, Tryz.results260]; go_simp; done) | simp [results, Tryz.results260, go_sem, *]) rfl ⟨rfl, by (repeat (first | (with_reducible exact Below.refl _ _) | (with_reducible refine Below.setCell ?_ (by (first | (simp; done) | (simp; omega) | omega)) _) | (with_reducible refine bl_alloc ?_ _) | (with_reducible refine bl_drewN ?_) | (with_reducible refine bl_drew ?_) | (with_reducible refine bl_step (by assumption) ?_)))⟩
theorem rmeets_of (a b c d x : Int) (B : Bool) (w : World) (hx : (x == 0) = B)
    (M : Hid (∀ w, Calls Tryz.prog 260 #[.agg #[.int .i64 0, .int .i64 0, .int .i64 0, .int .i64 0], .agg #[.int .i64 a, .int .i64 b, .int .i64 c, .int .i64 d]] w fun e w' => e = .returned (.tuple #[.agg #[.int .i64 0, .int .i64 0, .int .i64 0, .int .i64 0], .int .i64 x]) ∧ Below w.heap.size w w')) :
    Calls Tryz.prog 205 #[.agg #[.int .i64 0, .int .i64 0, .int .i64 0, .int .i64 0], .agg #[.int .i64 a, .int .i64 b, .int .i64 c, .int .i64 d]] w fun e w' => e = .returned (.bool B) ∧ Below w.heap.size w w' := by
  go_enter Tryz.func205, Tryz.ntmps205
  go_wp2_with (go_at_call 260; ((with_reducible refine (M.out _).mono ?_); rintro e w' ⟨rfl, hb⟩); (try replace hb := below_undrew hb); (try replace hb := below_undrewN hb); obtain ⟨hcell, hfroz⟩ := bcell hb; have hz := hb.size; (try simp at hz); (try (have z9 := Nat.lt_of_lt_of_le (Nat.lt_succ_self _) hz)); (try (have z0 : w.heap.size < w'.heap.size := by omega)); (try (have z1 : w.heap.size + 1 < w'.heap.size := by omega)); (try (have z2 : w.heap.size + 1 + 1 < w'.heap.size := by omega)); (try (have z3 : w.heap.size + 1 + 1 + 1 < w'.heap.size := by omega)); obtain ⟨w1, rfl⟩ : ∃ v, v = w' := ⟨_, rfl⟩)
  go_ret
  exact ⟨rfl, by (repeat (first | (with_reducible exact Below.refl _ _) | (with_reducible refine Below.setCell ?_ (by (first | (simp; done) | (simp; omega) | omega)) _) | (with_reducible refine bl_alloc ?_ _) | (with_reducible refine bl_drewN ?_) | (with_reducible refine bl_drew ?_) | (with_reducible refine bl_step (by assumption) ?_)))⟩
/-- whether the box of a cell has the point -/
def hasB (a b c d : Int) : Bool := decide (a ≤ 0) && decide (0 ≤ b) && (decide (c ≤ 0) && decide (0 ≤ d))
theorem rmeets_any (a b c d : Int) (w : World) (l0 : a ≤ b) (l1 : -5400000 ≤ a) (l4 : b ≤ 5400000) (h0 : -10800000 ≤ c) (hc : c ≤ d) (h3 : c < 10800000) (h2 : d ≤ 10800000) (hn : ¬ (c = -10800000 ∧ d = 10800000)) :
    Calls Tryz.prog 205 #[.agg #[.int .i64 0, .int .i64 0, .int .i64 0, .int .i64 0], .agg #[.int .i64 a, .int .i64 b, .int .i64 c, .int .i64 d]] w fun e w' => e = .returned (.bool (hasB a b c d)) ∧ Below w.heap.size w w' := by
  by_cases hl : a ≤ 0 ∧ 0 ≤ b
  · by_cases ho : c ≤ 0 ∧ 0 ≤ d
    · have e : hasB a b c d = true := by unfold hasB; simp; omega
      rw [e]
      exact rmeets_of a b c d 0 true w rfl (hidden fun w => meet_yes a b c d w l1 hl.1 hl.2 l4 h0 ho.1 ho.2 h2 hn)
    · have e : hasB a b c d = false := by unfold hasB; simp; omega
      rw [e]
      exact rmeets_of a b c d 23 false w rfl (hidden fun w => meet_lon a b c d w l1 hl.1 hl.2 l4 h0 hc h3 h2 (by omega))
  · have e : hasB a b c d = false := by unfold hasB; simp; omega
    rw [e]
    refine rmeets_of a b c d 23 false w rfl (hidden fun w => meet_lat a b c d w l0 l1 l4 (by omega) h0 hc h3 h2 hn (hidden fun w => ?_))
    by_cases ho : c ≤ 0 ∧ 0 ≤ d
    · refine (com_yes c d w h0 ho.1 ho.2 h2 hn).mono ?_
      rintro e w' ⟨v, he, hv, hb⟩
      exact ⟨v, he, .inl hv, hb⟩
    · refine (com_none c d _ w h0 hc h2 (by omega) rfl).mono ?_
      rintro e w' ⟨he, hb⟩
      exact ⟨_, he, .inr rfl, hb⟩
set_option maxHeartbeats 1000000 in
theorem inside_no (a b c d : Int) (w : World) (l0 : a < b) (l1 : -5400000 ≤ a) (l4 : b ≤ 5400000) (h0 : -10800000 ≤ c) (hc : c ≤ d) (h3 : c < 10800000) (h2 : d ≤ 10800000) (hn : ¬ (c = -10800000 ∧ d = 10800000)) :
    Calls Tryz.prog 206 #[.agg #[.int .i64 a, .int .i64 b, .int .i64 c, .int .i64 d], .agg #[.int .i64 0, .int .i64 0, .int .i64 0, .int .i64 0]] w fun e w' => e = .returned (.bool false) ∧ Below w.heap.size w w' := by
  have V1 := hidden fun w => pvalid_ok 0 0 0 0 w (by omega) (by omega) (by omega) (by omega) (by omega) (by omega) (by omega) (by omega)
  have V2 := hidden fun w => pvalid_ok a b c d w hn (by omega) (by omega) (by omega) (by omega) (by omega) (by omega) (by omega)
  clear hn
  by_cases ha : 0 ≤ a
  · have hb : decide (b ≤ 0) = false := by simp; omega
    go_enter Tryz.func206, Tryz.ntmps206
    go_wp2_with (((first | (go_at_call 111; ((with_reducible refine (V1.out _).mono ?_); rintro e w' ⟨rfl, hb⟩); have nm0 := trivial) | (go_at_call 111; ((with_reducible refine (V2.out _).mono ?_); rintro e w' ⟨rfl, hb⟩); have nm1 := trivial)); (try replace hb := below_undrew hb); (try replace hb := below_undrewN hb); obtain ⟨hcell, hfroz⟩ := bcell hb; have hz := hb.size; (try simp at hz); (try (have z9 := Nat.lt_of_lt_of_le (Nat.lt_succ_self _) hz)); (try (have z0 : w.heap.size < w'.heap.size := by omega)); (try (have z1 : w.heap.size + 1 < w'.heap.size := by omega)); (try (have z2 : w.heap.size + 1 + 1 < w'.heap.size := by omega)); (try (have z3 : w.heap.size + 1 + 1 + 1 < w'.heap.size := by omega)); (first | (clear nm0; obtain ⟨w1, rfl⟩ : ∃ v, v = w' := ⟨_, rfl⟩) | (clear nm1; obtain ⟨w2, rfl⟩ : ∃ v, v = w' := ⟨_, rfl⟩))))
    go_ret
    exact ⟨rfl, by (repeat (first | (with_reducible exact Below.refl _ _) | (with_reducible refine Below.setCell ?_ (by (first | (simp; done) | (simp; omega) | omega)) _) | (with_reducible refine bl_alloc ?_ _) | (with_reducible refine bl_drewN ?_) | (with_reducible refine bl_drew ?_) | (with_reducible refine bl_step (by assumption) ?_)))⟩
  · have hb : decide (0 ≤ a) = false := by simp; omega
    go_enter Tryz.func206, Tryz.ntmps206
    go_wp2_with (((first | (go_at_call 111; ((with_reducible refine (V1.out _).mono ?_); rintro e w' ⟨rfl, hb⟩); have nm0 := trivial) | (go_at_call 111; ((with_reducible refine (V2.out _).mono ?_); rintro e w' ⟨rfl, hb⟩); have nm1 := trivial)); (try replace hb := below_undrew hb); (try replace hb := below_undrewN hb); obtain ⟨hcell, hfroz⟩ := bcell hb; have hz := hb.size; (try simp at hz); (try (have z9 := Nat.lt_of_lt_of_le (Nat.lt_succ_self _) hz)); (try (have z0 : w.heap.size < w'.heap.size := by omega)); (try (have z1 : w.heap.size + 1 < w'.heap.size := by omega)); (try (have z2 : w.heap.size + 1 + 1 < w'.heap.size := by omega)); (try (have z3 : w.heap.size + 1 + 1 + 1 < w'.heap.size := by omega)); (first | (clear nm0; obtain ⟨w1, rfl⟩ : ∃ v, v = w' := ⟨_, rfl⟩) | (clear nm1; obtain ⟨w2, rfl⟩ : ∃ v, v = w' := ⟨_, rfl⟩))))
    go_ret
    exact ⟨rfl, by (repeat (first | (with_reducible exact Below.refl _ _) | (with_reducible refine Below.setCell ?_ (by (first | (simp; done) | (simp; omega) | omega)) _) | (with_reducible refine bl_alloc ?_ _) | (with_reducible refine bl_drewN ?_) | (with_reducible refine bl_drew ?_) | (with_reducible refine bl_step (by assumption) ?_)))⟩
end Go.Proofs.YtdhbeoahpfimbaaGreat
