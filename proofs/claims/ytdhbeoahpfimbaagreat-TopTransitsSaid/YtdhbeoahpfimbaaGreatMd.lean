/- Several small texts in one: XMid, XMid2. -/
import Derived.Test.YtdhbeoahpfimbaaGreatFixC
import Derived.Test.YtdhbeoahpfimbaaGreatTg
import Derived.Test.YtdhbeoahpfimbaaGreatAg
namespace Go.Proofs.YtdhbeoahpfimbaaGreat
open Go.RowKit
/-- the least arc of the products of an arc and an interval -/
def tmLo (a b f g : Int) : Int := min (cLo f g 1073741824 1073741824 a) (cLo f g 1073741824 1073741824 b)
def tmHi (a b f g : Int) : Int := max (cHi f g 1073741824 1073741824 a) (cHi f g 1073741824 1073741824 b)
theorem tm_le (g h f k : Int) : tmLo g h f k ≤ tmHi g h f k := by
  have e1 : cLo f k 1073741824 1073741824 g ≤ cHi f k 1073741824 1073741824 g := by
    unfold cLo cHi
    generalize f * g = X
    generalize k * g = Y
    omega
  unfold tmLo tmHi
  omega
theorem cb_bd {f k n N : Int} (f0 : -1073741824 ≤ f) (f1 : f ≤ 1073741824) (k0 : -1073741824 ≤ k) (k1 : k ≤ 1073741824) (n0 : 0 ≤ n) (n1 : n ≤ N) :
    -N ≤ cLo f k 1073741824 1073741824 n ∧ cHi f k 1073741824 1073741824 n ≤ N := by
  have a := Int.mul_le_mul_of_nonneg_right f0 n0
  have b := Int.mul_le_mul_of_nonneg_right f1 n0
  have c := Int.mul_le_mul_of_nonneg_right k0 n0
  have d := Int.mul_le_mul_of_nonneg_right k1 n0
  unfold cLo cHi
  generalize f * n = X at *
  generalize k * n = Y at *
  omega
theorem tm_bd {g h f k N : Int} (g0 : 0 ≤ g) (gh : g ≤ h) (h1 : h ≤ N) (f0 : -1073741824 ≤ f) (f1 : f ≤ 1073741824) (k0 : -1073741824 ≤ k) (k1 : k ≤ 1073741824) :
    -N ≤ tmLo g h f k ∧ tmHi g h f k ≤ N := by
  have a := cb_bd f0 f1 k0 k1 g0 (by omega : g ≤ N)
  have b := cb_bd f0 f1 k0 k1 (by omega : 0 ≤ h) h1
  unfold tmLo tmHi
  omega
set_option maxHeartbeats 1000000 in
theorem mvalid_any (a b g h : Int) (w : World) :
    Calls Tryz.prog 43 #[.agg #[.int .i64 a, .int .i64 b, .int .i64 g, .int .i64 h]] w fun e w' => e = .returned (.bool (arcB a b && arcB g h && decide (0 ≤ g))) ∧ Below w.heap.size w w' := by
  have V1 := hidden fun w => valid_any a b w
  have V2 := hidden fun w => valid_any g h w
  go_enter Tryz.func43, Tryz.ntmps43
  cases h1 : arcB a b
  · rw [h1] at V1
    go_wp2_with (((first | (go_at_call 45; ((with_reducible refine (V1.out _).mono ?_); rintro e w' ⟨rfl, hb⟩)) | (go_at_call 45; ((with_reducible refine (V2.out _).mono ?_); rintro e w' ⟨rfl, hb⟩))); (try replace hb := below_undrew hb); (try replace hb := below_undrewN hb); obtain ⟨hcell, hfroz⟩ := bcell hb; have hz := hb.size; (try simp at hz); (try (have z6 := Nat.lt_of_lt_of_le z7 hz)); (try (have z7 := Nat.lt_of_lt_of_le z8 hz)); (try (have z8 := Nat.lt_of_lt_of_le z9 hz)); (try (have z9 := Nat.lt_of_lt_of_le (Nat.lt_succ_self _) hz)); (try have z0 : w.heap.size < w'.heap.size := by omega); (try have z1 : w.heap.size + 1 < w'.heap.size := by omega); (try have z2 : w.heap.size + 1 + 1 < w'.heap.size := by omega); (try have z3 : w.heap.size + 1 + 1 + 1 < w'.heap.size := by omega)))
    all_goals go_ret
    all_goals exact ⟨by simp [*], by (repeat (first | exact Below.refl _ _ | refine bl_drewN ?_ | refine bl_drew ?_ | refine bl_alloc ?_ _ | refine Below.setCell ?_ (by (first | (simp; done) | (simp; omega) | omega)) _ | refine bl_step (by assumption) ?_))⟩
  · rw [h1] at V1
    cases h2 : arcB g h
    · rw [h2] at V2
      go_wp2_with (((first | (go_at_call 45; ((with_reducible refine (V1.out _).mono ?_); rintro e w' ⟨rfl, hb⟩)) | (go_at_call 45; ((with_reducible refine (V2.out _).mono ?_); rintro e w' ⟨rfl, hb⟩))); (try replace hb := below_undrew hb); (try replace hb := below_undrewN hb); obtain ⟨hcell, hfroz⟩ := bcell hb; have hz := hb.size; (try simp at hz); (try (have z6 := Nat.lt_of_lt_of_le z7 hz)); (try (have z7 := Nat.lt_of_lt_of_le z8 hz)); (try (have z8 := Nat.lt_of_lt_of_le z9 hz)); (try (have z9 := Nat.lt_of_lt_of_le (Nat.lt_succ_self _) hz)); (try have z0 : w.heap.size < w'.heap.size := by omega); (try have z1 : w.heap.size + 1 < w'.heap.size := by omega); (try have z2 : w.heap.size + 1 + 1 < w'.heap.size := by omega); (try have z3 : w.heap.size + 1 + 1 + 1 < w'.heap.size := by omega)))
      all_goals go_ret
      all_goals exact ⟨by simp [*], by (repeat (first | exact Below.refl _ _ | refine bl_drewN ?_ | refine bl_drew ?_ | refine bl_alloc ?_ _ | refine Below.setCell ?_ (by (first | (simp; done) | (simp; omega) | omega)) _ | refine bl_step (by assumption) ?_))⟩
    · rw [h2] at V2
      go_wp2_with (((first | (go_at_call 45; ((with_reducible refine (V1.out _).mono ?_); rintro e w' ⟨rfl, hb⟩)) | (go_at_call 45; ((with_reducible refine (V2.out _).mono ?_); rintro e w' ⟨rfl, hb⟩))); (try replace hb := below_undrew hb); (try replace hb := below_undrewN hb); obtain ⟨hcell, hfroz⟩ := bcell hb; have hz := hb.size; (try simp at hz); (try (have z6 := Nat.lt_of_lt_of_le z7 hz)); (try (have z7 := Nat.lt_of_lt_of_le z8 hz)); (try (have z8 := Nat.lt_of_lt_of_le z9 hz)); (try (have z9 := Nat.lt_of_lt_of_le (Nat.lt_succ_self _) hz)); (try have z0 : w.heap.size < w'.heap.size := by omega); (try have z1 : w.heap.size + 1 < w'.heap.size := by omega); (try have z2 : w.heap.size + 1 + 1 < w'.heap.size := by omega); (try have z3 : w.heap.size + 1 + 1 + 1 < w'.heap.size := by omega)))
      all_goals go_ret
      all_goals exact ⟨by simp [*], by (repeat (first | exact Below.refl _ _ | refine bl_drewN ?_ | refine bl_drew ?_ | refine bl_alloc ?_ _ | refine Below.setCell ?_ (by (first | (simp; done) | (simp; omega) | omega)) _ | refine bl_step (by assumption) ?_))⟩
theorem mprod1_any (a b n : Int) (B1 : Nat) (w : World) (h0 : w.cell? ⟨B1, 0, none⟩ = some (.int .i64 a)) (h1 : w.cell? ⟨B1, 1, none⟩ = some (.int .i64 b)) (hf : fixB a b = true) (hr : reachB n = true) :
    Calls Tryz.prog 219 #[.int .i64 n, .pointer (some ⟨B1, 0, none⟩)] w fun e w' => e = .returned (.tuple #[.int .i64 (cLo a b 1073741824 1073741824 n), .int .i64 (cHi a b 1073741824 1073741824 n), .int .i64 0]) ∧ Below w.heap.size w w' := by
  have S := hidden fun w => scale_any a b n w hf hr
  go_enter Tryz.func219, Tryz.ntmps219
  go_wp2_with (go_at_call 51; ((with_reducible refine (S.out _).mono ?_); rintro e w' ⟨rfl, hb⟩); (try replace hb := below_undrew hb); (try replace hb := below_undrewN hb); obtain ⟨hcell, hfroz⟩ := bcell hb; have hz := hb.size; (try simp at hz); (try (have z6 := Nat.lt_of_lt_of_le z7 hz)); (try (have z7 := Nat.lt_of_lt_of_le z8 hz)); (try (have z8 := Nat.lt_of_lt_of_le z9 hz)); (try (have z9 := Nat.lt_of_lt_of_le (Nat.lt_succ_self _) hz)); (try have z0 : w.heap.size < w'.heap.size := by omega); (try have z1 : w.heap.size + 1 < w'.heap.size := by omega); (try have z2 : w.heap.size + 1 + 1 < w'.heap.size := by omega); (try have z3 : w.heap.size + 1 + 1 + 1 < w'.heap.size := by omega))
  go_ret3
  exact ⟨rfl, by (repeat (first | exact Below.refl _ _ | refine bl_drewN ?_ | refine bl_drew ?_ | refine bl_alloc ?_ _ | refine Below.setCell ?_ (by (first | (simp; done) | (simp; omega) | omega)) _ | refine bl_step (by assumption) ?_))⟩
theorem once_cell {w : World} {B : Nat} (x y : Value) {x0 y0 : Value} (h0 : w.cell? ⟨B, 0, none⟩ = some x0) (h1 : w.cell? ⟨B, 1, none⟩ = some y0) :
    ((w.setCell ⟨B, 0, none⟩ x).setCell ⟨B, 1, none⟩ y).cell? ⟨B, 0, none⟩ = some x ∧ ((w.setCell ⟨B, 0, none⟩ x).setCell ⟨B, 1, none⟩ y).cell? ⟨B, 1, none⟩ = some y := by
  have a : (w.setCell ⟨B, 0, none⟩ x).cell? ⟨B, 0, none⟩ = some x := by simp [go_sem, *]
  have b : (w.setCell ⟨B, 0, none⟩ x).cell? ⟨B, 1, none⟩ = some y0 := by simp [go_sem, *]
  generalize w.setCell ⟨B, 0, none⟩ x = W at *
  exact ⟨by simp [go_sem, *], by simp [go_sem, *]⟩
theorem twice_cell {w : World} {B : Nat} (x y u v : Value) {x0 y0 : Value} (h0 : w.cell? ⟨B, 0, none⟩ = some x0) (h1 : w.cell? ⟨B, 1, none⟩ = some y0) :
    ((((w.setCell ⟨B, 0, none⟩ x).setCell ⟨B, 1, none⟩ y).setCell ⟨B, 0, none⟩ u).setCell ⟨B, 1, none⟩ v).cell? ⟨B, 0, none⟩ = some u ∧ ((((w.setCell ⟨B, 0, none⟩ x).setCell ⟨B, 1, none⟩ y).setCell ⟨B, 0, none⟩ u).setCell ⟨B, 1, none⟩ v).cell? ⟨B, 1, none⟩ = some v :=
  once_cell u v (once_cell x y h0 h1).1 (once_cell x y h0 h1).2
set_option maxRecDepth 100000 in
set_option maxHeartbeats 8000000 in
theorem mboth_walk (a b g h x y p q L H : Int) (B1 : Nat) (w : World) (h0 : w.cell? ⟨B1, 0, none⟩ = some (.int .i64 a)) (h1 : w.cell? ⟨B1, 1, none⟩ = some (.int .i64 b))
    (P : Hid (∀ w, w.cell? ⟨B1, 0, none⟩ = some (.int .i64 a) → w.cell? ⟨B1, 1, none⟩ = some (.int .i64 b) → Calls Tryz.prog 219 #[.int .i64 g, .pointer (some ⟨B1, 0, none⟩)] w fun e w' => e = .returned (.tuple #[.int .i64 x, .int .i64 y, .int .i64 0]) ∧ Below w.heap.size w w'))
    (Q : Hid (∀ w, w.cell? ⟨B1, 0, none⟩ = some (.int .i64 a) → w.cell? ⟨B1, 1, none⟩ = some (.int .i64 b) → Calls Tryz.prog 219 #[.int .i64 h, .pointer (some ⟨B1, 0, none⟩)] w fun e w' => e = .returned (.tuple #[.int .i64 p, .int .i64 q, .int .i64 0]) ∧ Below w.heap.size w w'))
    (hL : min x p = L) (hH : max y q = H) (V : Hid (∀ w, Calls Tryz.prog 45 #[.agg #[.int .i64 L, .int .i64 H]] w fun e w' => e = .returned (.bool true) ∧ Below w.heap.size w w')) :
    Calls Tryz.prog 196 #[.agg #[.int .i64 g, .int .i64 h], .func (.func 219) #[] #[.pointer (some ⟨B1, 0, none⟩)]] w fun e w' => e = .returned (.tuple #[.agg #[.int .i64 L, .int .i64 H], .int .i64 0]) ∧ Below w.heap.size w w' := by
  have hB1 : B1 < w.heap.size := World.block_lt_of_cell? _ _ h0
  have hB2 : B1 < w.heap.size + 1 := by omega
  have hB3 : B1 < w.heap.size + 1 + 1 := by omega
  have hB4 : B1 < w.heap.size + 1 + 1 + 1 := by omega
  have m1 : min (min x x) p = L := by omega
  have m2 : max (max y y) q = H := by omega
  go_enter Tryz.func196, Tryz.ntmps196
  have ix0 : ∀ w, (Instr.index 261 (.agg #[.int .i64 g, .int .i64 h]) (.int .i64 0)).run Tryz.prog w = .ok (.int .i64 g) w := fun w => by first | rfl | kernel_rfl
  have ix1 : ∀ w, (Instr.index 261 (.agg #[.int .i64 g, .int .i64 h]) (.int .i64 1)).run Tryz.prog w = .ok (.int .i64 h) w := fun w => by first | rfl | kernel_rfl
  go_wp2
  refine wp_loop_rounds 3 ?_
  rw [rounds_succ]
  go_wp2_with (go_at_call 219; ((with_reducible refine (P.out _ ?hc ?hd).mono ?_); (case hc => (simp [go_sem, *]; done)); (case hd => (simp [go_sem, *]; done)); rintro e w' ⟨rfl, hb⟩); (try replace hb := below_undrew hb); (try replace hb := below_undrewN hb); obtain ⟨hcell, hfroz⟩ := bcell hb; have hz := hb.size; (try simp at hz); (try (have z6 := Nat.lt_of_lt_of_le z7 hz)); (try (have z7 := Nat.lt_of_lt_of_le z8 hz)); (try (have z8 := Nat.lt_of_lt_of_le z9 hz)); (try (have z9 := Nat.lt_of_lt_of_le (Nat.lt_succ_self _) hz)); (try have z0 : w.heap.size < w'.heap.size := by omega); (try have z1 : w.heap.size + 1 < w'.heap.size := by omega); (try have z2 : w.heap.size + 1 + 1 < w'.heap.size := by omega); (try have z3 : w.heap.size + 1 + 1 + 1 < w'.heap.size := by omega); (try have hB1 : B1 < w'.heap.size := by omega); (try have hB3 : B1 < w'.heap.size + 1 := by omega); obtain ⟨w1, rfl⟩ : ∃ v, v = w' := ⟨_, rfl⟩)
  refine name_world (F := Code.rounds _ _ _ _ _) ?_
  intro w' hb
  (try replace hb := below_undrew hb); (try replace hb := below_undrewN hb); obtain ⟨hcell, hfroz⟩ := bcell hb; have hz := hb.size; (try simp at hz); (try (have z6 := Nat.lt_of_lt_of_le z7 hz)); (try (have z7 := Nat.lt_of_lt_of_le z8 hz)); (try (have z8 := Nat.lt_of_lt_of_le z9 hz)); (try (have z9 := Nat.lt_of_lt_of_le (Nat.lt_succ_self _) hz)); (try have z0 : w.heap.size < w'.heap.size := by omega); (try have z1 : w.heap.size + 1 < w'.heap.size := by omega); (try have z2 : w.heap.size + 1 + 1 < w'.heap.size := by omega); (try have z3 : w.heap.size + 1 + 1 + 1 < w'.heap.size := by omega); (try have y1 : w1.heap.size < w'.heap.size := by omega); (try have y2 : w2.heap.size < w'.heap.size := by omega); (try have y3 : w3.heap.size < w'.heap.size := by omega); (try have x1 : w1.heap.size + 1 < w'.heap.size := by omega); (try have x2 : w2.heap.size + 1 < w'.heap.size := by omega); (try have x3 : w3.heap.size + 1 < w'.heap.size := by omega); (try have hB1 : B1 < w'.heap.size := by omega); (try have hB3 : B1 < w'.heap.size + 1 := by omega)
  have e0 : w1.cell? ⟨w.heap.size + 1 + 1, 0, none⟩ = some (.int .i64 0) := by simp [go_sem, *]
  have e1 : w1.cell? ⟨w.heap.size + 1 + 1, 1, none⟩ = some (.int .i64 0) := by simp [go_sem, *]
  have tw := twice_cell (.int .i64 x) (.int .i64 y) (.int .i64 x) (.int .i64 y) e0 e1
  have gz : w.heap.size + 1 + 1 < w1.heap.size := World.block_lt_of_cell? _ _ e0
  have o0 : w'.cell? ⟨w.heap.size + 1 + 1, 0, none⟩ = some (.int .i64 x) := cell_later hb tw.1
  have o1 : w'.cell? ⟨w.heap.size + 1 + 1, 1, none⟩ = some (.int .i64 y) := cell_later hb tw.2
  have of : ∀ o, w'.frozen? ⟨w.heap.size + 1 + 1, o, none⟩ = false := by intro o; simp [go_sem, *]
  have p0 : w'.cell? ⟨w.heap.size, 0, none⟩ = some (.int .i64 g) := by simp [go_sem, *]
  have p1 : w'.cell? ⟨w.heap.size, 1, none⟩ = some (.int .i64 h) := by simp [go_sem, *]
  have r0 : w'.cell? ⟨w.heap.size + 1, 0, none⟩ = some (.int .i64 0) := by simp [go_sem, *]
  have r1 : w'.cell? ⟨w.heap.size + 1, 1, none⟩ = some (.int .i64 0) := by simp [go_sem, *]
  have rf : ∀ o, w'.frozen? ⟨w.heap.size + 1, o, none⟩ = false := by intro o; simp [go_sem, *]
  have hw0 : Below w.heap.size w w' := by (repeat (first | exact Below.refl _ _ | refine bl_drewN ?_ | refine bl_drew ?_ | refine bl_alloc ?_ _ | refine Below.setCell ?_ (by (first | (simp; done) | (simp; omega) | omega)) _ | refine bl_step (by assumption) ?_))
  have c0 : w'.cell? ⟨B1, 0, none⟩ = some (.int .i64 a) := cell_later hw0 h0
  have c1 : w'.cell? ⟨B1, 1, none⟩ = some (.int .i64 b) := cell_later hw0 h1
  clear hcell hfroz hz hb e0 e1 tw gz h0 h1
  obtain ⟨V0, rfl⟩ : ∃ v, v = w' := ⟨_, rfl⟩
  have g2 : w.heap.size + 1 + 1 < V0.heap.size := World.block_lt_of_cell? _ _ o0
  have g1 : w.heap.size + 1 < V0.heap.size := by omega
  have g0 : w.heap.size < V0.heap.size := by omega
  have hB1 : B1 < V0.heap.size := by omega
  rw [rounds_succ]
  go_wp2_with (go_at_call 219; ((with_reducible refine (Q.out _ ?hc ?hd).mono ?_); (case hc => (simp [go_sem, *]; done)); (case hd => (simp [go_sem, *]; done)); rintro e w' ⟨rfl, hb⟩); (try replace hb := below_undrew hb); (try replace hb := below_undrewN hb); obtain ⟨hcell, hfroz⟩ := bcell hb; have hz := hb.size; (try simp at hz); (try (have z6 := Nat.lt_of_lt_of_le z7 hz)); (try (have z7 := Nat.lt_of_lt_of_le z8 hz)); (try (have z8 := Nat.lt_of_lt_of_le z9 hz)); (try (have z9 := Nat.lt_of_lt_of_le (Nat.lt_succ_self _) hz)); (try have z0 : w.heap.size < w'.heap.size := by omega); (try have z1 : w.heap.size + 1 < w'.heap.size := by omega); (try have z2 : w.heap.size + 1 + 1 < w'.heap.size := by omega); (try have z3 : w.heap.size + 1 + 1 + 1 < w'.heap.size := by omega); (try have y1 : w1.heap.size < w'.heap.size := by omega); (try have x1 : w1.heap.size + 1 < w'.heap.size := by omega); (try have hB1 : B1 < w'.heap.size := by omega); (try have hB3 : B1 < w'.heap.size + 1 := by omega); obtain ⟨w2, rfl⟩ : ∃ v, v = w' := ⟨_, rfl⟩)
  refine name_world (F := Code.rounds _ _ _ _ _) ?_
  intro w' hb
  (try replace hb := below_undrew hb); (try replace hb := below_undrewN hb); obtain ⟨hcell, hfroz⟩ := bcell hb; have hz := hb.size; (try simp at hz); (try (have z6 := Nat.lt_of_lt_of_le z7 hz)); (try (have z7 := Nat.lt_of_lt_of_le z8 hz)); (try (have z8 := Nat.lt_of_lt_of_le z9 hz)); (try (have z9 := Nat.lt_of_lt_of_le (Nat.lt_succ_self _) hz)); (try have z0 : w.heap.size < w'.heap.size := by omega); (try have z1 : w.heap.size + 1 < w'.heap.size := by omega); (try have z2 : w.heap.size + 1 + 1 < w'.heap.size := by omega); (try have z3 : w.heap.size + 1 + 1 + 1 < w'.heap.size := by omega); (try have y1 : w1.heap.size < w'.heap.size := by omega); (try have y2 : w2.heap.size < w'.heap.size := by omega); (try have y3 : w3.heap.size < w'.heap.size := by omega); (try have x1 : w1.heap.size + 1 < w'.heap.size := by omega); (try have x2 : w2.heap.size + 1 < w'.heap.size := by omega); (try have x3 : w3.heap.size + 1 < w'.heap.size := by omega); (try have hB1 : B1 < w'.heap.size := by omega); (try have hB3 : B1 < w'.heap.size + 1 := by omega)
  have e0 : w2.cell? ⟨w.heap.size + 1 + 1, 0, none⟩ = some (.int .i64 x) := by simp [go_sem, *]
  have e1 : w2.cell? ⟨w.heap.size + 1 + 1, 1, none⟩ = some (.int .i64 y) := by simp [go_sem, *]
  have tw := once_cell (.int .i64 L) (.int .i64 H) e0 e1
  have k0 : w'.cell? ⟨w.heap.size + 1 + 1, 0, none⟩ = some (.int .i64 L) := cell_later hb tw.1
  have k1 : w'.cell? ⟨w.heap.size + 1 + 1, 1, none⟩ = some (.int .i64 H) := cell_later hb tw.2
  have s0 : w'.cell? ⟨w.heap.size + 1, 0, none⟩ = some (.int .i64 0) := by simp [go_sem, *]
  have s1 : w'.cell? ⟨w.heap.size + 1, 1, none⟩ = some (.int .i64 0) := by simp [go_sem, *]
  have sf : ∀ o, w'.frozen? ⟨w.heap.size + 1, o, none⟩ = false := by intro o; simp [go_sem, *]
  have hw1 : Below w.heap.size w w' := by (repeat (first | exact Below.refl _ _ | refine bl_drewN ?_ | refine bl_drew ?_ | refine bl_alloc ?_ _ | refine Below.setCell ?_ (by (first | (simp; done) | (simp; omega) | omega)) _ | refine bl_step (by assumption) ?_))
  clear hcell hfroz hz hb e0 e1 tw c0 c1 o0 o1 r0 r1 p0 p1 hw0
  obtain ⟨V1, rfl⟩ : ∃ v, v = w' := ⟨_, rfl⟩
  have g2 : w.heap.size + 1 + 1 < V1.heap.size := World.block_lt_of_cell? _ _ k0
  have g1 : w.heap.size + 1 < V1.heap.size := by omega
  have g0 : w.heap.size < V1.heap.size := by omega
  rw [rounds_succ]
  go_wp2_with (go_at_call 45; ((with_reducible refine (V.out _).mono ?_); rintro e w' ⟨rfl, hb⟩); (try replace hb := below_undrew hb); (try replace hb := below_undrewN hb); obtain ⟨hcell, hfroz⟩ := bcell hb; have hz := hb.size; (try simp at hz); (try (have z6 := Nat.lt_of_lt_of_le z7 hz)); (try (have z7 := Nat.lt_of_lt_of_le z8 hz)); (try (have z8 := Nat.lt_of_lt_of_le z9 hz)); (try (have z9 := Nat.lt_of_lt_of_le (Nat.lt_succ_self _) hz)); (try have z0 : w.heap.size < w'.heap.size := by omega); (try have z1 : w.heap.size + 1 < w'.heap.size := by omega); (try have z2 : w.heap.size + 1 + 1 < w'.heap.size := by omega); (try have z3 : w.heap.size + 1 + 1 + 1 < w'.heap.size := by omega); (try have y1 : w1.heap.size < w'.heap.size := by omega); (try have y2 : w2.heap.size < w'.heap.size := by omega); (try have x1 : w1.heap.size + 1 < w'.heap.size := by omega); (try have x2 : w2.heap.size + 1 < w'.heap.size := by omega); (try have hB1 : B1 < w'.heap.size := by omega); (try have hB3 : B1 < w'.heap.size + 1 := by omega); obtain ⟨w3, rfl⟩ : ∃ v, v = w' := ⟨_, rfl⟩)
  exact bodyPost_ret (v := .tuple #[.agg #[.int .i64 L, .int .i64 H], .int .i64 0]) (by first | (simp only [results, Tryz.results196]; go_simp; done) | simp [results, Tryz.results196, go_sem, *]) rfl ⟨rfl, by (repeat (first | (with_reducible exact Below.refl _ _) | (with_reducible refine Below.setCell ?_ (by (first | (simp; done) | (simp; omega) | omega)) _) | (with_reducible refine bl_alloc ?_ _) | (with_reducible refine bl_drewN ?_) | (with_reducible refine bl_drew ?_) | (with_reducible refine bl_step (by assumption) ?_)))⟩
theorem mprod_any (a b g h N : Int) (w : World) (hf : fixB a b = true) (b0 : -1073741824 ≤ a) (b1 : b ≤ 1073741824) (g0 : 0 ≤ g) (gh : g ≤ h) (hN : h ≤ N) (N1 : N ≤ 1099511627776) :
    Calls Tryz.prog 126 #[.agg #[.int .i64 a, .int .i64 b], .agg #[.int .i64 g, .int .i64 h]] w fun e w' => e = .returned (.tuple #[.agg #[.int .i64 (tmLo g h a b), .int .i64 (tmHi g h a b)], .int .i64 0]) ∧ Below w.heap.size w w' := by
  have ab := (fixB_t hf).2.1
  have bd := tm_bd g0 gh hN b0 (by omega : a ≤ 1073741824) (by omega : -1073741824 ≤ b) b1
  have le := tm_le g h a b
  have V := hidden fun w => (by have := valid_any (tmLo g h a b) (tmHi g h a b) w; rw [arcB_mk (by omega)] at this; exact this : Calls Tryz.prog 45 #[.agg #[.int .i64 (tmLo g h a b), .int .i64 (tmHi g h a b)]] w fun e w' => e = .returned (.bool true) ∧ Below w.heap.size w w')
  have B : Hid (∀ B1 w, w.cell? ⟨B1, 0, none⟩ = some (.int .i64 a) → w.cell? ⟨B1, 1, none⟩ = some (.int .i64 b) → Calls Tryz.prog 196 #[.agg #[.int .i64 g, .int .i64 h], .func (.func 219) #[] #[.pointer (some ⟨B1, 0, none⟩)]] w fun e w' => e = .returned (.tuple #[.agg #[.int .i64 (tmLo g h a b), .int .i64 (tmHi g h a b)], .int .i64 0]) ∧ Below w.heap.size w w') := hidden fun B1 w h0 h1 => mboth_walk a b g h _ _ _ _ _ _ B1 w h0 h1 (hidden fun w h0 h1 => mprod1_any a b g B1 w h0 h1 hf (reachB_mk (by omega))) (hidden fun w h0 h1 => mprod1_any a b h B1 w h0 h1 hf (reachB_mk (by omega))) rfl rfl V
  generalize tmLo g h a b = L at *
  generalize tmHi g h a b = H at *
  go_enter Tryz.func126, Tryz.ntmps126
  go_wp2_with (go_at_call 196; ((refine (B.out _ _ ?hc ?hd).mono ?_); (case hc => (simp [go_sem, *]; done)); (case hd => (simp [go_sem, *]; done)); rintro e w' ⟨rfl, hb⟩); (try replace hb := below_undrew hb); (try replace hb := below_undrewN hb); obtain ⟨hcell, hfroz⟩ := bcell hb; have hz := hb.size; (try simp at hz); (try (have z6 := Nat.lt_of_lt_of_le z7 hz)); (try (have z7 := Nat.lt_of_lt_of_le z8 hz)); (try (have z8 := Nat.lt_of_lt_of_le z9 hz)); (try (have z9 := Nat.lt_of_lt_of_le (Nat.lt_succ_self _) hz)); (try have z0 : w.heap.size < w'.heap.size := by omega); (try have z1 : w.heap.size + 1 < w'.heap.size := by omega); (try have z2 : w.heap.size + 1 + 1 < w'.heap.size := by omega); (try have z3 : w.heap.size + 1 + 1 + 1 < w'.heap.size := by omega); obtain ⟨w1, rfl⟩ : ∃ v, v = w' := ⟨_, rfl⟩)
  exact bodyPost_ret (v := .tuple #[.agg #[.int .i64 L, .int .i64 H], .int .i64 0]) (by first | (simp only [results, Tryz.results126]; go_simp; done) | simp [results, Tryz.results126, go_sem, *]) rfl ⟨rfl, by (repeat (first | (with_reducible exact Below.refl _ _) | (with_reducible refine Below.setCell ?_ (by (first | (simp; done) | (simp; omega) | omega)) _) | (with_reducible refine bl_alloc ?_ _) | (with_reducible refine bl_drewN ?_) | (with_reducible refine bl_drew ?_) | (with_reducible refine bl_step (by assumption) ?_)))⟩
set_option maxRecDepth 100000 in
set_option maxHeartbeats 8000000 in
theorem plane_walk (a b g h x y u v L1 H1 L2 H2 : Int) (w : World)
    (VL : Hid (∀ w, Calls Tryz.prog 43 #[.agg #[.int .i64 a, .int .i64 b, .int .i64 g, .int .i64 h]] w fun e w' => e = .returned (.bool true) ∧ Below w.heap.size w w'))
    (C : Hid (∀ w, Calls Tryz.prog 124 #[.agg #[.int .i64 a, .int .i64 b]] w fun e w' => e = .returned (.tuple #[.agg #[.int .i64 x, .int .i64 y], .int .i64 0]) ∧ Below w.heap.size w w'))
    (S : Hid (∀ w, Calls Tryz.prog 125 #[.agg #[.int .i64 a, .int .i64 b]] w fun e w' => e = .returned (.tuple #[.agg #[.int .i64 u, .int .i64 v], .int .i64 0]) ∧ Below w.heap.size w w'))
    (P : Hid (∀ w, Calls Tryz.prog 126 #[.agg #[.int .i64 x, .int .i64 y], .agg #[.int .i64 g, .int .i64 h]] w fun e w' => e = .returned (.tuple #[.agg #[.int .i64 L1, .int .i64 H1], .int .i64 0]) ∧ Below w.heap.size w w'))
    (Q : Hid (∀ w, Calls Tryz.prog 126 #[.agg #[.int .i64 u, .int .i64 v], .agg #[.int .i64 g, .int .i64 h]] w fun e w' => e = .returned (.tuple #[.agg #[.int .i64 L2, .int .i64 H2], .int .i64 0]) ∧ Below w.heap.size w w')) :
    Calls Tryz.prog 44 #[.agg #[.int .i64 a, .int .i64 b, .int .i64 g, .int .i64 h]] w fun e w' => e = .returned (.tuple #[.agg #[.int .i64 L1, .int .i64 H1], .agg #[.int .i64 L2, .int .i64 H2], .int .i64 0]) ∧ Below w.heap.size w w' := by
  have ix0 : ∀ w, (Instr.index 188 (.agg #[.func (.func 124) #[] #[], .func (.func 125) #[] #[]]) (.int .i64 0)).run Tryz.prog w = .ok (.func (.func 124) #[] #[]) w := fun w => by first | rfl | kernel_rfl
  have ix1 : ∀ w, (Instr.index 188 (.agg #[.func (.func 124) #[] #[], .func (.func 125) #[] #[]]) (.int .i64 1)).run Tryz.prog w = .ok (.func (.func 125) #[] #[]) w := fun w => by first | rfl | kernel_rfl
  go_enter Tryz.func44, Tryz.ntmps44
  go_wp2_with (go_at_call 43; ((with_reducible refine (VL.out _).mono ?_); rintro e w' ⟨rfl, hb⟩); (try replace hb := below_undrew hb); (try replace hb := below_undrewN hb); obtain ⟨hcell, hfroz⟩ := bcell hb; have hz := hb.size; (try simp at hz); (try (have z6 := Nat.lt_of_lt_of_le z7 hz)); (try (have z7 := Nat.lt_of_lt_of_le z8 hz)); (try (have z8 := Nat.lt_of_lt_of_le z9 hz)); (try (have z9 := Nat.lt_of_lt_of_le (Nat.lt_succ_self _) hz)); (try have z0 : w.heap.size < w'.heap.size := by omega); (try have z1 : w.heap.size + 1 < w'.heap.size := by omega); (try have z2 : w.heap.size + 1 + 1 < w'.heap.size := by omega); (try have z3 : w.heap.size + 1 + 1 + 1 < w'.heap.size := by omega); obtain ⟨w1, rfl⟩ : ∃ v, v = w' := ⟨_, rfl⟩)
  refine wp_loop_rounds 3 ?_
  rw [rounds_succ]
  go_wp2_with (((first | (go_at_call 124; ((with_reducible refine (C.out _).mono ?_); rintro e w' ⟨rfl, hb⟩); have nm0 := trivial) | (go_at_call 126; ((with_reducible refine (P.out _).mono ?_); rintro e w' ⟨rfl, hb⟩); have nm1 := trivial)); (try replace hb := below_undrew hb); (try replace hb := below_undrewN hb); obtain ⟨hcell, hfroz⟩ := bcell hb; have hz := hb.size; (try simp at hz); (try (have z6 := Nat.lt_of_lt_of_le z7 hz)); (try (have z7 := Nat.lt_of_lt_of_le z8 hz)); (try (have z8 := Nat.lt_of_lt_of_le z9 hz)); (try (have z9 := Nat.lt_of_lt_of_le (Nat.lt_succ_self _) hz)); (try have z0 : w.heap.size < w'.heap.size := by omega); (try have z1 : w.heap.size + 1 < w'.heap.size := by omega); (try have z2 : w.heap.size + 1 + 1 < w'.heap.size := by omega); (try have z3 : w.heap.size + 1 + 1 + 1 < w'.heap.size := by omega); (try have y1 : w1.heap.size < w'.heap.size := by omega); (try have y2 : w2.heap.size < w'.heap.size := by omega); (try have x1 : w1.heap.size + 1 < w'.heap.size := by omega); (try have x2 : w2.heap.size + 1 < w'.heap.size := by omega); (try have z10 : w1.heap.size < w'.heap.size + 1 := by omega); (try have z20 : w2.heap.size < w'.heap.size + 1 := by omega); (first | (clear nm0; obtain ⟨w2, rfl⟩ : ∃ v, v = w' := ⟨_, rfl⟩) | (clear nm1; obtain ⟨w3, rfl⟩ : ∃ v, v = w' := ⟨_, rfl⟩))))
  refine name_world (F := Code.rounds _ _ _ _ _) ?_
  intro w' hb
  (try replace hb := below_undrew hb); (try replace hb := below_undrewN hb); obtain ⟨hcell, hfroz⟩ := bcell hb; have hz := hb.size; (try simp at hz); (try (have z6 := Nat.lt_of_lt_of_le z7 hz)); (try (have z7 := Nat.lt_of_lt_of_le z8 hz)); (try (have z8 := Nat.lt_of_lt_of_le z9 hz)); (try (have z9 := Nat.lt_of_lt_of_le (Nat.lt_succ_self _) hz)); (try have z0 : w.heap.size < w'.heap.size := by omega); (try have z1 : w.heap.size + 1 < w'.heap.size := by omega); (try have z2 : w.heap.size + 1 + 1 < w'.heap.size := by omega); (try have z3 : w.heap.size + 1 + 1 + 1 < w'.heap.size := by omega); (try have y1 : w1.heap.size < w'.heap.size := by omega); (try have y2 : w2.heap.size < w'.heap.size := by omega); (try have y3 : w3.heap.size < w'.heap.size := by omega); (try have y4 : w4.heap.size < w'.heap.size := by omega); (try have y5 : w5.heap.size < w'.heap.size := by omega); (try have x1 : w1.heap.size + 1 < w'.heap.size := by omega); (try have x2 : w2.heap.size + 1 < w'.heap.size := by omega); (try have x3 : w3.heap.size + 1 < w'.heap.size := by omega); (try have x4 : w4.heap.size + 1 < w'.heap.size := by omega); (try have x5 : w5.heap.size + 1 < w'.heap.size := by omega); (try have z10 : w1.heap.size < w'.heap.size + 1 := by omega); (try have z20 : w2.heap.size < w'.heap.size + 1 := by omega); (try have z30 : w3.heap.size < w'.heap.size + 1 := by omega); (try have z40 : w4.heap.size < w'.heap.size + 1 := by omega); (try have z50 : w5.heap.size < w'.heap.size + 1 := by omega)
  have hw0 : Below w.heap.size w w' := by (repeat (first | exact Below.refl _ _ | refine bl_drewN ?_ | refine bl_drew ?_ | refine bl_alloc ?_ _ | refine Below.setCell ?_ (by (first | (simp; done) | (simp; omega) | omega)) _ | refine bl_step (by assumption) ?_))
  have p0 : w'.cell? ⟨w.heap.size, 0, none⟩ = some (.int .i64 a) := by simp [go_sem, *]
  have p1 : w'.cell? ⟨w.heap.size, 1, none⟩ = some (.int .i64 b) := by simp [go_sem, *]
  have p2 : w'.cell? ⟨w.heap.size, 2, none⟩ = some (.int .i64 g) := by simp [go_sem, *]
  have p3 : w'.cell? ⟨w.heap.size, 3, none⟩ = some (.int .i64 h) := by simp [go_sem, *]
  have r0 : w'.cell? ⟨w.heap.size + 1, 0, none⟩ = some (.int .i64 0) := by simp [go_sem, *]
  have r1 : w'.cell? ⟨w.heap.size + 1, 1, none⟩ = some (.int .i64 0) := by simp [go_sem, *]
  have rf : ∀ o, w'.frozen? ⟨w.heap.size + 1, o, none⟩ = false := by intro o; simp [go_sem, *]
  have s0 : w'.cell? ⟨w.heap.size + 1 + 1, 0, none⟩ = some (.int .i64 0) := by simp [go_sem, *]
  have s1 : w'.cell? ⟨w.heap.size + 1 + 1, 1, none⟩ = some (.int .i64 0) := by simp [go_sem, *]
  have sf : ∀ o, w'.frozen? ⟨w.heap.size + 1 + 1, o, none⟩ = false := by intro o; simp [go_sem, *]
  have q0 : w'.cell? ⟨w1.heap.size, 0, none⟩ = some (.int .i64 L1) := by simp [go_sem, *]
  have q1 : w'.cell? ⟨w1.heap.size, 1, none⟩ = some (.int .i64 H1) := by simp [go_sem, *]
  have q2 : w'.cell? ⟨w1.heap.size, 2, none⟩ = some (.int .i64 0) := by simp [go_sem, *]
  have q3 : w'.cell? ⟨w1.heap.size, 3, none⟩ = some (.int .i64 0) := by simp [go_sem, *]
  have qf : ∀ o, w'.frozen? ⟨w1.heap.size, o, none⟩ = false := by intro o; simp [go_sem, *]
  have z12 : w.heap.size + 1 + 1 < w1.heap.size := by omega
  clear hcell hfroz hz hb
  obtain ⟨V0, rfl⟩ : ∃ v, v = w' := ⟨_, rfl⟩
  have g5 : w1.heap.size < V0.heap.size := World.block_lt_of_cell? _ _ q0
  have g2 : w.heap.size + 1 + 1 < V0.heap.size := World.block_lt_of_cell? _ _ s0
  have g1 : w.heap.size + 1 < V0.heap.size := by omega
  have g0 : w.heap.size < V0.heap.size := by omega
  rw [rounds_succ]
  go_wp2_with (((first | (go_at_call 125; ((with_reducible refine (S.out _).mono ?_); rintro e w' ⟨rfl, hb⟩); have nm0 := trivial) | (go_at_call 126; ((with_reducible refine (Q.out _).mono ?_); rintro e w' ⟨rfl, hb⟩); have nm1 := trivial)); (try replace hb := below_undrew hb); (try replace hb := below_undrewN hb); obtain ⟨hcell, hfroz⟩ := bcell hb; have hz := hb.size; (try simp at hz); (try (have z6 := Nat.lt_of_lt_of_le z7 hz)); (try (have z7 := Nat.lt_of_lt_of_le z8 hz)); (try (have z8 := Nat.lt_of_lt_of_le z9 hz)); (try (have z9 := Nat.lt_of_lt_of_le (Nat.lt_succ_self _) hz)); (try have z0 : w.heap.size < w'.heap.size := by omega); (try have z1 : w.heap.size + 1 < w'.heap.size := by omega); (try have z2 : w.heap.size + 1 + 1 < w'.heap.size := by omega); (try have z3 : w.heap.size + 1 + 1 + 1 < w'.heap.size := by omega); (try have y1 : w1.heap.size < w'.heap.size := by omega); (try have y2 : w2.heap.size < w'.heap.size := by omega); (try have y3 : w3.heap.size < w'.heap.size := by omega); (try have y4 : w4.heap.size < w'.heap.size := by omega); (try have x1 : w1.heap.size + 1 < w'.heap.size := by omega); (try have x2 : w2.heap.size + 1 < w'.heap.size := by omega); (try have x3 : w3.heap.size + 1 < w'.heap.size := by omega); (try have x4 : w4.heap.size + 1 < w'.heap.size := by omega); (try have z10 : w1.heap.size < w'.heap.size + 1 := by omega); (try have z20 : w2.heap.size < w'.heap.size + 1 := by omega); (try have z30 : w3.heap.size < w'.heap.size + 1 := by omega); (try have z40 : w4.heap.size < w'.heap.size + 1 := by omega); (first | (clear nm0; obtain ⟨w4, rfl⟩ : ∃ v, v = w' := ⟨_, rfl⟩) | (clear nm1; obtain ⟨w5, rfl⟩ : ∃ v, v = w' := ⟨_, rfl⟩))))
  refine name_world (F := Code.rounds _ _ _ _ _) ?_
  intro w' hb
  (try replace hb := below_undrew hb); (try replace hb := below_undrewN hb); obtain ⟨hcell, hfroz⟩ := bcell hb; have hz := hb.size; (try simp at hz); (try (have z6 := Nat.lt_of_lt_of_le z7 hz)); (try (have z7 := Nat.lt_of_lt_of_le z8 hz)); (try (have z8 := Nat.lt_of_lt_of_le z9 hz)); (try (have z9 := Nat.lt_of_lt_of_le (Nat.lt_succ_self _) hz)); (try have z0 : w.heap.size < w'.heap.size := by omega); (try have z1 : w.heap.size + 1 < w'.heap.size := by omega); (try have z2 : w.heap.size + 1 + 1 < w'.heap.size := by omega); (try have z3 : w.heap.size + 1 + 1 + 1 < w'.heap.size := by omega); (try have y1 : w1.heap.size < w'.heap.size := by omega); (try have y2 : w2.heap.size < w'.heap.size := by omega); (try have y3 : w3.heap.size < w'.heap.size := by omega); (try have y4 : w4.heap.size < w'.heap.size := by omega); (try have y5 : w5.heap.size < w'.heap.size := by omega); (try have x1 : w1.heap.size + 1 < w'.heap.size := by omega); (try have x2 : w2.heap.size + 1 < w'.heap.size := by omega); (try have x3 : w3.heap.size + 1 < w'.heap.size := by omega); (try have x4 : w4.heap.size + 1 < w'.heap.size := by omega); (try have x5 : w5.heap.size + 1 < w'.heap.size := by omega); (try have z10 : w1.heap.size < w'.heap.size + 1 := by omega); (try have z20 : w2.heap.size < w'.heap.size + 1 := by omega); (try have z30 : w3.heap.size < w'.heap.size + 1 := by omega); (try have z40 : w4.heap.size < w'.heap.size + 1 := by omega); (try have z50 : w5.heap.size < w'.heap.size + 1 := by omega)
  have k0 : w'.cell? ⟨w1.heap.size, 0, none⟩ = some (.int .i64 L1) := by simp [go_sem, *]
  have k1 : w'.cell? ⟨w1.heap.size, 1, none⟩ = some (.int .i64 H1) := by simp [go_sem, *]
  have k2 : w'.cell? ⟨w1.heap.size, 2, none⟩ = some (.int .i64 L2) := by simp [go_sem, *]
  have k3 : w'.cell? ⟨w1.heap.size, 3, none⟩ = some (.int .i64 H2) := by simp [go_sem, *]
  have l0 : w'.cell? ⟨w.heap.size + 1, 0, none⟩ = some (.int .i64 0) := by simp [go_sem, *]
  have l1 : w'.cell? ⟨w.heap.size + 1, 1, none⟩ = some (.int .i64 0) := by simp [go_sem, *]
  have lf : ∀ o, w'.frozen? ⟨w.heap.size + 1, o, none⟩ = false := by intro o; simp [go_sem, *]
  have m0 : w'.cell? ⟨w.heap.size + 1 + 1, 0, none⟩ = some (.int .i64 0) := by simp [go_sem, *]
  have m1 : w'.cell? ⟨w.heap.size + 1 + 1, 1, none⟩ = some (.int .i64 0) := by simp [go_sem, *]
  have mf : ∀ o, w'.frozen? ⟨w.heap.size + 1 + 1, o, none⟩ = false := by intro o; simp [go_sem, *]
  have hw1 : Below w.heap.size w w' := by (repeat (first | (with_reducible exact Below.refl _ _) | (with_reducible refine Below.setCell ?_ (by (first | (simp; done) | (simp; omega) | omega)) _) | (with_reducible refine bl_alloc ?_ _) | (with_reducible refine bl_drewN ?_) | (with_reducible refine bl_drew ?_) | (with_reducible refine bl_step (by assumption) ?_)))
  clear hcell hfroz hz hb p0 p1 p2 p3 r0 r1 rf s0 s1 sf q0 q1 q2 q3 qf hw0
  obtain ⟨V1, rfl⟩ : ∃ v, v = w' := ⟨_, rfl⟩
  have g5 : w1.heap.size < V1.heap.size := World.block_lt_of_cell? _ _ k0
  have g2 : w.heap.size + 1 + 1 < V1.heap.size := World.block_lt_of_cell? _ _ m0
  have g1 : w.heap.size + 1 < V1.heap.size := by omega
  rw [rounds_succ]
  go_wp2
  go_region
  go_wp2
  exact bodyPost_ret (v := .tuple #[.agg #[.int .i64 L1, .int .i64 H1], .agg #[.int .i64 L2, .int .i64 H2], .int .i64 0]) (by first | (simp only [results, Tryz.results44]; go_simp; done) | simp [results, Tryz.results44, go_sem, *]) rfl ⟨rfl, by (repeat (first | (with_reducible exact Below.refl _ _) | (with_reducible refine Below.setCell ?_ (by (first | (simp; done) | (simp; omega) | omega)) _) | (with_reducible refine bl_alloc ?_ _) | (with_reducible refine bl_drewN ?_) | (with_reducible refine bl_drew ?_) | (with_reducible refine bl_step (by assumption) ?_)))⟩
end Go.Proofs.YtdhbeoahpfimbaaGreat
