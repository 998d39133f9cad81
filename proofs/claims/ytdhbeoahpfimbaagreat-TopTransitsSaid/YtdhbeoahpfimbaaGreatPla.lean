/- Places: whether they are valid, and whether the box of a cell meets the point of the equator at the first meridian, as contracts. -/
import Derived.Test.YtdhbeoahpfimbaaGreatAg
import Derived.Test.YtdhbeoahpfimbaaGreatCe
import Derived.BigQuiet
import Derived.Test.YtdhbeoahpfimbaaGreatRa
import Derived.Deep.Cut
import Derived.Deep.DeepCutAuto
namespace Go.Proofs.YtdhbeoahpfimbaaGreat
open Go.RowKit
theorem every_is (w : World) :
    Calls Tryz.prog 297 #[] w fun e w' => e = .returned (.agg #[.int .i64 (-10800000), .int .i64 10800000]) ∧ Below w.heap.size w w' := by
  go_enter Tryz.func297, Tryz.ntmps297
  go_wp2
  exact bodyPost_ret (v := .agg #[.int .i64 (-10800000), .int .i64 10800000]) (by first | (simp only [results, Tryz.results297]; go_simp; done) | simp [results, Tryz.results297, go_sem, *]) rfl ⟨rfl, by (repeat (first | (with_reducible exact Below.refl _ _) | (with_reducible refine Below.setCell ?_ (by (first | (simp; done) | (simp; omega) | omega)) _) | (with_reducible refine bl_alloc ?_ _) | (with_reducible refine bl_drewN ?_) | (with_reducible refine bl_drew ?_) | (with_reducible refine bl_step (by assumption) ?_)))⟩
theorem all_no (a b : Int) (w : World) (h : ¬ (a = -10800000 ∧ b = 10800000)) :
    Calls Tryz.prog 252 #[.agg #[.int .i64 a, .int .i64 b]] w fun e w' => e = .returned (.bool false) ∧ Below w.heap.size w w' := by
  have E := hidden every_is
  have q1 := fun w => eql_arc a b (-10800000) 10800000 w
  have q2 := grd_arc .eql
  rw [show (a == -10800000 && b == 10800000) = false by simpa using h] at q1
  clear h
  go_enter Tryz.func252, Tryz.ntmps252
  go_wp2
  refine wp_region_quiet_below (by kernel_rfl) (by kernel_rfl) ?_
  repeat (first | go_big_quiet_step ((go_at_call 297; (with_reducible exact Calls.regrown_of (E.out _)))) | quiet_step ((go_at_call 297; (with_reducible exact Calls.regrown_of (E.out _)))))
  refine wpQuiet_nil ?_; intro w' hw'; have hb := below_of_regrown hw'; clear hw'; (try replace hb := below_undrew hb); (try replace hb := below_undrewN hb); obtain ⟨hcell, hfroz⟩ := bcell hb; have hz := hb.size; (try simp at hz); (try (have z9 := Nat.lt_of_lt_of_le (Nat.lt_succ_self _) hz)); (try (have z0 : w.heap.size < w'.heap.size := by omega)); (try (have z1 : w.heap.size + 1 < w'.heap.size := by omega)); (try (have z2 : w.heap.size + 1 + 1 < w'.heap.size := by omega)); (try (have z3 : w.heap.size + 1 + 1 + 1 < w'.heap.size := by omega))
  go_wp2
  go_ret
  exact ⟨rfl, by (repeat (first | (with_reducible exact Below.refl _ _) | (with_reducible refine Below.setCell ?_ (by (first | (simp; done) | (simp; omega) | omega)) _) | (with_reducible refine bl_alloc ?_ _) | (with_reducible refine bl_drewN ?_) | (with_reducible refine bl_drew ?_) | (with_reducible refine bl_step (by assumption) ?_)))⟩
theorem vlat_ok (a b : Int) (w : World) (h1 : a ≤ b) (h2 : -5400000 ≤ a) (h3 : b ≤ 5400000) :
    Calls Tryz.prog 191 #[.agg #[.int .i64 a, .int .i64 b]] w fun e w' => e = .returned (.bool true) ∧ Below w.heap.size w w' := by
  go_enter Tryz.func191, Tryz.ntmps191
  go_wp2
  go_ret
  exact ⟨rfl, by (repeat (first | (with_reducible exact Below.refl _ _) | (with_reducible refine Below.setCell ?_ (by (first | (simp; done) | (simp; omega) | omega)) _) | (with_reducible refine bl_alloc ?_ _) | (with_reducible refine bl_drewN ?_) | (with_reducible refine bl_drew ?_) | (with_reducible refine bl_step (by assumption) ?_)))⟩
theorem vlon_ok (a b : Int) (w : World) (h : ¬ (a = -10800000 ∧ b = 10800000)) (h1 : a ≤ b) (h2 : -10800000 ≤ a) (h3 : a < 10800000) (h4 : b - a < 21600000) :
    Calls Tryz.prog 192 #[.agg #[.int .i64 a, .int .i64 b]] w fun e w' => e = .returned (.bool true) ∧ Below w.heap.size w w' := by
  have A := hidden fun w => all_no a b w h
  clear h
  go_enter Tryz.func192, Tryz.ntmps192
  go_wp2_with (go_at_call 252; ((with_reducible refine (A.out _).mono ?_); rintro e w' ⟨rfl, hb⟩); (try replace hb := below_undrew hb); (try replace hb := below_undrewN hb); obtain ⟨hcell, hfroz⟩ := bcell hb; have hz := hb.size; (try simp at hz); (try (have z9 := Nat.lt_of_lt_of_le (Nat.lt_succ_self _) hz)); (try (have z0 : w.heap.size < w'.heap.size := by omega)); (try (have z1 : w.heap.size + 1 < w'.heap.size := by omega)); (try (have z2 : w.heap.size + 1 + 1 < w'.heap.size := by omega)); (try (have z3 : w.heap.size + 1 + 1 + 1 < w'.heap.size := by omega)); obtain ⟨w1, rfl⟩ : ∃ v, v = w' := ⟨_, rfl⟩)
  go_ret
  exact ⟨rfl, by (repeat (first | (with_reducible exact Below.refl _ _) | (with_reducible refine Below.setCell ?_ (by (first | (simp; done) | (simp; omega) | omega)) _) | (with_reducible refine bl_alloc ?_ _) | (with_reducible refine bl_drewN ?_) | (with_reducible refine bl_drew ?_) | (with_reducible refine bl_step (by assumption) ?_)))⟩
theorem pvalid_ok (a b c d : Int) (w : World) (h : ¬ (c = -10800000 ∧ d = 10800000)) (l1 : a ≤ b) (l2 : -5400000 ≤ a) (l3 : b ≤ 5400000) (h1 : c ≤ d) (h2 : -10800000 ≤ c) (h3 : c < 10800000) (h4 : d - c < 21600000) :
    Calls Tryz.prog 111 #[.agg #[.int .i64 a, .int .i64 b, .int .i64 c, .int .i64 d]] w fun e w' => e = .returned (.bool true) ∧ Below w.heap.size w w' := by
  have A := hidden fun w => vlat_ok a b w l1 l2 l3
  have B := hidden fun w => vlon_ok c d w h h1 h2 h3 h4
  clear h
  go_enter Tryz.func111, Tryz.ntmps111
  go_wp2_with (((first | (go_at_call 191; ((with_reducible refine (A.out _).mono ?_); rintro e w' ⟨rfl, hb⟩); have nm0 := trivial) | (go_at_call 192; ((with_reducible refine (B.out _).mono ?_); rintro e w' ⟨rfl, hb⟩); have nm1 := trivial)); (try replace hb := below_undrew hb); (try replace hb := below_undrewN hb); obtain ⟨hcell, hfroz⟩ := bcell hb; have hz := hb.size; (try simp at hz); (try (have z9 := Nat.lt_of_lt_of_le (Nat.lt_succ_self _) hz)); (try (have z0 : w.heap.size < w'.heap.size := by omega)); (try (have z1 : w.heap.size + 1 < w'.heap.size := by omega)); (try (have z2 : w.heap.size + 1 + 1 < w'.heap.size := by omega)); (try (have z3 : w.heap.size + 1 + 1 + 1 < w'.heap.size := by omega)); (first | (clear nm0; obtain ⟨w1, rfl⟩ : ∃ v, v = w' := ⟨_, rfl⟩) | (clear nm1; obtain ⟨w2, rfl⟩ : ∃ v, v = w' := ⟨_, rfl⟩))))
  go_ret
  exact ⟨rfl, by (repeat (first | (with_reducible exact Below.refl _ _) | (with_reducible refine Below.setCell ?_ (by (first | (simp; done) | (simp; omega) | omega)) _) | (with_reducible refine bl_alloc ?_ _) | (with_reducible refine bl_drewN ?_) | (with_reducible refine bl_drew ?_) | (with_reducible refine bl_step (by assumption) ?_)))⟩
theorem beyond_any (a b n f : Int) (w : World) (h1 : -9000000000000000000 ≤ n - a) (h2 : n - a ≤ 9000000000000000000) (hf : (n - a) % 21600000 = f) :
    Calls Tryz.prog 302 #[.agg #[.int .i64 a, .int .i64 b], .int .i64 n] w fun e w' => e = .returned (.int .i64 f) ∧ Below w.heap.size w w' := by
  have W := hidden fun w => (by have := wrap_any (n - a) w (by omega) (by omega); rw [hf] at this; exact this : Calls Tryz.prog 56 #[.int .i64 (n - a)] w fun e w' => e = .returned (.int .i64 f) ∧ w = w')
  clear hf
  go_enter Tryz.func302, Tryz.ntmps302
  go_wp2_with (go_at_call 56; ((with_reducible refine (W.out _).mono ?_); rintro e w' ⟨rfl, rfl⟩))
  go_ret
  exact ⟨rfl, by (repeat (first | (with_reducible exact Below.refl _ _) | (with_reducible refine Below.setCell ?_ (by (first | (simp; done) | (simp; omega) | omega)) _) | (with_reducible refine bl_alloc ?_ _) | (with_reducible refine bl_drewN ?_) | (with_reducible refine bl_drew ?_) | (with_reducible refine bl_step (by assumption) ?_)))⟩
theorem infoArc : (Tryz.prog.info? 23).map (fun i => (i.zero, i.size, i.bytes)) = some (some (.agg #[.int .i64 0, .int .i64 0]), 2, 16) := by kernel_rfl
theorem newsArc (w : World) (x y : Value) (t : Nat) : ∀ (j : Nat) u, ([x, y] : List Value)[j]? = some u → (w.alloc (Obj.cells #[x, y] t)).cell? ((⟨w.heap.size, 0, none⟩ : Addr).add j) = some u := by
  intro j u h
  match j, h with
  | 0, h => simp at h; subst h; simp [Addr.add, go_sem]
  | 1, h => simp at h; subst h; simp [Addr.add, go_sem]
  | n + 2, h => simp at h
theorem oneArc (a b : Int) : ∀ u ∈ ([.int .i64 a, .int .i64 b] : List Value), u.oneCell' = true := by
  intro u hu
  simp at hu
  rcases hu with rfl | rfl <;> rfl
theorem idx20 (x y : Int) (w : World) : (Instr.index 261 (.agg #[.int .i64 x, .int .i64 y]) (.int .i64 0)).run Tryz.prog w = .ok (.int .i64 x) w := by kernel_rfl
theorem idx21 (x y : Int) (w : World) : (Instr.index 261 (.agg #[.int .i64 x, .int .i64 y]) (.int .i64 1)).run Tryz.prog w = .ok (.int .i64 y) w := by kernel_rfl
theorem ownsRow_later {w w' : World} {base : Nat} {e : TypeId} {size : Nat} {v : Value} {n : Nat} {xs : List Value} (hb : Below w.heap.size w w') (h : w.ownsRow base e size v n xs) : w'.ownsRow base e size v n xs := by
  refine ⟨h.1, ?_⟩
  rcases h.2 with h | ⟨g, cap, cur, h1, h2, h3, h4⟩
  · exact Or.inl h
  · have hg : g < w.heap.size := by
      rcases Nat.lt_or_ge g w.heap.size with k | k
      · exact k
      · rw [Array.getElem?_eq_none k] at h3; cases h3
    exact Or.inr ⟨g, cap, cur, h1, h2, (hb.block g hg).trans h3, h4⟩
theorem cappG {w wr w1 : World} {e : TypeId} {size : Nat} {v : Value} {k : Nat} {xs : List Value} {o : Obj} (hb : Below w.heap.size w wr) (hown : wr.ownsRow w.heap.size e size v k xs) (hg : (wr.alloc o).grownBy w1 v.ownBlock) : Below w.heap.size w w1 :=
  Below.grown (bl_alloc hb o) hg (bl_alloc hb o).size (fun j hj => (hown.lt j hj).1)
end Go.Proofs.YtdhbeoahpfimbaaGreat
