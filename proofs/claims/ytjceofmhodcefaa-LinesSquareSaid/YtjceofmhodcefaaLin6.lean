/- Least of package lines at the two lines of the example, as a walk. -/
import Derived.Test.YtjceofmhodcefaaLin4
import Derived.Test.YtjceofmhodcefaaRa
import Derived.Test.YtjceofmhodcefaaLin5
namespace Go.Proofs.Ytjceofmhodcefaa
open Go.RowKit

theorem ownsRow_later {w w' : World} {base : Nat} {e : TypeId} {size : Nat} {v : Value} {n : Nat} {xs : List Value} (hb : Below w.heap.size w w') (h : w.ownsRow base e size v n xs) : w'.ownsRow base e size v n xs := by
  refine ⟨h.1, ?_⟩
  rcases h.2 with h | ⟨g, cap, cur, h1, h2, h3, h4⟩
  · exact Or.inl h
  · have hg : g < w.heap.size := by
      rcases Nat.lt_or_ge g w.heap.size with k | k
      · exact k
      · rw [Array.getElem?_eq_none k] at h3; cases h3
    exact Or.inr ⟨g, cap, cur, h1, h2, (hb.block g hg).trans h3, h4⟩

theorem news3 (w : World) (x y z : Value) (t : Nat) : ∀ (j : Nat) u, ([x, y, z] : List Value)[j]? = some u → (w.alloc (Obj.cells #[x, y, z] t)).cell? ((⟨w.heap.size, 0, none⟩ : Addr).add j) = some u := by
  intro j u h
  match j, h with
  | 0, h => simp at h; subst h; simp [Addr.add, go_sem]
  | 1, h => simp at h; subst h; simp [Addr.add, go_sem]
  | 2, h => simp at h; subst h; simp [Addr.add, go_sem]
  | n + 3, h => simp at h
theorem one3 (a b c : Int) : ∀ u ∈ ([.int .i64 a, .int .i64 b, .int .i64 c] : List Value), u.oneCell' = true := by
  intro u hu
  simp at hu
  rcases hu with rfl | rfl | rfl <;> rfl
theorem one1 (a : Int) : ∀ u ∈ ([.int .i64 a] : List Value), u.oneCell' = true := by
  intro u hu
  simp at hu
  subst hu
  rfl

theorem held5_store {w wN v : World} {S0 : Nat} (h : Below w.heap.size w wN) (hv : Below wN.heap.size wN v) (hS : w.heap.size ≤ S0) (x0 x1 : Value) :
    Below w.heap.size w ((v.setCell ⟨S0, 0, none⟩ x0).setCell ⟨S0, 1, none⟩ x1) ∧
    (∀ b o, b ≠ S0 → b < wN.heap.size → ((v.setCell ⟨S0, 0, none⟩ x0).setCell ⟨S0, 1, none⟩ x1).cell? ⟨b, o, none⟩ = wN.cell? ⟨b, o, none⟩) ∧
    (∀ b o, b < wN.heap.size → ((v.setCell ⟨S0, 0, none⟩ x0).setCell ⟨S0, 1, none⟩ x1).frozen? ⟨b, o, none⟩ = wN.frozen? ⟨b, o, none⟩) := by
  refine ⟨((bl_step hv h).setCell hS _).setCell hS _, fun b o hb hN => ?_, fun b o hN => ?_⟩
  · have ne : ∀ p, (⟨S0, p, none⟩ : Addr) ≠ ⟨b, o, none⟩ := fun p e => by injection e with e; exact hb e.symm
    rw [World.cell?_setCell_other _ _ _ _ (ne 1), World.cell?_setCell_other _ _ _ _ (ne 0)]
    exact (bcell hv).1 b o hN
  · simp; exact (bcell hv).2 b o hN

set_option maxRecDepth 100000 in
set_option maxHeartbeats 16000000 in
theorem least2_walk (B1 : Nat) (w : World) (c0 : w.cell? ⟨B1, 0, none⟩ = some (.int .i64 0)) (c1 : w.cell? ⟨B1, 1, none⟩ = some (.int .i64 0)) (c2 : w.cell? ⟨B1, 2, none⟩ = some (.int .i64 0)) (c3 : w.cell? ⟨B1, 3, none⟩ = some (.int .i64 0)) (c4 : w.cell? ⟨B1, 4, none⟩ = some (.int .i64 5000)) (c5 : w.cell? ⟨B1, 5, none⟩ = some (.int .i64 5000)) (c6 : w.cell? ⟨B1, 6, none⟩ = some (.int .i64 0)) (c7 : w.cell? ⟨B1, 7, none⟩ = some (.int .i64 0)) (c8 : w.cell? ⟨B1, 8, none⟩ = some (.int .i64 5400000)) (c9 : w.cell? ⟨B1, 9, none⟩ = some (.int .i64 5400000)) (c10 : w.cell? ⟨B1, 10, none⟩ = some (.int .i64 3000)) (c11 : w.cell? ⟨B1, 11, none⟩ = some (.int .i64 3000))
    (i0 : TypeInfo) (hi : Try.prog.info? 77 = some i0) (hz0 : i0.zero = some (.agg #[.int .i64 0, .int .i64 0, .int .i64 0])) (hz1 : i0.size = 3) (hz2 : i0.bytes = 24)
    (i1 : TypeInfo) (hj : Try.prog.info? 3 = some i1) (hj0 : i1.zero = some (.int .i64 0)) (hj1 : i1.size = 1) (hj2 : i1.bytes = 8)
    (MZ1 : Hid (∀ w, Calls Try.prog 39 #[.agg #[.int .i64 0, .int .i64 0]] w fun e w' => e = .returned (.int .i64 0) ∧ Below w.heap.size w w'))
    (MP1 : Hid (∀ w, Calls Try.prog 39 #[.agg #[.int .i64 5000, .int .i64 5000]] w fun e w' => e = .returned (.int .i64 5000) ∧ Below w.heap.size w w'))
    (MZ2 : Hid (∀ w, Calls Try.prog 39 #[.agg #[.int .i64 5400000, .int .i64 5400000]] w fun e w' => e = .returned (.int .i64 5400000) ∧ Below w.heap.size w w'))
    (MP2 : Hid (∀ w, Calls Try.prog 39 #[.agg #[.int .i64 3000, .int .i64 3000]] w fun e w' => e = .returned (.int .i64 3000) ∧ Below w.heap.size w w'))
    (AT0 : Hid (∀ w, Calls Try.prog 36 #[.int .i64 0] w fun e w' => e = .returned (.agg #[.int .i64 0, .int .i64 0]) ∧ Below w.heap.size w w'))
    (ATQ : Hid (∀ w, Calls Try.prog 36 #[.int .i64 5400000] w fun e w' => e = .returned (.agg #[.int .i64 5400000, .int .i64 5400000]) ∧ Below w.heap.size w w'))
    (ATX : Hid (∀ w, Calls Try.prog 36 #[.int .i64 3000] w fun e w' => e = .returned (.agg #[.int .i64 3000, .int .i64 3000]) ∧ Below w.heap.size w w'))
    (ATY : Hid (∀ w, Calls Try.prog 36 #[.int .i64 5000] w fun e w' => e = .returned (.agg #[.int .i64 5000, .int .i64 5000]) ∧ Below w.heap.size w w'))
    (S1 : Hid (∀ B w, okAt w B → Calls Try.prog 34 #[.pointer (some ⟨B, 0, none⟩), .agg #[.int .i64 0, .int .i64 0]] w fun e w' => e = .returned (.agg #[.int .i64 0, .int .i64 0]) ∧ Below w.heap.size w w'))
    (C1 : Hid (∀ B w, okAt w B → Calls Try.prog 30 #[.pointer (some ⟨B, 0, none⟩), .agg #[.int .i64 0, .int .i64 0]] w fun e w' => e = .returned (.agg #[.int .i64 1073741824, .int .i64 1073741824]) ∧ Below w.heap.size w w'))
    (S2 : Hid (∀ B w, okAt w B → Calls Try.prog 34 #[.pointer (some ⟨B, 0, none⟩), .agg #[.int .i64 5400000, .int .i64 5400000]] w fun e w' => e = .returned (.agg #[.int .i64 1073741824, .int .i64 1073741824]) ∧ Below w.heap.size w w'))
    (C2 : Hid (∀ B w, okAt w B → Calls Try.prog 30 #[.pointer (some ⟨B, 0, none⟩), .agg #[.int .i64 5400000, .int .i64 5400000]] w fun e w' => e = .returned (.agg #[.int .i64 0, .int .i64 0]) ∧ Below w.heap.size w w'))
    (F0 : Hid (∀ w, Calls Try.prog 40 #[.int .i64 0, .int .i64 131072] w fun e w' => e = .returned (.int .i64 0) ∧ Below w.heap.size w w'))
    (FT : Hid (∀ w, Calls Try.prog 40 #[.int .i64 1073741824, .int .i64 131072] w fun e w' => e = .returned (.int .i64 8192) ∧ Below w.heap.size w w'))
    (QX : Hid (∀ w, Calls Try.prog 41 #[.int .i64 24576000, .int .i64 67108864, .int .i64 40960000, .int .i64 0, .int .i64 4503599627370496] w fun e w' => e = .returned (.tuple #[.int .i64 3000, .int .i64 0]) ∧ Below w.heap.size w w'))
    (QY : Hid (∀ w, Calls Try.prog 41 #[.int .i64 40960000, .int .i64 67108864, .int .i64 24576000, .int .i64 0, .int .i64 4503599627370496] w fun e w' => e = .returned (.tuple #[.int .i64 5000, .int .i64 0]) ∧ Below w.heap.size w w'))
    (W1 : Hid (∀ w, Calls Try.prog 31 #[.agg #[.int .i64 3000, .int .i64 3000], .int .i64 2000000] w fun e w' => e = .returned (.bool true) ∧ Below w.heap.size w w'))
    (W2 : Hid (∀ w, Calls Try.prog 31 #[.agg #[.int .i64 5000, .int .i64 5000], .int .i64 2000000] w fun e w' => e = .returned (.bool true) ∧ Below w.heap.size w w'))
    (FA : Hid (∀ w, Calls Try.prog 40 #[.int .i64 40960000, .int .i64 8192] w fun e w' => e = .returned (.int .i64 5000) ∧ w = w'))
    (FB : Hid (∀ w, Calls Try.prog 40 #[.int .i64 24576000, .int .i64 8192] w fun e w' => e = .returned (.int .i64 3000) ∧ w = w'))
    (FL : Hid (∀ w, Calls Try.prog 40 #[.int .i64 3221225472000, .int .i64 1073741824] w fun e w' => e = .returned (.int .i64 3000) ∧ Below w.heap.size w w'))
    (SG : Hid (∀ w, Calls Try.prog 42 #[.int .i64 3000] w fun e w' => e = .returned (.int .i64 3000) ∧ Below w.heap.size w w'))
    :
    Calls Try.prog 13 #[.slice (some ⟨B1, 0, none⟩) 2 2] w fun e w' => (∃ g cap : Nat, e = .returned (.tuple #[.agg #[.int .i64 5000, .int .i64 3000], .slice (some ⟨g, 0, none⟩) 2 cap, .int .i64 0]) ∧ w'.cell? ⟨g, 0, none⟩ = some (.int .i64 0) ∧ w'.cell? ⟨g, 1, none⟩ = some (.int .i64 0)) ∧ Below w.heap.size w w' := by
  have hB0 : B1 < w.heap.size := World.block_lt_of_cell? _ _ c0
  go_enter Try.func13, Try.ntmps13
  go_wp2_with (go_at_call 32; ((with_reducible refine (given2_ok 0 0 0 0 5000 5000 5400000 5400000 3000 3000 B1 _ ?q0 ?q1 ?q2 ?q3 ?q4 ?q5 ?q6 ?q7 ?q8 ?q9 ?q10 ?q11 (by decide) (by decide)).mono ?_); (case q0 => (simp [go_sem, *]; done)); (case q1 => (simp [go_sem, *]; done)); (case q2 => (simp [go_sem, *]; done)); (case q3 => (simp [go_sem, *]; done)); (case q4 => (simp [go_sem, *]; done)); (case q5 => (simp [go_sem, *]; done)); (case q6 => (simp [go_sem, *]; done)); (case q7 => (simp [go_sem, *]; done)); (case q8 => (simp [go_sem, *]; done)); (case q9 => (simp [go_sem, *]; done)); (case q10 => (simp [go_sem, *]; done)); (case q11 => (simp [go_sem, *]; done)); rintro e w' ⟨rfl, hb⟩); (try replace hb := below_undrew hb); (try replace hb := below_undrewN hb); obtain ⟨hcell, hfroz⟩ := bcell hb; have hz := hb.size; (try simp at hz); (try (have z6 := Nat.lt_of_lt_of_le z7 hz)); (try (have z7 := Nat.lt_of_lt_of_le z8 hz)); (try (have z8 := Nat.lt_of_lt_of_le z9 hz)); (try (have z9 := Nat.lt_of_lt_of_le (Nat.lt_succ_self _) hz)); (try (have z0 : w.heap.size < w'.heap.size := by omega)); (try (have z1 : w.heap.size + 1 < w'.heap.size := by omega)); (try (have z2 : w.heap.size + 1 + 1 < w'.heap.size := by omega)); (try (have z3 : w.heap.size + 1 + 1 + 1 < w'.heap.size := by omega)); (try (have y1 : w1.heap.size < w'.heap.size := by omega)); (try (have y2 : w2.heap.size < w'.heap.size := by omega)); (try (have y3 : w3.heap.size < w'.heap.size := by omega)); (try (have y4 : w4.heap.size < w'.heap.size := by omega)); (try (have y5 : w5.heap.size < w'.heap.size := by omega)); (try (have y6 : w6.heap.size < w'.heap.size := by omega)); (try (have x1 : w1.heap.size + 1 < w'.heap.size := by omega)); (try (have x2 : w2.heap.size + 1 < w'.heap.size := by omega)); (try (have x3 : w3.heap.size + 1 < w'.heap.size := by omega)); (try (have x4 : w4.heap.size + 1 < w'.heap.size := by omega)); (try (have x5 : w5.heap.size + 1 < w'.heap.size := by omega)); (try (have x6 : w6.heap.size + 1 < w'.heap.size := by omega)); (try (have y7 : w7.heap.size < w'.heap.size := by omega)); (try (have y8 : w8.heap.size < w'.heap.size := by omega)); (try (have y9 : w9.heap.size < w'.heap.size := by omega)); (try (have z10 : w1.heap.size < w'.heap.size + 1 := by omega)); (try (have z20 : w2.heap.size < w'.heap.size + 1 := by omega)); (try (have z30 : w3.heap.size < w'.heap.size + 1 := by omega)); (try (have z40 : w4.heap.size < w'.heap.size + 1 := by omega)); (try (have z50 : w5.heap.size < w'.heap.size + 1 := by omega)); (try (have z60 : w6.heap.size < w'.heap.size + 1 := by omega)); (try (have z70 : w7.heap.size < w'.heap.size + 1 := by omega)); (try (have z80 : w8.heap.size < w'.heap.size + 1 := by omega)); obtain ⟨w1, rfl⟩ : ∃ v, v = w' := ⟨_, rfl⟩)
  refine name_code ?_
  intro w' hb
  (try replace hb := below_undrew hb); (try replace hb := below_undrewN hb); obtain ⟨hcell, hfroz⟩ := bcell hb; have hz := hb.size; (try simp at hz); (try (have z6 := Nat.lt_of_lt_of_le z7 hz)); (try (have z7 := Nat.lt_of_lt_of_le z8 hz)); (try (have z8 := Nat.lt_of_lt_of_le z9 hz)); (try (have z9 := Nat.lt_of_lt_of_le (Nat.lt_succ_self _) hz)); (try (have z0 : w.heap.size < w'.heap.size := by omega)); (try (have z1 : w.heap.size + 1 < w'.heap.size := by omega)); (try (have z2 : w.heap.size + 1 + 1 < w'.heap.size := by omega)); (try (have z3 : w.heap.size + 1 + 1 + 1 < w'.heap.size := by omega)); (try (have y1 : w1.heap.size < w'.heap.size := by omega)); (try (have y2 : w2.heap.size < w'.heap.size := by omega)); (try (have y3 : w3.heap.size < w'.heap.size := by omega)); (try (have y4 : w4.heap.size < w'.heap.size := by omega)); (try (have y5 : w5.heap.size < w'.heap.size := by omega)); (try (have y6 : w6.heap.size < w'.heap.size := by omega)); (try (have x1 : w1.heap.size + 1 < w'.heap.size := by omega)); (try (have x2 : w2.heap.size + 1 < w'.heap.size := by omega)); (try (have x3 : w3.heap.size + 1 < w'.heap.size := by omega)); (try (have x4 : w4.heap.size + 1 < w'.heap.size := by omega)); (try (have x5 : w5.heap.size + 1 < w'.heap.size := by omega)); (try (have x6 : w6.heap.size + 1 < w'.heap.size := by omega)); (try (have y7 : w7.heap.size < w'.heap.size := by omega)); (try (have y8 : w8.heap.size < w'.heap.size := by omega)); (try (have y9 : w9.heap.size < w'.heap.size := by omega)); (try (have z10 : w1.heap.size < w'.heap.size + 1 := by omega)); (try (have z20 : w2.heap.size < w'.heap.size + 1 := by omega)); (try (have z30 : w3.heap.size < w'.heap.size + 1 := by omega)); (try (have z40 : w4.heap.size < w'.heap.size + 1 := by omega)); (try (have z50 : w5.heap.size < w'.heap.size + 1 := by omega)); (try (have z60 : w6.heap.size < w'.heap.size + 1 := by omega)); (try (have z70 : w7.heap.size < w'.heap.size + 1 := by omega)); (try (have z80 : w8.heap.size < w'.heap.size + 1 := by omega))
  have hw : Below w.heap.size w w' := by (repeat (first | exact Below.refl _ _ | refine bl_drewN ?_ | refine bl_drew ?_ | refine bl_alloc ?_ _ | refine Below.setCell ?_ (by (first | (simp; done) | (simp; omega) | omega)) _ | refine bl_step (by assumption) ?_))
  replace c0 := cell_later hw c0
  replace c1 := cell_later hw c1
  replace c2 := cell_later hw c2
  replace c3 := cell_later hw c3
  replace c4 := cell_later hw c4
  replace c5 := cell_later hw c5
  replace c6 := cell_later hw c6
  replace c7 := cell_later hw c7
  replace c8 := cell_later hw c8
  replace c9 := cell_later hw c9
  replace c10 := cell_later hw c10
  replace c11 := cell_later hw c11
  have cr0 : w'.cell? ⟨w.heap.size, 0, none⟩ = some (.int .i64 0) := by simp [go_sem, *]
  have cr1 : w'.cell? ⟨w.heap.size, 1, none⟩ = some (.int .i64 0) := by simp [go_sem, *]
  have cg : ∀ o, w'.frozen? ⟨w.heap.size, o, none⟩ = false := by intro o; simp [go_sem, *]
  have ok : okAt w' w1.heap.size := ⟨by simp [go_sem, *], by simp [go_sem, *]⟩
  clear hcell hfroz hz
  obtain ⟨V0, rfl⟩ : ∃ v, v = w' := ⟨_, rfl⟩
  have hV : Below V0.heap.size V0 V0 := Below.refl _ _
  have hown := World.ownsRow_nil V0 V0.heap.size 77 3
  refine wp_loop_rounds 3 ?_
  rw [rounds_succ]
  have pc0 := cell_later hV c0
  have pc1 := cell_later hV c1
  have pc2 := cell_later hV c2
  have pc3 := cell_later hV c3
  have pc4 := cell_later hV c4
  have pc5 := cell_later hV c5
  have pc6 := cell_later hV c6
  have pc7 := cell_later hV c7
  have pc8 := cell_later hV c8
  have pc9 := cell_later hV c9
  have pc10 := cell_later hV c10
  have pc11 := cell_later hV c11
  have pcr0 := cell_later hV cr0
  have pcr1 := cell_later hV cr1
  have pok := okAt_later hV ok
  obtain ⟨ok1, ok2⟩ := id pok
  go_wp2_with (first | (go_at_call 39; ((with_reducible refine (MZ1.out _).mono ?_); rintro e w' ⟨rfl, hb⟩); (try replace hb := below_undrew hb); (try replace hb := below_undrewN hb); obtain ⟨hcell, hfroz⟩ := bcell hb; have hz := hb.size; (try simp at hz); (try (have z6 := Nat.lt_of_lt_of_le z7 hz)); (try (have z7 := Nat.lt_of_lt_of_le z8 hz)); (try (have z8 := Nat.lt_of_lt_of_le z9 hz)); (try (have z9 := Nat.lt_of_lt_of_le (Nat.lt_succ_self _) hz)); (try (have z0 : w.heap.size < w'.heap.size := by omega)); (try (have z1 : w.heap.size + 1 < w'.heap.size := by omega)); (try (have z2 : w.heap.size + 1 + 1 < w'.heap.size := by omega)); (try (have z3 : w.heap.size + 1 + 1 + 1 < w'.heap.size := by omega)); (try (have y1 : w1.heap.size < w'.heap.size := by omega)); (try (have y2 : w2.heap.size < w'.heap.size := by omega)); (try (have y3 : w3.heap.size < w'.heap.size := by omega)); (try (have y4 : w4.heap.size < w'.heap.size := by omega)); (try (have y5 : w5.heap.size < w'.heap.size := by omega)); (try (have y6 : w6.heap.size < w'.heap.size := by omega)); (try (have x1 : w1.heap.size + 1 < w'.heap.size := by omega)); (try (have x2 : w2.heap.size + 1 < w'.heap.size := by omega)); (try (have x3 : w3.heap.size + 1 < w'.heap.size := by omega)); (try (have x4 : w4.heap.size + 1 < w'.heap.size := by omega)); (try (have x5 : w5.heap.size + 1 < w'.heap.size := by omega)); (try (have x6 : w6.heap.size + 1 < w'.heap.size := by omega)); (try (have y7 : w7.heap.size < w'.heap.size := by omega)); (try (have y8 : w8.heap.size < w'.heap.size := by omega)); (try (have y9 : w9.heap.size < w'.heap.size := by omega)); (try (have z10 : w1.heap.size < w'.heap.size + 1 := by omega)); (try (have z20 : w2.heap.size < w'.heap.size + 1 := by omega)); (try (have z30 : w3.heap.size < w'.heap.size + 1 := by omega)); (try (have z40 : w4.heap.size < w'.heap.size + 1 := by omega)); (try (have z50 : w5.heap.size < w'.heap.size + 1 := by omega)); (try (have z60 : w6.heap.size < w'.heap.size + 1 := by omega)); (try (have z70 : w7.heap.size < w'.heap.size + 1 := by omega)); (try (have z80 : w8.heap.size < w'.heap.size + 1 := by omega)); obtain ⟨w2, rfl⟩ : ∃ v, v = w' := ⟨_, rfl⟩) | (go_at_call 36; ((with_reducible refine (AT0.out _).mono ?_); rintro e w' ⟨rfl, hb⟩); (try replace hb := below_undrew hb); (try replace hb := below_undrewN hb); obtain ⟨hcell, hfroz⟩ := bcell hb; have hz := hb.size; (try simp at hz); (try (have z6 := Nat.lt_of_lt_of_le z7 hz)); (try (have z7 := Nat.lt_of_lt_of_le z8 hz)); (try (have z8 := Nat.lt_of_lt_of_le z9 hz)); (try (have z9 := Nat.lt_of_lt_of_le (Nat.lt_succ_self _) hz)); (try (have z0 : w.heap.size < w'.heap.size := by omega)); (try (have z1 : w.heap.size + 1 < w'.heap.size := by omega)); (try (have z2 : w.heap.size + 1 + 1 < w'.heap.size := by omega)); (try (have z3 : w.heap.size + 1 + 1 + 1 < w'.heap.size := by omega)); (try (have y1 : w1.heap.size < w'.heap.size := by omega)); (try (have y2 : w2.heap.size < w'.heap.size := by omega)); (try (have y3 : w3.heap.size < w'.heap.size := by omega)); (try (have y4 : w4.heap.size < w'.heap.size := by omega)); (try (have y5 : w5.heap.size < w'.heap.size := by omega)); (try (have y6 : w6.heap.size < w'.heap.size := by omega)); (try (have x1 : w1.heap.size + 1 < w'.heap.size := by omega)); (try (have x2 : w2.heap.size + 1 < w'.heap.size := by omega)); (try (have x3 : w3.heap.size + 1 < w'.heap.size := by omega)); (try (have x4 : w4.heap.size + 1 < w'.heap.size := by omega)); (try (have x5 : w5.heap.size + 1 < w'.heap.size := by omega)); (try (have x6 : w6.heap.size + 1 < w'.heap.size := by omega)); (try (have y7 : w7.heap.size < w'.heap.size := by omega)); (try (have y8 : w8.heap.size < w'.heap.size := by omega)); (try (have y9 : w9.heap.size < w'.heap.size := by omega)); (try (have z10 : w1.heap.size < w'.heap.size + 1 := by omega)); (try (have z20 : w2.heap.size < w'.heap.size + 1 := by omega)); (try (have z30 : w3.heap.size < w'.heap.size + 1 := by omega)); (try (have z40 : w4.heap.size < w'.heap.size + 1 := by omega)); (try (have z50 : w5.heap.size < w'.heap.size + 1 := by omega)); (try (have z60 : w6.heap.size < w'.heap.size + 1 := by omega)); (try (have z70 : w7.heap.size < w'.heap.size + 1 := by omega)); (try (have z80 : w8.heap.size < w'.heap.size + 1 := by omega)); obtain ⟨w3, rfl⟩ : ∃ v, v = w' := ⟨_, rfl⟩))
  clear pc0 pc1 pc2 pc3 pc4 pc5 pc6 pc7 pc8 pc9 pc10 pc11 pcr0 pcr1 pok
  clear ok1 ok2
  refine name_below ?_
  intro w' hb
  (try replace hb := below_undrew hb); (try replace hb := below_undrewN hb); obtain ⟨hcell, hfroz⟩ := bcell hb; have hz := hb.size; (try simp at hz); (try (have z6 := Nat.lt_of_lt_of_le z7 hz)); (try (have z7 := Nat.lt_of_lt_of_le z8 hz)); (try (have z8 := Nat.lt_of_lt_of_le z9 hz)); (try (have z9 := Nat.lt_of_lt_of_le (Nat.lt_succ_self _) hz)); (try (have z0 : w.heap.size < w'.heap.size := by omega)); (try (have z1 : w.heap.size + 1 < w'.heap.size := by omega)); (try (have z2 : w.heap.size + 1 + 1 < w'.heap.size := by omega)); (try (have z3 : w.heap.size + 1 + 1 + 1 < w'.heap.size := by omega)); (try (have y1 : w1.heap.size < w'.heap.size := by omega)); (try (have y2 : w2.heap.size < w'.heap.size := by omega)); (try (have y3 : w3.heap.size < w'.heap.size := by omega)); (try (have y4 : w4.heap.size < w'.heap.size := by omega)); (try (have y5 : w5.heap.size < w'.heap.size := by omega)); (try (have y6 : w6.heap.size < w'.heap.size := by omega)); (try (have x1 : w1.heap.size + 1 < w'.heap.size := by omega)); (try (have x2 : w2.heap.size + 1 < w'.heap.size := by omega)); (try (have x3 : w3.heap.size + 1 < w'.heap.size := by omega)); (try (have x4 : w4.heap.size + 1 < w'.heap.size := by omega)); (try (have x5 : w5.heap.size + 1 < w'.heap.size := by omega)); (try (have x6 : w6.heap.size + 1 < w'.heap.size := by omega)); (try (have y7 : w7.heap.size < w'.heap.size := by omega)); (try (have y8 : w8.heap.size < w'.heap.size := by omega)); (try (have y9 : w9.heap.size < w'.heap.size := by omega)); (try (have z10 : w1.heap.size < w'.heap.size + 1 := by omega)); (try (have z20 : w2.heap.size < w'.heap.size + 1 := by omega)); (try (have z30 : w3.heap.size < w'.heap.size + 1 := by omega)); (try (have z40 : w4.heap.size < w'.heap.size + 1 := by omega)); (try (have z50 : w5.heap.size < w'.heap.size + 1 := by omega)); (try (have z60 : w6.heap.size < w'.heap.size + 1 := by omega)); (try (have z70 : w7.heap.size < w'.heap.size + 1 := by omega)); (try (have z80 : w8.heap.size < w'.heap.size + 1 := by omega))
  have hu : Below V0.heap.size V0 w' := by (repeat (first | exact Below.refl _ _ | refine bl_drewN ?_ | refine bl_drew ?_ | refine bl_alloc ?_ _ | refine Below.setCell ?_ (by (first | (simp; done) | (simp; omega) | omega)) _ | refine bl_step (by assumption) ?_))
  have x4 : w'.cell? ⟨V0.heap.size, 4, none⟩ = some (.int .i64 5000) := by simp [go_sem, *]
  have x5 : w'.cell? ⟨V0.heap.size, 5, none⟩ = some (.int .i64 5000) := by simp [go_sem, *]
  have z0 : w'.cell? ⟨w3.heap.size, 0, none⟩ = some (.int .i64 0) := by simp [go_sem, *]
  have z1 : w'.cell? ⟨w3.heap.size, 1, none⟩ = some (.int .i64 0) := by simp [go_sem, *]
  clear hcell hfroz hz
  obtain ⟨U1, rfl⟩ : ∃ v, v = w' := ⟨_, rfl⟩
  have hVU : Below V0.heap.size V0 U1 := bl_step hu hV
  have hownU := ownsRow_later hu hown
  have okU := okAt_later hVU ok
  refine wp_region_inv (fun a0 LL aa Q1 => ∃ (l0 l1 l2 l3 l4 l5 l6 l7 l8 l9 l10 l11 l12 l13 l14 l15 : Bool) (E1 : Nat), LL = #[l0, l1, l2, l3, l4, l5, l6, l7, l8, l9, l10, l11, l12, l13, l14, l15] ∧ aa = { a0 with tmps := (((((((((((((((a0.tmps.setIfInBounds 54 (cond l0 (.pointer (some ⟨w1.heap.size, 0, none⟩)) (undef))).setIfInBounds 55 (cond l1 (.agg #[.int .i64 0, .int .i64 0]) (undef))).setIfInBounds 56 (cond l2 (.agg #[.int .i64 0, .int .i64 0]) (undef))).setIfInBounds 57 (cond l3 (.int .i64 0) (undef))).setIfInBounds 58 (cond l4 (.int .i64 0) (undef))).setIfInBounds 59 (cond l5 (.pointer (some ⟨w1.heap.size, 0, none⟩)) (undef))).setIfInBounds 60 (cond l6 (.agg #[.int .i64 0, .int .i64 0]) (undef))).setIfInBounds 61 (cond l7 (.agg #[.int .i64 1073741824, .int .i64 1073741824]) (undef))).setIfInBounds 62 (cond l8 (.int .i64 1073741824) (undef))).setIfInBounds 63 (cond l9 (.int .i64 8192) (undef))).setIfInBounds 64 (cond l10 (.pointer (some ⟨V0.heap.size, 4, none⟩)) (undef))).setIfInBounds 65 (cond l11 (.agg #[.int .i64 5000, .int .i64 5000]) (undef))).setIfInBounds 66 (cond l12 (.int .i64 5000) (undef))).setIfInBounds 67 (cond l13 (.agg #[.int .i64 0, .int .i64 8192, .int .i64 5000]) (undef))).setIfInBounds 16 (cond l14 (.pointer (some ⟨E1, 0, none⟩)) (undef))) } ∧ Below U1.heap.size U1 Q1 ∧ (l15 = true → l14 = true) ∧ (l14 = true → Room3 U1 Q1 E1 l15 (0) (8192) (5000))) (by kernel_rfl) (by kernel_rfl) ?h0 ?hsize ?hdone ?hstep
  case h0 =>
    refine ⟨false, false, false, false, false, false, false, false, false, false, false, false, false, false, false, false, 0, rfl, ?_, by (repeat (first | exact Below.refl _ _ | refine bl_drewN ?_ | refine bl_drew ?_ | refine bl_alloc ?_ _ | refine Below.setCell ?_ (by (first | (simp; done) | (simp; omega) | omega)) _ | refine bl_step (by assumption) ?_)), (fun h => by cases h), (fun h => by cases h)⟩
    simp only [cond_false, List.setIfInBounds_toArray, List.set_cons_zero, List.set_cons_succ]
  case hsize =>
    intro LL aa Q1 h
    obtain ⟨l0, l1, l2, l3, l4, l5, l6, l7, l8, l9, l10, l11, l12, l13, l14, l15, E1, hL, _⟩ := h
    rw [hL]
    rfl
  case hstep =>
    intro LL aa Q1 h
    obtain ⟨l0, l1, l2, l3, l4, l5, l6, l7, l8, l9, l10, l11, l12, l13, l14, l15, E1, hL, ha, hb0, hq, hr⟩ := h
    simp only [List.setIfInBounds_toArray, List.set_cons_zero, List.set_cons_succ] at ha
    subst hL
    subst ha
    refine ⟨?s0, ?s1, ?s2, ?s3, ?s4, ?s5, ?s6, ?s7, ?s8, ?s9, ?s10, ?s11, ?s12, ?s13, ?s14, ?s15, trivial⟩
    case s0 =>
      intro ff gg KK hK
      have f0 : l0 = false := ff
      clear ff gg
      subst f0
      simp only [cond_false]
      go_simp
      exact hK _ _ ⟨true, l1, l2, l3, l4, l5, l6, l7, l8, l9, l10, l11, l12, l13, l14, l15, E1, rfl, (by simp only [cond_true, List.setIfInBounds_toArray, List.set_cons_zero, List.set_cons_succ]), hb0, hq, hr⟩
    case s1 =>
      intro ff gg KK hK
      have f0 : l1 = false := ff
      clear ff gg
      subst f0
      simp only [cond_false]
      have j0 := cell_later hb0 z0
      have j1 := cell_later hb0 z1
      go_simp
      exact hK _ _ ⟨l0, true, l2, l3, l4, l5, l6, l7, l8, l9, l10, l11, l12, l13, l14, l15, E1, rfl, (by simp only [cond_true, List.setIfInBounds_toArray, List.set_cons_zero, List.set_cons_succ]), hb0, hq, hr⟩
    case s2 =>
      intro ff gg KK hK
      have t0 : l0 = true := gg ⟨0, .data⟩ (by simp) (by rfl)
      have t1 : l1 = true := gg ⟨1, .data⟩ (by simp) (by rfl)
      have f0 : l2 = false := ff
      clear ff gg
      subst t0 t1
      subst f0
      simp only [cond_true, cond_false]
      go_simp
      go_at_call 34
      with_reducible refine (S1.out _ _ (okAt_later hb0 okU)).mono ?_
      rintro e w' ⟨rfl, hb⟩
      exact hK _ _ ⟨true, true, true, l3, l4, l5, l6, l7, l8, l9, l10, l11, l12, l13, l14, l15, E1, rfl, (by simp only [cond_true, List.setIfInBounds_toArray, List.set_cons_zero, List.set_cons_succ]), bl_step hb hb0, hq, (fun t => (hr t).later hb)⟩
    case s3 =>
      intro ff gg KK hK
      have t2 : l2 = true := gg ⟨2, .data⟩ (by simp) (by rfl)
      have f0 : l3 = false := ff
      clear ff gg
      subst t2
      subst f0
      simp only [cond_true, cond_false]
      go_simp
      exact hK _ _ ⟨l0, l1, true, true, l4, l5, l6, l7, l8, l9, l10, l11, l12, l13, l14, l15, E1, rfl, (by simp only [Act.put, cond_true, List.setIfInBounds_toArray, List.set_cons_zero, List.set_cons_succ, List.getElem_toArray, List.getElem_cons_zero]), hb0, hq, hr⟩
    case s4 =>
      intro ff gg KK hK
      have t3 : l3 = true := gg ⟨3, .data⟩ (by simp) (by rfl)
      have f0 : l4 = false := ff
      clear ff gg
      subst t3
      subst f0
      simp only [cond_true, cond_false]
      go_simp
      go_at_call 40
      (first | (with_reducible refine (F0.out _).mono ?_))
      rintro e w' ⟨rfl, hb⟩
      exact hK _ _ ⟨l0, l1, l2, true, true, l5, l6, l7, l8, l9, l10, l11, l12, l13, l14, l15, E1, rfl, (by simp only [cond_true, List.setIfInBounds_toArray, List.set_cons_zero, List.set_cons_succ]), bl_step hb hb0, hq, (fun t => (hr t).later hb)⟩
    case s5 =>
      intro ff gg KK hK
      have f0 : l5 = false := ff
      clear ff gg
      subst f0
      simp only [cond_false]
      go_simp
      exact hK _ _ ⟨l0, l1, l2, l3, l4, true, l6, l7, l8, l9, l10, l11, l12, l13, l14, l15, E1, rfl, (by simp only [cond_true, List.setIfInBounds_toArray, List.set_cons_zero, List.set_cons_succ]), hb0, hq, hr⟩
    case s6 =>
      intro ff gg KK hK
      have f0 : l6 = false := ff
      clear ff gg
      subst f0
      simp only [cond_false]
      have j0 := cell_later hb0 z0
      have j1 := cell_later hb0 z1
      go_simp
      exact hK _ _ ⟨l0, l1, l2, l3, l4, l5, true, l7, l8, l9, l10, l11, l12, l13, l14, l15, E1, rfl, (by simp only [cond_true, List.setIfInBounds_toArray, List.set_cons_zero, List.set_cons_succ]), hb0, hq, hr⟩
    case s7 =>
      intro ff gg KK hK
      have t5 : l5 = true := gg ⟨5, .data⟩ (by simp) (by rfl)
      have t6 : l6 = true := gg ⟨6, .data⟩ (by simp) (by rfl)
      have t4 : l4 = true := gg ⟨4, .chain⟩ (by simp) (by rfl)
      have f0 : l7 = false := ff
      clear ff gg
      subst t5 t6 t4
      subst f0
      simp only [cond_true, cond_false]
      go_simp
      go_at_call 30
      with_reducible refine (C1.out _ _ (okAt_later hb0 okU)).mono ?_
      rintro e w' ⟨rfl, hb⟩
      exact hK _ _ ⟨l0, l1, l2, l3, true, true, true, true, l8, l9, l10, l11, l12, l13, l14, l15, E1, rfl, (by simp only [cond_true, List.setIfInBounds_toArray, List.set_cons_zero, List.set_cons_succ]), bl_step hb hb0, hq, (fun t => (hr t).later hb)⟩
    case s8 =>
      intro ff gg KK hK
      have t7 : l7 = true := gg ⟨7, .data⟩ (by simp) (by rfl)
      have f0 : l8 = false := ff
      clear ff gg
      subst t7
      subst f0
      simp only [cond_true, cond_false]
      go_simp
      exact hK _ _ ⟨l0, l1, l2, l3, l4, l5, l6, true, true, l9, l10, l11, l12, l13, l14, l15, E1, rfl, (by simp only [Act.put, cond_true, List.setIfInBounds_toArray, List.set_cons_zero, List.set_cons_succ, List.getElem_toArray, List.getElem_cons_zero]), hb0, hq, hr⟩
    case s9 =>
      intro ff gg KK hK
      have t8 : l8 = true := gg ⟨8, .data⟩ (by simp) (by rfl)
      have f0 : l9 = false := ff
      clear ff gg
      subst t8
      subst f0
      simp only [cond_true, cond_false]
      go_simp
      go_at_call 40
      (first | (with_reducible refine (FT.out _).mono ?_))
      rintro e w' ⟨rfl, hb⟩
      exact hK _ _ ⟨l0, l1, l2, l3, l4, l5, l6, l7, true, true, l10, l11, l12, l13, l14, l15, E1, rfl, (by simp only [cond_true, List.setIfInBounds_toArray, List.set_cons_zero, List.set_cons_succ]), bl_step hb hb0, hq, (fun t => (hr t).later hb)⟩
    case s10 =>
      intro ff gg KK hK
      have f0 : l10 = false := ff
      clear ff gg
      subst f0
      simp only [cond_false]
      go_simp
      exact hK _ _ ⟨l0, l1, l2, l3, l4, l5, l6, l7, l8, l9, true, l11, l12, l13, l14, l15, E1, rfl, (by simp only [cond_true, List.setIfInBounds_toArray, List.set_cons_zero, List.set_cons_succ]), hb0, hq, hr⟩
    case s11 =>
      intro ff gg KK hK
      have t10 : l10 = true := gg ⟨10, .data⟩ (by simp) (by rfl)
      have f0 : l11 = false := ff
      clear ff gg
      subst t10
      subst f0
      simp only [cond_true, cond_false]
      have j0 := cell_later hb0 x4
      have j1 := cell_later hb0 x5
      go_simp
      exact hK _ _ ⟨l0, l1, l2, l3, l4, l5, l6, l7, l8, l9, true, true, l12, l13, l14, l15, E1, rfl, (by simp only [cond_true, List.setIfInBounds_toArray, List.set_cons_zero, List.set_cons_succ]), hb0, hq, hr⟩
    case s12 =>
      intro ff gg KK hK
      have t11 : l11 = true := gg ⟨11, .data⟩ (by simp) (by rfl)
      have t9 : l9 = true := gg ⟨9, .chain⟩ (by simp) (by rfl)
      have f0 : l12 = false := ff
      clear ff gg
      subst t11 t9
      subst f0
      simp only [cond_true, cond_false]
      go_simp
      go_at_call 39
      (first | (with_reducible refine (MP1.out _).mono ?_))
      rintro e w' ⟨rfl, hb⟩
      exact hK _ _ ⟨l0, l1, l2, l3, l4, l5, l6, l7, l8, true, l10, true, true, l13, l14, l15, E1, rfl, (by simp only [cond_true, List.setIfInBounds_toArray, List.set_cons_zero, List.set_cons_succ]), bl_step hb hb0, hq, (fun t => (hr t).later hb)⟩
    case s13 =>
      intro ff gg KK hK
      have t4 : l4 = true := gg ⟨4, .data⟩ (by simp) (by rfl)
      have t9 : l9 = true := gg ⟨9, .data⟩ (by simp) (by rfl)
      have t12 : l12 = true := gg ⟨12, .data⟩ (by simp) (by rfl)
      have f0 : l13 = false := ff
      clear ff gg
      subst t4 t9 t12
      subst f0
      simp only [cond_true, cond_false]
      go_simp
      exact hK _ _ ⟨l0, l1, l2, l3, true, l5, l6, l7, l8, true, l10, l11, true, true, l14, l15, E1, rfl, (by simp only [cond_true, List.setIfInBounds_toArray, List.set_cons_zero, List.set_cons_succ]), hb0, hq, hr⟩
    case s14 =>
      intro ff gg KK hK
      have f0 : l14 = false := ff
      clear ff gg
      subst f0
      simp only [cond_false]
      go_simp
      exact hK _ _ ⟨l0, l1, l2, l3, l4, l5, l6, l7, l8, l9, l10, l11, l12, l13, true, l15, Q1.heap.size, rfl, (by simp only [cond_true, List.setIfInBounds_toArray, List.set_cons_zero, List.set_cons_succ]), by (repeat (first | exact Below.refl _ _ | refine bl_drewN ?_ | refine bl_drew ?_ | refine bl_alloc ?_ _ | refine Below.setCell ?_ (by (first | (simp; done) | (simp; omega) | omega)) _ | refine bl_step (by assumption) ?_)), (fun _ => rfl), (fun _ => Room3.alloc hb0 _ _ _ _ _ _ _ _ hq)⟩
    case s15 =>
      intro ff gg KK hK
      have t14 : l14 = true := gg ⟨14, .data⟩ (by simp) (by rfl)
      have t13 : l13 = true := gg ⟨13, .data⟩ (by simp) (by rfl)
      have f0 : l15 = false := ff
      clear ff gg
      subst t14 t13
      subst f0
      simp only [cond_true]
      have rr := hr rfl
      obtain ⟨m1, m2, fz0, fz1, fz2, y0, y1, y2, cz0, cz1, cz2, m7⟩ := rr
      go_simp
      exact hK _ _ ⟨l0, l1, l2, l3, l4, l5, l6, l7, l8, l9, l10, l11, l12, true, true, true, E1, rfl, (by simp only [cond_true, List.setIfInBounds_toArray, List.set_cons_zero, List.set_cons_succ]), (((hb0.setCell m1 _).setCell m1 _).setCell m1 _), (fun _ => rfl), (fun _ => (hr rfl).store _ _ _ _)⟩
  case hdone =>
    intro LL aa Q1 h hd
    obtain ⟨l0, l1, l2, l3, l4, l5, l6, l7, l8, l9, l10, l11, l12, l13, l14, l15, E1, hL, ha, hb0, hq, hr⟩ := h
    rw [hL] at hd
    have t0 : l0 = true := hd 0 (by decide)
    have t1 : l1 = true := hd 1 (by decide)
    have t2 : l2 = true := hd 2 (by decide)
    have t3 : l3 = true := hd 3 (by decide)
    have t4 : l4 = true := hd 4 (by decide)
    have t5 : l5 = true := hd 5 (by decide)
    have t6 : l6 = true := hd 6 (by decide)
    have t7 : l7 = true := hd 7 (by decide)
    have t8 : l8 = true := hd 8 (by decide)
    have t9 : l9 = true := hd 9 (by decide)
    have t10 : l10 = true := hd 10 (by decide)
    have t11 : l11 = true := hd 11 (by decide)
    have t12 : l12 = true := hd 12 (by decide)
    have t13 : l13 = true := hd 13 (by decide)
    have t14 : l14 = true := hd 14 (by decide)
    have t15 : l15 = true := hd 15 (by decide)
    clear hd hL hq
    subst t0 t1 t2 t3 t4 t5 t6 t7 t8 t9 t10 t11 t12 t13 t14 t15
    simp only [cond_true, List.setIfInBounds_toArray, List.set_cons_zero, List.set_cons_succ] at ha
    subst ha
    obtain ⟨E1g, E1l, _, _, _, y0, y1, y2, E1c0, E1c1, E1c2, hy⟩ := hr rfl
    obtain ⟨rfl, rfl, rfl⟩ := hy rfl
    clear hr
    have hVQ : Below V0.heap.size V0 Q1 := bl_step hb0 hVU
    have hownQ := ownsRow_later hb0 hownU
    have hb14 : V0.heap.size ≤ Q1.heap.size := hVQ.size
    have hne : ∀ k, (.slice none 0 0 : Value).ownBlock = some k → k < V0.heap.size := fun k hk => (hown.lt k hk).2
    have hEU : V0.heap.size ≤ U1.heap.size := hu.size
    go_wp2_with (at_builtin; refine wpList_append_own_at _ rfl _ _ 73 rfl V0.heap.size 77 i0 (.agg #[.int .i64 0, .int .i64 0, .int .i64 0]) 3 24 Try.underlying73 hi hz0 hz1 hz2 rfl (by decide) _ 0 [] rfl (hownQ.alloc _) ⟨Q1.heap.size, 0, none⟩ 1 1 [.int .i64 0, .int .i64 8192, .int .i64 5000] rfl rfl (news3 _ _ _ _ _) (one3 _ _ _) (by decide) (by decide) (by simp; omega) ?_; intro rv1 w' hown1 hg hnil hob)
    have hg2 : (Q1.alloc (Obj.cells #[.int .i64 0, .int .i64 8192, .int .i64 5000] 77)).grownBy w' (.slice none 0 0 : Value).ownBlock := hg
    clear hg hnil hob
    have hVA : Below V0.heap.size V0 w' := Below.grown (w := (Q1.alloc (Obj.cells #[.int .i64 0, .int .i64 8192, .int .i64 5000] 77))) (by (repeat (first | exact Below.refl _ _ | refine bl_drewN ?_ | refine bl_drew ?_ | refine bl_alloc ?_ _ | refine Below.setCell ?_ (by (first | (simp; done) | (simp; omega) | omega)) _ | refine bl_step (by assumption) ?_))) hg2 (by simp; omega) (fun k hk => (hownU.lt k hk).1)
    have hbk : w'.heap[E1]? = (Q1.alloc (Obj.cells #[.int .i64 0, .int .i64 8192, .int .i64 5000] 77)).heap[E1]? := hg2.block E1 (by simp; omega) (fun e => by have := hne E1 e.symm; omega)
    have r0 : w'.cell? ⟨E1, 0, none⟩ = some (.int .i64 0) := (World.cell?_of_block (a := ⟨E1, 0, none⟩) hbk).trans (by simp [go_sem, *])
    have r1 : w'.cell? ⟨E1, 1, none⟩ = some (.int .i64 8192) := (World.cell?_of_block (a := ⟨E1, 1, none⟩) hbk).trans (by simp [go_sem, *])
    have r2 : w'.cell? ⟨E1, 2, none⟩ = some (.int .i64 5000) := (World.cell?_of_block (a := ⟨E1, 2, none⟩) hbk).trans (by simp [go_sem, *])
    have rl : E1 < w'.heap.size := World.block_lt_of_cell? _ _ r0
    clear hbk hne hEU hg2 hb14 E1c0 E1c1 E1c2
    go_quiet (fail)
    go_wp2
    have hb1 : Below w'.heap.size w' (w'.drewN nq) := by (repeat (first | exact Below.refl _ _ | refine bl_drewN ?_ | refine bl_drew ?_ | refine bl_alloc ?_ _ | refine Below.setCell ?_ (by (first | (simp; done) | (simp; omega) | omega)) _ | refine bl_step (by assumption) ?_))
    generalize w'.drewN nq = V1 at *
    replace hV := bl_step hb1 hVA
    replace hown := ownsRow_later hb1 hown1
    clear hb1 hVA hown1 r0 r1 r2 rl x4 x5 z0 z1 hu hVU hownU okU hVQ hownQ hb0 E1g E1l
    rw [rounds_succ]
    have pc0 := cell_later hV c0
    have pc1 := cell_later hV c1
    have pc2 := cell_later hV c2
    have pc3 := cell_later hV c3
    have pc4 := cell_later hV c4
    have pc5 := cell_later hV c5
    have pc6 := cell_later hV c6
    have pc7 := cell_later hV c7
    have pc8 := cell_later hV c8
    have pc9 := cell_later hV c9
    have pc10 := cell_later hV c10
    have pc11 := cell_later hV c11
    have pcr0 := cell_later hV cr0
    have pcr1 := cell_later hV cr1
    have pok := okAt_later hV ok
    obtain ⟨ok1, ok2⟩ := id pok
    go_wp2_with (first | (go_at_call 39; ((with_reducible refine (MZ2.out _).mono ?_); rintro e w' ⟨rfl, hb⟩); (try replace hb := below_undrew hb); (try replace hb := below_undrewN hb); obtain ⟨hcell, hfroz⟩ := bcell hb; have hz := hb.size; (try simp at hz); (try (have z6 := Nat.lt_of_lt_of_le z7 hz)); (try (have z7 := Nat.lt_of_lt_of_le z8 hz)); (try (have z8 := Nat.lt_of_lt_of_le z9 hz)); (try (have z9 := Nat.lt_of_lt_of_le (Nat.lt_succ_self _) hz)); (try (have z0 : w.heap.size < w'.heap.size := by omega)); (try (have z1 : w.heap.size + 1 < w'.heap.size := by omega)); (try (have z2 : w.heap.size + 1 + 1 < w'.heap.size := by omega)); (try (have z3 : w.heap.size + 1 + 1 + 1 < w'.heap.size := by omega)); (try (have y1 : w1.heap.size < w'.heap.size := by omega)); (try (have y2 : w2.heap.size < w'.heap.size := by omega)); (try (have y3 : w3.heap.size < w'.heap.size := by omega)); (try (have y4 : w4.heap.size < w'.heap.size := by omega)); (try (have y5 : w5.heap.size < w'.heap.size := by omega)); (try (have y6 : w6.heap.size < w'.heap.size := by omega)); (try (have x1 : w1.heap.size + 1 < w'.heap.size := by omega)); (try (have x2 : w2.heap.size + 1 < w'.heap.size := by omega)); (try (have x3 : w3.heap.size + 1 < w'.heap.size := by omega)); (try (have x4 : w4.heap.size + 1 < w'.heap.size := by omega)); (try (have x5 : w5.heap.size + 1 < w'.heap.size := by omega)); (try (have x6 : w6.heap.size + 1 < w'.heap.size := by omega)); (try (have y7 : w7.heap.size < w'.heap.size := by omega)); (try (have y8 : w8.heap.size < w'.heap.size := by omega)); (try (have y9 : w9.heap.size < w'.heap.size := by omega)); (try (have z10 : w1.heap.size < w'.heap.size + 1 := by omega)); (try (have z20 : w2.heap.size < w'.heap.size + 1 := by omega)); (try (have z30 : w3.heap.size < w'.heap.size + 1 := by omega)); (try (have z40 : w4.heap.size < w'.heap.size + 1 := by omega)); (try (have z50 : w5.heap.size < w'.heap.size + 1 := by omega)); (try (have z60 : w6.heap.size < w'.heap.size + 1 := by omega)); (try (have z70 : w7.heap.size < w'.heap.size + 1 := by omega)); (try (have z80 : w8.heap.size < w'.heap.size + 1 := by omega)); obtain ⟨w2, rfl⟩ : ∃ v, v = w' := ⟨_, rfl⟩) | (go_at_call 36; ((with_reducible refine (ATQ.out _).mono ?_); rintro e w' ⟨rfl, hb⟩); (try replace hb := below_undrew hb); (try replace hb := below_undrewN hb); obtain ⟨hcell, hfroz⟩ := bcell hb; have hz := hb.size; (try simp at hz); (try (have z6 := Nat.lt_of_lt_of_le z7 hz)); (try (have z7 := Nat.lt_of_lt_of_le z8 hz)); (try (have z8 := Nat.lt_of_lt_of_le z9 hz)); (try (have z9 := Nat.lt_of_lt_of_le (Nat.lt_succ_self _) hz)); (try (have z0 : w.heap.size < w'.heap.size := by omega)); (try (have z1 : w.heap.size + 1 < w'.heap.size := by omega)); (try (have z2 : w.heap.size + 1 + 1 < w'.heap.size := by omega)); (try (have z3 : w.heap.size + 1 + 1 + 1 < w'.heap.size := by omega)); (try (have y1 : w1.heap.size < w'.heap.size := by omega)); (try (have y2 : w2.heap.size < w'.heap.size := by omega)); (try (have y3 : w3.heap.size < w'.heap.size := by omega)); (try (have y4 : w4.heap.size < w'.heap.size := by omega)); (try (have y5 : w5.heap.size < w'.heap.size := by omega)); (try (have y6 : w6.heap.size < w'.heap.size := by omega)); (try (have x1 : w1.heap.size + 1 < w'.heap.size := by omega)); (try (have x2 : w2.heap.size + 1 < w'.heap.size := by omega)); (try (have x3 : w3.heap.size + 1 < w'.heap.size := by omega)); (try (have x4 : w4.heap.size + 1 < w'.heap.size := by omega)); (try (have x5 : w5.heap.size + 1 < w'.heap.size := by omega)); (try (have x6 : w6.heap.size + 1 < w'.heap.size := by omega)); (try (have y7 : w7.heap.size < w'.heap.size := by omega)); (try (have y8 : w8.heap.size < w'.heap.size := by omega)); (try (have y9 : w9.heap.size < w'.heap.size := by omega)); (try (have z10 : w1.heap.size < w'.heap.size + 1 := by omega)); (try (have z20 : w2.heap.size < w'.heap.size + 1 := by omega)); (try (have z30 : w3.heap.size < w'.heap.size + 1 := by omega)); (try (have z40 : w4.heap.size < w'.heap.size + 1 := by omega)); (try (have z50 : w5.heap.size < w'.heap.size + 1 := by omega)); (try (have z60 : w6.heap.size < w'.heap.size + 1 := by omega)); (try (have z70 : w7.heap.size < w'.heap.size + 1 := by omega)); (try (have z80 : w8.heap.size < w'.heap.size + 1 := by omega)); obtain ⟨w3, rfl⟩ : ∃ v, v = w' := ⟨_, rfl⟩))
    clear pc0 pc1 pc2 pc3 pc4 pc5 pc6 pc7 pc8 pc9 pc10 pc11 pcr0 pcr1 pok
    clear ok1 ok2
    refine name_below ?_
    intro w' hb
    (try replace hb := below_undrew hb); (try replace hb := below_undrewN hb); obtain ⟨hcell, hfroz⟩ := bcell hb; have hz := hb.size; (try simp at hz); (try (have z6 := Nat.lt_of_lt_of_le z7 hz)); (try (have z7 := Nat.lt_of_lt_of_le z8 hz)); (try (have z8 := Nat.lt_of_lt_of_le z9 hz)); (try (have z9 := Nat.lt_of_lt_of_le (Nat.lt_succ_self _) hz)); (try (have z0 : w.heap.size < w'.heap.size := by omega)); (try (have z1 : w.heap.size + 1 < w'.heap.size := by omega)); (try (have z2 : w.heap.size + 1 + 1 < w'.heap.size := by omega)); (try (have z3 : w.heap.size + 1 + 1 + 1 < w'.heap.size := by omega)); (try (have y1 : w1.heap.size < w'.heap.size := by omega)); (try (have y2 : w2.heap.size < w'.heap.size := by omega)); (try (have y3 : w3.heap.size < w'.heap.size := by omega)); (try (have y4 : w4.heap.size < w'.heap.size := by omega)); (try (have y5 : w5.heap.size < w'.heap.size := by omega)); (try (have y6 : w6.heap.size < w'.heap.size := by omega)); (try (have x1 : w1.heap.size + 1 < w'.heap.size := by omega)); (try (have x2 : w2.heap.size + 1 < w'.heap.size := by omega)); (try (have x3 : w3.heap.size + 1 < w'.heap.size := by omega)); (try (have x4 : w4.heap.size + 1 < w'.heap.size := by omega)); (try (have x5 : w5.heap.size + 1 < w'.heap.size := by omega)); (try (have x6 : w6.heap.size + 1 < w'.heap.size := by omega)); (try (have y7 : w7.heap.size < w'.heap.size := by omega)); (try (have y8 : w8.heap.size < w'.heap.size := by omega)); (try (have y9 : w9.heap.size < w'.heap.size := by omega)); (try (have z10 : w1.heap.size < w'.heap.size + 1 := by omega)); (try (have z20 : w2.heap.size < w'.heap.size + 1 := by omega)); (try (have z30 : w3.heap.size < w'.heap.size + 1 := by omega)); (try (have z40 : w4.heap.size < w'.heap.size + 1 := by omega)); (try (have z50 : w5.heap.size < w'.heap.size + 1 := by omega)); (try (have z60 : w6.heap.size < w'.heap.size + 1 := by omega)); (try (have z70 : w7.heap.size < w'.heap.size + 1 := by omega)); (try (have z80 : w8.heap.size < w'.heap.size + 1 := by omega))
    have hu : Below V1.heap.size V1 w' := by (repeat (first | exact Below.refl _ _ | refine bl_drewN ?_ | refine bl_drew ?_ | refine bl_alloc ?_ _ | refine Below.setCell ?_ (by (first | (simp; done) | (simp; omega) | omega)) _ | refine bl_step (by assumption) ?_))
    have x4 : w'.cell? ⟨V1.heap.size, 4, none⟩ = some (.int .i64 3000) := by simp [go_sem, *]
    have x5 : w'.cell? ⟨V1.heap.size, 5, none⟩ = some (.int .i64 3000) := by simp [go_sem, *]
    have z0 : w'.cell? ⟨w3.heap.size, 0, none⟩ = some (.int .i64 5400000) := by simp [go_sem, *]
    have z1 : w'.cell? ⟨w3.heap.size, 1, none⟩ = some (.int .i64 5400000) := by simp [go_sem, *]
    clear hcell hfroz hz
    obtain ⟨U2, rfl⟩ : ∃ v, v = w' := ⟨_, rfl⟩
    have hVU : Below V0.heap.size V0 U2 := bl_step hu hV
    have hownU := ownsRow_later hu hown
    have okU := okAt_later hVU ok
    refine wp_region_inv (fun a0 LL aa Q2 => ∃ (l0 l1 l2 l3 l4 l5 l6 l7 l8 l9 l10 l11 l12 l13 l14 l15 : Bool) (E2 : Nat), LL = #[l0, l1, l2, l3, l4, l5, l6, l7, l8, l9, l10, l11, l12, l13, l14, l15] ∧ aa = { a0 with tmps := (((((((((((((((a0.tmps.setIfInBounds 54 (.pointer (some ⟨w1.heap.size, 0, none⟩))).setIfInBounds 55 (cond l1 (.agg #[.int .i64 5400000, .int .i64 5400000]) (.agg #[.int .i64 0, .int .i64 0]))).setIfInBounds 56 (cond l2 (.agg #[.int .i64 1073741824, .int .i64 1073741824]) (.agg #[.int .i64 0, .int .i64 0]))).setIfInBounds 57 (cond l3 (.int .i64 1073741824) (.int .i64 0))).setIfInBounds 58 (cond l4 (.int .i64 8192) (.int .i64 0))).setIfInBounds 59 (.pointer (some ⟨w1.heap.size, 0, none⟩))).setIfInBounds 60 (cond l6 (.agg #[.int .i64 5400000, .int .i64 5400000]) (.agg #[.int .i64 0, .int .i64 0]))).setIfInBounds 61 (cond l7 (.agg #[.int .i64 0, .int .i64 0]) (.agg #[.int .i64 1073741824, .int .i64 1073741824]))).setIfInBounds 62 (cond l8 (.int .i64 0) (.int .i64 1073741824))).setIfInBounds 63 (cond l9 (.int .i64 0) (.int .i64 8192))).setIfInBounds 64 (cond l10 (.pointer (some ⟨V1.heap.size, 4, none⟩)) (.pointer (some ⟨V0.heap.size, 4, none⟩)))).setIfInBounds 65 (cond l11 (.agg #[.int .i64 3000, .int .i64 3000]) (.agg #[.int .i64 5000, .int .i64 5000]))).setIfInBounds 66 (cond l12 (.int .i64 3000) (.int .i64 5000))).setIfInBounds 67 (cond l13 (.agg #[.int .i64 8192, .int .i64 0, .int .i64 3000]) (.agg #[.int .i64 0, .int .i64 8192, .int .i64 5000]))).setIfInBounds 16 (cond l14 (.pointer (some ⟨E2, 0, none⟩)) (.pointer (some ⟨E1, 0, none⟩)))) } ∧ Below U2.heap.size U2 Q2 ∧ (l15 = true → l14 = true) ∧ (l14 = true → Room3 U2 Q2 E2 l15 (8192) (0) (3000))) (by kernel_rfl) (by kernel_rfl) ?h0 ?hsize ?hdone ?hstep
    case h0 =>
      refine ⟨false, false, false, false, false, false, false, false, false, false, false, false, false, false, false, false, 0, rfl, ?_, by (repeat (first | exact Below.refl _ _ | refine bl_drewN ?_ | refine bl_drew ?_ | refine bl_alloc ?_ _ | refine Below.setCell ?_ (by (first | (simp; done) | (simp; omega) | omega)) _ | refine bl_step (by assumption) ?_)), (fun h => by cases h), (fun h => by cases h)⟩
      simp only [cond_false, List.setIfInBounds_toArray, List.set_cons_zero, List.set_cons_succ]
    case hsize =>
      intro LL aa Q2 h
      obtain ⟨l0, l1, l2, l3, l4, l5, l6, l7, l8, l9, l10, l11, l12, l13, l14, l15, E2, hL, _⟩ := h
      rw [hL]
      rfl
    case hstep =>
      intro LL aa Q2 h
      obtain ⟨l0, l1, l2, l3, l4, l5, l6, l7, l8, l9, l10, l11, l12, l13, l14, l15, E2, hL, ha, hb0, hq, hr⟩ := h
      simp only [List.setIfInBounds_toArray, List.set_cons_zero, List.set_cons_succ] at ha
      subst hL
      subst ha
      refine ⟨?s0, ?s1, ?s2, ?s3, ?s4, ?s5, ?s6, ?s7, ?s8, ?s9, ?s10, ?s11, ?s12, ?s13, ?s14, ?s15, trivial⟩
      case s0 =>
        intro ff gg KK hK
        have f0 : l0 = false := ff
        clear ff gg
        subst f0
        simp only
        go_simp
        exact hK _ _ ⟨true, l1, l2, l3, l4, l5, l6, l7, l8, l9, l10, l11, l12, l13, l14, l15, E2, rfl, (by simp only [List.setIfInBounds_toArray, List.set_cons_zero, List.set_cons_succ]), hb0, hq, hr⟩
      case s1 =>
        intro ff gg KK hK
        have f0 : l1 = false := ff
        clear ff gg
        subst f0
        simp only [cond_false]
        have j0 := cell_later hb0 z0
        have j1 := cell_later hb0 z1
        go_simp
        exact hK _ _ ⟨l0, true, l2, l3, l4, l5, l6, l7, l8, l9, l10, l11, l12, l13, l14, l15, E2, rfl, (by simp only [cond_true, List.setIfInBounds_toArray, List.set_cons_zero, List.set_cons_succ]), hb0, hq, hr⟩
      case s2 =>
        intro ff gg KK hK
        have t0 : l0 = true := gg ⟨0, .data⟩ (by simp) (by rfl)
        have t1 : l1 = true := gg ⟨1, .data⟩ (by simp) (by rfl)
        have f0 : l2 = false := ff
        clear ff gg
        subst t0 t1
        subst f0
        simp only [cond_true, cond_false]
        go_simp
        go_at_call 34
        with_reducible refine (S2.out _ _ (okAt_later hb0 okU)).mono ?_
        rintro e w' ⟨rfl, hb⟩
        exact hK _ _ ⟨true, true, true, l3, l4, l5, l6, l7, l8, l9, l10, l11, l12, l13, l14, l15, E2, rfl, (by simp only [cond_true, List.setIfInBounds_toArray, List.set_cons_zero, List.set_cons_succ]), bl_step hb hb0, hq, (fun t => (hr t).later hb)⟩
      case s3 =>
        intro ff gg KK hK
        have t2 : l2 = true := gg ⟨2, .data⟩ (by simp) (by rfl)
        have f0 : l3 = false := ff
        clear ff gg
        subst t2
        subst f0
        simp only [cond_true, cond_false]
        go_simp
        exact hK _ _ ⟨l0, l1, true, true, l4, l5, l6, l7, l8, l9, l10, l11, l12, l13, l14, l15, E2, rfl, (by simp only [Act.put, cond_true, List.setIfInBounds_toArray, List.set_cons_zero, List.set_cons_succ, List.getElem_toArray, List.getElem_cons_zero]), hb0, hq, hr⟩
      case s4 =>
        intro ff gg KK hK
        have t3 : l3 = true := gg ⟨3, .data⟩ (by simp) (by rfl)
        have f0 : l4 = false := ff
        clear ff gg
        subst t3
        subst f0
        simp only [cond_true, cond_false]
        go_simp
        go_at_call 40
        (first | (with_reducible refine (FT.out _).mono ?_))
        rintro e w' ⟨rfl, hb⟩
        exact hK _ _ ⟨l0, l1, l2, true, true, l5, l6, l7, l8, l9, l10, l11, l12, l13, l14, l15, E2, rfl, (by simp only [cond_true, List.setIfInBounds_toArray, List.set_cons_zero, List.set_cons_succ]), bl_step hb hb0, hq, (fun t => (hr t).later hb)⟩
      case s5 =>
        intro ff gg KK hK
        have f0 : l5 = false := ff
        clear ff gg
        subst f0
        simp only
        go_simp
        exact hK _ _ ⟨l0, l1, l2, l3, l4, true, l6, l7, l8, l9, l10, l11, l12, l13, l14, l15, E2, rfl, (by simp only [List.setIfInBounds_toArray, List.set_cons_zero, List.set_cons_succ]), hb0, hq, hr⟩
      case s6 =>
        intro ff gg KK hK
        have f0 : l6 = false := ff
        clear ff gg
        subst f0
        simp only [cond_false]
        have j0 := cell_later hb0 z0
        have j1 := cell_later hb0 z1
        go_simp
        exact hK _ _ ⟨l0, l1, l2, l3, l4, l5, true, l7, l8, l9, l10, l11, l12, l13, l14, l15, E2, rfl, (by simp only [cond_true, List.setIfInBounds_toArray, List.set_cons_zero, List.set_cons_succ]), hb0, hq, hr⟩
      case s7 =>
        intro ff gg KK hK
        have t5 : l5 = true := gg ⟨5, .data⟩ (by simp) (by rfl)
        have t6 : l6 = true := gg ⟨6, .data⟩ (by simp) (by rfl)
        have t4 : l4 = true := gg ⟨4, .chain⟩ (by simp) (by rfl)
        have f0 : l7 = false := ff
        clear ff gg
        subst t5 t6 t4
        subst f0
        simp only [cond_true, cond_false]
        go_simp
        go_at_call 30
        with_reducible refine (C2.out _ _ (okAt_later hb0 okU)).mono ?_
        rintro e w' ⟨rfl, hb⟩
        exact hK _ _ ⟨l0, l1, l2, l3, true, true, true, true, l8, l9, l10, l11, l12, l13, l14, l15, E2, rfl, (by simp only [cond_true, List.setIfInBounds_toArray, List.set_cons_zero, List.set_cons_succ]), bl_step hb hb0, hq, (fun t => (hr t).later hb)⟩
      case s8 =>
        intro ff gg KK hK
        have t7 : l7 = true := gg ⟨7, .data⟩ (by simp) (by rfl)
        have f0 : l8 = false := ff
        clear ff gg
        subst t7
        subst f0
        simp only [cond_true, cond_false]
        go_simp
        exact hK _ _ ⟨l0, l1, l2, l3, l4, l5, l6, true, true, l9, l10, l11, l12, l13, l14, l15, E2, rfl, (by simp only [Act.put, cond_true, List.setIfInBounds_toArray, List.set_cons_zero, List.set_cons_succ, List.getElem_toArray, List.getElem_cons_zero]), hb0, hq, hr⟩
      case s9 =>
        intro ff gg KK hK
        have t8 : l8 = true := gg ⟨8, .data⟩ (by simp) (by rfl)
        have f0 : l9 = false := ff
        clear ff gg
        subst t8
        subst f0
        simp only [cond_true, cond_false]
        go_simp
        go_at_call 40
        (first | (with_reducible refine (F0.out _).mono ?_))
        rintro e w' ⟨rfl, hb⟩
        exact hK _ _ ⟨l0, l1, l2, l3, l4, l5, l6, l7, true, true, l10, l11, l12, l13, l14, l15, E2, rfl, (by simp only [cond_true, List.setIfInBounds_toArray, List.set_cons_zero, List.set_cons_succ]), bl_step hb hb0, hq, (fun t => (hr t).later hb)⟩
      case s10 =>
        intro ff gg KK hK
        have f0 : l10 = false := ff
        clear ff gg
        subst f0
        simp only [cond_false]
        go_simp
        exact hK _ _ ⟨l0, l1, l2, l3, l4, l5, l6, l7, l8, l9, true, l11, l12, l13, l14, l15, E2, rfl, (by simp only [cond_true, List.setIfInBounds_toArray, List.set_cons_zero, List.set_cons_succ]), hb0, hq, hr⟩
      case s11 =>
        intro ff gg KK hK
        have t10 : l10 = true := gg ⟨10, .data⟩ (by simp) (by rfl)
        have f0 : l11 = false := ff
        clear ff gg
        subst t10
        subst f0
        simp only [cond_true, cond_false]
        have j0 := cell_later hb0 x4
        have j1 := cell_later hb0 x5
        go_simp
        exact hK _ _ ⟨l0, l1, l2, l3, l4, l5, l6, l7, l8, l9, true, true, l12, l13, l14, l15, E2, rfl, (by simp only [cond_true, List.setIfInBounds_toArray, List.set_cons_zero, List.set_cons_succ]), hb0, hq, hr⟩
      case s12 =>
        intro ff gg KK hK
        have t11 : l11 = true := gg ⟨11, .data⟩ (by simp) (by rfl)
        have t9 : l9 = true := gg ⟨9, .chain⟩ (by simp) (by rfl)
        have f0 : l12 = false := ff
        clear ff gg
        subst t11 t9
        subst f0
        simp only [cond_true, cond_false]
        go_simp
        go_at_call 39
        (first | (with_reducible refine (MP2.out _).mono ?_))
        rintro e w' ⟨rfl, hb⟩
        exact hK _ _ ⟨l0, l1, l2, l3, l4, l5, l6, l7, l8, true, l10, true, true, l13, l14, l15, E2, rfl, (by simp only [cond_true, List.setIfInBounds_toArray, List.set_cons_zero, List.set_cons_succ]), bl_step hb hb0, hq, (fun t => (hr t).later hb)⟩
      case s13 =>
        intro ff gg KK hK
        have t4 : l4 = true := gg ⟨4, .data⟩ (by simp) (by rfl)
        have t9 : l9 = true := gg ⟨9, .data⟩ (by simp) (by rfl)
        have t12 : l12 = true := gg ⟨12, .data⟩ (by simp) (by rfl)
        have f0 : l13 = false := ff
        clear ff gg
        subst t4 t9 t12
        subst f0
        simp only [cond_true, cond_false]
        go_simp
        exact hK _ _ ⟨l0, l1, l2, l3, true, l5, l6, l7, l8, true, l10, l11, true, true, l14, l15, E2, rfl, (by simp only [cond_true, List.setIfInBounds_toArray, List.set_cons_zero, List.set_cons_succ]), hb0, hq, hr⟩
      case s14 =>
        intro ff gg KK hK
        have f0 : l14 = false := ff
        clear ff gg
        subst f0
        simp only [cond_false]
        go_simp
        exact hK _ _ ⟨l0, l1, l2, l3, l4, l5, l6, l7, l8, l9, l10, l11, l12, l13, true, l15, Q2.heap.size, rfl, (by simp only [cond_true, List.setIfInBounds_toArray, List.set_cons_zero, List.set_cons_succ]), by (repeat (first | exact Below.refl _ _ | refine bl_drewN ?_ | refine bl_drew ?_ | refine bl_alloc ?_ _ | refine Below.setCell ?_ (by (first | (simp; done) | (simp; omega) | omega)) _ | refine bl_step (by assumption) ?_)), (fun _ => rfl), (fun _ => Room3.alloc hb0 _ _ _ _ _ _ _ _ hq)⟩
      case s15 =>
        intro ff gg KK hK
        have t14 : l14 = true := gg ⟨14, .data⟩ (by simp) (by rfl)
        have t13 : l13 = true := gg ⟨13, .data⟩ (by simp) (by rfl)
        have f0 : l15 = false := ff
        clear ff gg
        subst t14 t13
        subst f0
        simp only [cond_true]
        have rr := hr rfl
        obtain ⟨m1, m2, fz0, fz1, fz2, y0, y1, y2, cz0, cz1, cz2, m7⟩ := rr
        go_simp
        exact hK _ _ ⟨l0, l1, l2, l3, l4, l5, l6, l7, l8, l9, l10, l11, l12, true, true, true, E2, rfl, (by simp only [cond_true, List.setIfInBounds_toArray, List.set_cons_zero, List.set_cons_succ]), (((hb0.setCell m1 _).setCell m1 _).setCell m1 _), (fun _ => rfl), (fun _ => (hr rfl).store _ _ _ _)⟩
    case hdone =>
      intro LL aa Q2 h hd
      obtain ⟨l0, l1, l2, l3, l4, l5, l6, l7, l8, l9, l10, l11, l12, l13, l14, l15, E2, hL, ha, hb0, hq, hr⟩ := h
      rw [hL] at hd
      have t0 : l0 = true := hd 0 (by decide)
      have t1 : l1 = true := hd 1 (by decide)
      have t2 : l2 = true := hd 2 (by decide)
      have t3 : l3 = true := hd 3 (by decide)
      have t4 : l4 = true := hd 4 (by decide)
      have t5 : l5 = true := hd 5 (by decide)
      have t6 : l6 = true := hd 6 (by decide)
      have t7 : l7 = true := hd 7 (by decide)
      have t8 : l8 = true := hd 8 (by decide)
      have t9 : l9 = true := hd 9 (by decide)
      have t10 : l10 = true := hd 10 (by decide)
      have t11 : l11 = true := hd 11 (by decide)
      have t12 : l12 = true := hd 12 (by decide)
      have t13 : l13 = true := hd 13 (by decide)
      have t14 : l14 = true := hd 14 (by decide)
      have t15 : l15 = true := hd 15 (by decide)
      clear hd hL hq
      subst t0 t1 t2 t3 t4 t5 t6 t7 t8 t9 t10 t11 t12 t13 t14 t15
      simp only [cond_true, List.setIfInBounds_toArray, List.set_cons_zero, List.set_cons_succ] at ha
      subst ha
      obtain ⟨E2g, E2l, _, _, _, y0, y1, y2, E2c0, E2c1, E2c2, hy⟩ := hr rfl
      obtain ⟨rfl, rfl, rfl⟩ := hy rfl
      clear hr
      have hVQ : Below V0.heap.size V0 Q2 := bl_step hb0 hVU
      have hownQ := ownsRow_later hb0 hownU
      have hb14 : V0.heap.size ≤ Q2.heap.size := hVQ.size
      have hne : ∀ k, (rv1 : Value).ownBlock = some k → k < V1.heap.size := fun k hk => (hown.lt k hk).2
      have hEU : V1.heap.size ≤ U2.heap.size := hu.size
      go_wp2_with (at_builtin; refine wpList_append_own_at _ rfl _ _ 73 rfl V0.heap.size 77 i0 (.agg #[.int .i64 0, .int .i64 0, .int .i64 0]) 3 24 Try.underlying73 hi hz0 hz1 hz2 rfl (by decide) _ 1 [.int .i64 0, .int .i64 8192, .int .i64 5000] rfl (hownQ.alloc _) ⟨Q2.heap.size, 0, none⟩ 1 1 [.int .i64 8192, .int .i64 0, .int .i64 3000] rfl rfl (news3 _ _ _ _ _) (one3 _ _ _) (by decide) (by decide) (by simp; omega) ?_; intro rv2 w' hown1 hg hnil hob)
      have hg2 : (Q2.alloc (Obj.cells #[.int .i64 8192, .int .i64 0, .int .i64 3000] 77)).grownBy w' (rv1 : Value).ownBlock := hg
      clear hg hnil hob
      have hVA : Below V0.heap.size V0 w' := Below.grown (w := (Q2.alloc (Obj.cells #[.int .i64 8192, .int .i64 0, .int .i64 3000] 77))) (by (repeat (first | exact Below.refl _ _ | refine bl_drewN ?_ | refine bl_drew ?_ | refine bl_alloc ?_ _ | refine Below.setCell ?_ (by (first | (simp; done) | (simp; omega) | omega)) _ | refine bl_step (by assumption) ?_))) hg2 (by simp; omega) (fun k hk => (hownU.lt k hk).1)
      have hbk : w'.heap[E2]? = (Q2.alloc (Obj.cells #[.int .i64 8192, .int .i64 0, .int .i64 3000] 77)).heap[E2]? := hg2.block E2 (by simp; omega) (fun e => by have := hne E2 e.symm; omega)
      have r0 : w'.cell? ⟨E2, 0, none⟩ = some (.int .i64 8192) := (World.cell?_of_block (a := ⟨E2, 0, none⟩) hbk).trans (by simp [go_sem, *])
      have r1 : w'.cell? ⟨E2, 1, none⟩ = some (.int .i64 0) := (World.cell?_of_block (a := ⟨E2, 1, none⟩) hbk).trans (by simp [go_sem, *])
      have r2 : w'.cell? ⟨E2, 2, none⟩ = some (.int .i64 3000) := (World.cell?_of_block (a := ⟨E2, 2, none⟩) hbk).trans (by simp [go_sem, *])
      have rl : E2 < w'.heap.size := World.block_lt_of_cell? _ _ r0
      clear hbk hne hEU hg2 hb14 E2c0 E2c1 E2c2
      go_quiet (fail)
      go_wp2
      have hb1 : Below w'.heap.size w' (w'.drewN nq) := by (repeat (first | exact Below.refl _ _ | refine bl_drewN ?_ | refine bl_drew ?_ | refine bl_alloc ?_ _ | refine Below.setCell ?_ (by (first | (simp; done) | (simp; omega) | omega)) _ | refine bl_step (by assumption) ?_))
      generalize w'.drewN nq = V2 at *
      replace hV := bl_step hb1 hVA
      replace hown := ownsRow_later hb1 hown1
      clear hb1 hVA hown1 r0 r1 r2 rl x4 x5 z0 z1 hu hVU hownU okU hVQ hownQ hb0 E2g E2l
      rw [rounds_succ]
      have pc0 := cell_later hV c0
      have pc1 := cell_later hV c1
      have pc2 := cell_later hV c2
      have pc3 := cell_later hV c3
      have pc4 := cell_later hV c4
      have pc5 := cell_later hV c5
      have pc6 := cell_later hV c6
      have pc7 := cell_later hV c7
      have pc8 := cell_later hV c8
      have pc9 := cell_later hV c9
      have pc10 := cell_later hV c10
      have pc11 := cell_later hV c11
      have pcr0 := cell_later hV cr0
      have pcr1 := cell_later hV cr1
      have pok := okAt_later hV ok
      obtain ⟨ok1, ok2⟩ := id pok
      have lB : B1 < V2.heap.size := World.block_lt_of_cell? _ _ pc0
      have lC : w1.heap.size < V2.heap.size := okAt_lt pok
      rcases hown.2 with ⟨_, hn0⟩ | ⟨g, cap, cur, rfl, hg0, _⟩
      · cases hn0
      have rc0 : V2.cell? ⟨g, 0, none⟩ = some (.int .i64 0) := hown.cellAt 0 (by decide)
      have rc1 : V2.cell? ⟨g, 1, none⟩ = some (.int .i64 8192) := hown.cellAt 1 (by decide)
      have rc2 : V2.cell? ⟨g, 2, none⟩ = some (.int .i64 5000) := hown.cellAt 2 (by decide)
      have rc3 : V2.cell? ⟨g, 3, none⟩ = some (.int .i64 8192) := hown.cellAt 3 (by decide)
      have rc4 : V2.cell? ⟨g, 4, none⟩ = some (.int .i64 0) := hown.cellAt 4 (by decide)
      have rc5 : V2.cell? ⟨g, 5, none⟩ = some (.int .i64 3000) := hown.cellAt 5 (by decide)
      have fl69 : ∀ w, (Instr.field 69 (.agg #[.int .i64 1073741824, .int .i64 1073741824]) 0).run Try.prog w = .ok (.int .i64 1073741824) w := fun w => by first | rfl | (simp [Instr.field, go_sem])
      go_wp2_with (first | (go_at_call 36; ((with_reducible refine (AT0.out _).mono ?_); rintro e w' ⟨rfl, hb⟩); (try replace hb := below_undrew hb); (try replace hb := below_undrewN hb); obtain ⟨hcell, hfroz⟩ := bcell hb; have hz := hb.size; (try simp at hz); (try (have z6 := Nat.lt_of_lt_of_le z7 hz)); (try (have z7 := Nat.lt_of_lt_of_le z8 hz)); (try (have z8 := Nat.lt_of_lt_of_le z9 hz)); (try (have z9 := Nat.lt_of_lt_of_le (Nat.lt_succ_self _) hz)); (try (have z0 : w.heap.size < w'.heap.size := by omega)); (try (have z1 : w.heap.size + 1 < w'.heap.size := by omega)); (try (have z2 : w.heap.size + 1 + 1 < w'.heap.size := by omega)); (try (have z3 : w.heap.size + 1 + 1 + 1 < w'.heap.size := by omega)); (try (have y1 : w1.heap.size < w'.heap.size := by omega)); (try (have y2 : w2.heap.size < w'.heap.size := by omega)); (try (have y3 : w3.heap.size < w'.heap.size := by omega)); (try (have y4 : w4.heap.size < w'.heap.size := by omega)); (try (have y5 : w5.heap.size < w'.heap.size := by omega)); (try (have y6 : w6.heap.size < w'.heap.size := by omega)); (try (have x1 : w1.heap.size + 1 < w'.heap.size := by omega)); (try (have x2 : w2.heap.size + 1 < w'.heap.size := by omega)); (try (have x3 : w3.heap.size + 1 < w'.heap.size := by omega)); (try (have x4 : w4.heap.size + 1 < w'.heap.size := by omega)); (try (have x5 : w5.heap.size + 1 < w'.heap.size := by omega)); (try (have x6 : w6.heap.size + 1 < w'.heap.size := by omega)); (try (have y7 : w7.heap.size < w'.heap.size := by omega)); (try (have y8 : w8.heap.size < w'.heap.size := by omega)); (try (have y9 : w9.heap.size < w'.heap.size := by omega)); (try (have z10 : w1.heap.size < w'.heap.size + 1 := by omega)); (try (have z20 : w2.heap.size < w'.heap.size + 1 := by omega)); (try (have z30 : w3.heap.size < w'.heap.size + 1 := by omega)); (try (have z40 : w4.heap.size < w'.heap.size + 1 := by omega)); (try (have z50 : w5.heap.size < w'.heap.size + 1 := by omega)); (try (have z60 : w6.heap.size < w'.heap.size + 1 := by omega)); (try (have z70 : w7.heap.size < w'.heap.size + 1 := by omega)); (try (have z80 : w8.heap.size < w'.heap.size + 1 := by omega)); (have e1 : B1 < w'.heap.size := by omega); (have e2 : w1.heap.size < w'.heap.size := by omega); obtain ⟨w2, rfl⟩ : ∃ v, v = w' := ⟨_, rfl⟩) | (go_at_call 30; ((with_reducible refine (C1.out _ _ ?ok).mono ?_); (case ok => exact ⟨(by simp [go_sem, *]; done), (by simp [go_sem, *]; done)⟩); rintro e w' ⟨rfl, hb⟩); (try replace hb := below_undrew hb); (try replace hb := below_undrewN hb); obtain ⟨hcell, hfroz⟩ := bcell hb; have hz := hb.size; (try simp at hz); (try (have z6 := Nat.lt_of_lt_of_le z7 hz)); (try (have z7 := Nat.lt_of_lt_of_le z8 hz)); (try (have z8 := Nat.lt_of_lt_of_le z9 hz)); (try (have z9 := Nat.lt_of_lt_of_le (Nat.lt_succ_self _) hz)); (try (have z0 : w.heap.size < w'.heap.size := by omega)); (try (have z1 : w.heap.size + 1 < w'.heap.size := by omega)); (try (have z2 : w.heap.size + 1 + 1 < w'.heap.size := by omega)); (try (have z3 : w.heap.size + 1 + 1 + 1 < w'.heap.size := by omega)); (try (have y1 : w1.heap.size < w'.heap.size := by omega)); (try (have y2 : w2.heap.size < w'.heap.size := by omega)); (try (have y3 : w3.heap.size < w'.heap.size := by omega)); (try (have y4 : w4.heap.size < w'.heap.size := by omega)); (try (have y5 : w5.heap.size < w'.heap.size := by omega)); (try (have y6 : w6.heap.size < w'.heap.size := by omega)); (try (have x1 : w1.heap.size + 1 < w'.heap.size := by omega)); (try (have x2 : w2.heap.size + 1 < w'.heap.size := by omega)); (try (have x3 : w3.heap.size + 1 < w'.heap.size := by omega)); (try (have x4 : w4.heap.size + 1 < w'.heap.size := by omega)); (try (have x5 : w5.heap.size + 1 < w'.heap.size := by omega)); (try (have x6 : w6.heap.size + 1 < w'.heap.size := by omega)); (try (have y7 : w7.heap.size < w'.heap.size := by omega)); (try (have y8 : w8.heap.size < w'.heap.size := by omega)); (try (have y9 : w9.heap.size < w'.heap.size := by omega)); (try (have z10 : w1.heap.size < w'.heap.size + 1 := by omega)); (try (have z20 : w2.heap.size < w'.heap.size + 1 := by omega)); (try (have z30 : w3.heap.size < w'.heap.size + 1 := by omega)); (try (have z40 : w4.heap.size < w'.heap.size + 1 := by omega)); (try (have z50 : w5.heap.size < w'.heap.size + 1 := by omega)); (try (have z60 : w6.heap.size < w'.heap.size + 1 := by omega)); (try (have z70 : w7.heap.size < w'.heap.size + 1 := by omega)); (try (have z80 : w8.heap.size < w'.heap.size + 1 := by omega)); (have e1 : B1 < w'.heap.size := by omega); (have e2 : w1.heap.size < w'.heap.size := by omega); obtain ⟨w3, rfl⟩ : ∃ v, v = w' := ⟨_, rfl⟩) | (go_at_call 41; ((with_reducible refine (QX.out _).mono ?_); rintro e w' ⟨rfl, hb⟩); (try replace hb := below_undrew hb); (try replace hb := below_undrewN hb); obtain ⟨hcell, hfroz⟩ := bcell hb; have hz := hb.size; (try simp at hz); (try (have z6 := Nat.lt_of_lt_of_le z7 hz)); (try (have z7 := Nat.lt_of_lt_of_le z8 hz)); (try (have z8 := Nat.lt_of_lt_of_le z9 hz)); (try (have z9 := Nat.lt_of_lt_of_le (Nat.lt_succ_self _) hz)); (try (have z0 : w.heap.size < w'.heap.size := by omega)); (try (have z1 : w.heap.size + 1 < w'.heap.size := by omega)); (try (have z2 : w.heap.size + 1 + 1 < w'.heap.size := by omega)); (try (have z3 : w.heap.size + 1 + 1 + 1 < w'.heap.size := by omega)); (try (have y1 : w1.heap.size < w'.heap.size := by omega)); (try (have y2 : w2.heap.size < w'.heap.size := by omega)); (try (have y3 : w3.heap.size < w'.heap.size := by omega)); (try (have y4 : w4.heap.size < w'.heap.size := by omega)); (try (have y5 : w5.heap.size < w'.heap.size := by omega)); (try (have y6 : w6.heap.size < w'.heap.size := by omega)); (try (have x1 : w1.heap.size + 1 < w'.heap.size := by omega)); (try (have x2 : w2.heap.size + 1 < w'.heap.size := by omega)); (try (have x3 : w3.heap.size + 1 < w'.heap.size := by omega)); (try (have x4 : w4.heap.size + 1 < w'.heap.size := by omega)); (try (have x5 : w5.heap.size + 1 < w'.heap.size := by omega)); (try (have x6 : w6.heap.size + 1 < w'.heap.size := by omega)); (try (have y7 : w7.heap.size < w'.heap.size := by omega)); (try (have y8 : w8.heap.size < w'.heap.size := by omega)); (try (have y9 : w9.heap.size < w'.heap.size := by omega)); (try (have z10 : w1.heap.size < w'.heap.size + 1 := by omega)); (try (have z20 : w2.heap.size < w'.heap.size + 1 := by omega)); (try (have z30 : w3.heap.size < w'.heap.size + 1 := by omega)); (try (have z40 : w4.heap.size < w'.heap.size + 1 := by omega)); (try (have z50 : w5.heap.size < w'.heap.size + 1 := by omega)); (try (have z60 : w6.heap.size < w'.heap.size + 1 := by omega)); (try (have z70 : w7.heap.size < w'.heap.size + 1 := by omega)); (try (have z80 : w8.heap.size < w'.heap.size + 1 := by omega)); (have e1 : B1 < w'.heap.size := by omega); (have e2 : w1.heap.size < w'.heap.size := by omega); obtain ⟨w4, rfl⟩ : ∃ v, v = w' := ⟨_, rfl⟩) | (go_at_call 41; ((with_reducible refine (QY.out _).mono ?_); rintro e w' ⟨rfl, hb⟩); (try replace hb := below_undrew hb); (try replace hb := below_undrewN hb); obtain ⟨hcell, hfroz⟩ := bcell hb; have hz := hb.size; (try simp at hz); (try (have z6 := Nat.lt_of_lt_of_le z7 hz)); (try (have z7 := Nat.lt_of_lt_of_le z8 hz)); (try (have z8 := Nat.lt_of_lt_of_le z9 hz)); (try (have z9 := Nat.lt_of_lt_of_le (Nat.lt_succ_self _) hz)); (try (have z0 : w.heap.size < w'.heap.size := by omega)); (try (have z1 : w.heap.size + 1 < w'.heap.size := by omega)); (try (have z2 : w.heap.size + 1 + 1 < w'.heap.size := by omega)); (try (have z3 : w.heap.size + 1 + 1 + 1 < w'.heap.size := by omega)); (try (have y1 : w1.heap.size < w'.heap.size := by omega)); (try (have y2 : w2.heap.size < w'.heap.size := by omega)); (try (have y3 : w3.heap.size < w'.heap.size := by omega)); (try (have y4 : w4.heap.size < w'.heap.size := by omega)); (try (have y5 : w5.heap.size < w'.heap.size := by omega)); (try (have y6 : w6.heap.size < w'.heap.size := by omega)); (try (have x1 : w1.heap.size + 1 < w'.heap.size := by omega)); (try (have x2 : w2.heap.size + 1 < w'.heap.size := by omega)); (try (have x3 : w3.heap.size + 1 < w'.heap.size := by omega)); (try (have x4 : w4.heap.size + 1 < w'.heap.size := by omega)); (try (have x5 : w5.heap.size + 1 < w'.heap.size := by omega)); (try (have x6 : w6.heap.size + 1 < w'.heap.size := by omega)); (try (have y7 : w7.heap.size < w'.heap.size := by omega)); (try (have y8 : w8.heap.size < w'.heap.size := by omega)); (try (have y9 : w9.heap.size < w'.heap.size := by omega)); (try (have z10 : w1.heap.size < w'.heap.size + 1 := by omega)); (try (have z20 : w2.heap.size < w'.heap.size + 1 := by omega)); (try (have z30 : w3.heap.size < w'.heap.size + 1 := by omega)); (try (have z40 : w4.heap.size < w'.heap.size + 1 := by omega)); (try (have z50 : w5.heap.size < w'.heap.size + 1 := by omega)); (try (have z60 : w6.heap.size < w'.heap.size + 1 := by omega)); (try (have z70 : w7.heap.size < w'.heap.size + 1 := by omega)); (try (have z80 : w8.heap.size < w'.heap.size + 1 := by omega)); (have e1 : B1 < w'.heap.size := by omega); (have e2 : w1.heap.size < w'.heap.size := by omega); obtain ⟨w5, rfl⟩ : ∃ v, v = w' := ⟨_, rfl⟩) | (go_at_call 36; ((with_reducible refine (ATX.out _).mono ?_); rintro e w' ⟨rfl, hb⟩); (try replace hb := below_undrew hb); (try replace hb := below_undrewN hb); obtain ⟨hcell, hfroz⟩ := bcell hb; have hz := hb.size; (try simp at hz); (try (have z6 := Nat.lt_of_lt_of_le z7 hz)); (try (have z7 := Nat.lt_of_lt_of_le z8 hz)); (try (have z8 := Nat.lt_of_lt_of_le z9 hz)); (try (have z9 := Nat.lt_of_lt_of_le (Nat.lt_succ_self _) hz)); (try (have z0 : w.heap.size < w'.heap.size := by omega)); (try (have z1 : w.heap.size + 1 < w'.heap.size := by omega)); (try (have z2 : w.heap.size + 1 + 1 < w'.heap.size := by omega)); (try (have z3 : w.heap.size + 1 + 1 + 1 < w'.heap.size := by omega)); (try (have y1 : w1.heap.size < w'.heap.size := by omega)); (try (have y2 : w2.heap.size < w'.heap.size := by omega)); (try (have y3 : w3.heap.size < w'.heap.size := by omega)); (try (have y4 : w4.heap.size < w'.heap.size := by omega)); (try (have y5 : w5.heap.size < w'.heap.size := by omega)); (try (have y6 : w6.heap.size < w'.heap.size := by omega)); (try (have x1 : w1.heap.size + 1 < w'.heap.size := by omega)); (try (have x2 : w2.heap.size + 1 < w'.heap.size := by omega)); (try (have x3 : w3.heap.size + 1 < w'.heap.size := by omega)); (try (have x4 : w4.heap.size + 1 < w'.heap.size := by omega)); (try (have x5 : w5.heap.size + 1 < w'.heap.size := by omega)); (try (have x6 : w6.heap.size + 1 < w'.heap.size := by omega)); (try (have y7 : w7.heap.size < w'.heap.size := by omega)); (try (have y8 : w8.heap.size < w'.heap.size := by omega)); (try (have y9 : w9.heap.size < w'.heap.size := by omega)); (try (have z10 : w1.heap.size < w'.heap.size + 1 := by omega)); (try (have z20 : w2.heap.size < w'.heap.size + 1 := by omega)); (try (have z30 : w3.heap.size < w'.heap.size + 1 := by omega)); (try (have z40 : w4.heap.size < w'.heap.size + 1 := by omega)); (try (have z50 : w5.heap.size < w'.heap.size + 1 := by omega)); (try (have z60 : w6.heap.size < w'.heap.size + 1 := by omega)); (try (have z70 : w7.heap.size < w'.heap.size + 1 := by omega)); (try (have z80 : w8.heap.size < w'.heap.size + 1 := by omega)); (have e1 : B1 < w'.heap.size := by omega); (have e2 : w1.heap.size < w'.heap.size := by omega); obtain ⟨w6, rfl⟩ : ∃ v, v = w' := ⟨_, rfl⟩) | (go_at_call 31; ((with_reducible refine (W1.out _).mono ?_); rintro e w' ⟨rfl, hb⟩); (try replace hb := below_undrew hb); (try replace hb := below_undrewN hb); obtain ⟨hcell, hfroz⟩ := bcell hb; have hz := hb.size; (try simp at hz); (try (have z6 := Nat.lt_of_lt_of_le z7 hz)); (try (have z7 := Nat.lt_of_lt_of_le z8 hz)); (try (have z8 := Nat.lt_of_lt_of_le z9 hz)); (try (have z9 := Nat.lt_of_lt_of_le (Nat.lt_succ_self _) hz)); (try (have z0 : w.heap.size < w'.heap.size := by omega)); (try (have z1 : w.heap.size + 1 < w'.heap.size := by omega)); (try (have z2 : w.heap.size + 1 + 1 < w'.heap.size := by omega)); (try (have z3 : w.heap.size + 1 + 1 + 1 < w'.heap.size := by omega)); (try (have y1 : w1.heap.size < w'.heap.size := by omega)); (try (have y2 : w2.heap.size < w'.heap.size := by omega)); (try (have y3 : w3.heap.size < w'.heap.size := by omega)); (try (have y4 : w4.heap.size < w'.heap.size := by omega)); (try (have y5 : w5.heap.size < w'.heap.size := by omega)); (try (have y6 : w6.heap.size < w'.heap.size := by omega)); (try (have x1 : w1.heap.size + 1 < w'.heap.size := by omega)); (try (have x2 : w2.heap.size + 1 < w'.heap.size := by omega)); (try (have x3 : w3.heap.size + 1 < w'.heap.size := by omega)); (try (have x4 : w4.heap.size + 1 < w'.heap.size := by omega)); (try (have x5 : w5.heap.size + 1 < w'.heap.size := by omega)); (try (have x6 : w6.heap.size + 1 < w'.heap.size := by omega)); (try (have y7 : w7.heap.size < w'.heap.size := by omega)); (try (have y8 : w8.heap.size < w'.heap.size := by omega)); (try (have y9 : w9.heap.size < w'.heap.size := by omega)); (try (have z10 : w1.heap.size < w'.heap.size + 1 := by omega)); (try (have z20 : w2.heap.size < w'.heap.size + 1 := by omega)); (try (have z30 : w3.heap.size < w'.heap.size + 1 := by omega)); (try (have z40 : w4.heap.size < w'.heap.size + 1 := by omega)); (try (have z50 : w5.heap.size < w'.heap.size + 1 := by omega)); (try (have z60 : w6.heap.size < w'.heap.size + 1 := by omega)); (try (have z70 : w7.heap.size < w'.heap.size + 1 := by omega)); (try (have z80 : w8.heap.size < w'.heap.size + 1 := by omega)); (have e1 : B1 < w'.heap.size := by omega); (have e2 : w1.heap.size < w'.heap.size := by omega); obtain ⟨w7, rfl⟩ : ∃ v, v = w' := ⟨_, rfl⟩) | (go_at_call 36; ((with_reducible refine (ATY.out _).mono ?_); rintro e w' ⟨rfl, hb⟩); (try replace hb := below_undrew hb); (try replace hb := below_undrewN hb); obtain ⟨hcell, hfroz⟩ := bcell hb; have hz := hb.size; (try simp at hz); (try (have z6 := Nat.lt_of_lt_of_le z7 hz)); (try (have z7 := Nat.lt_of_lt_of_le z8 hz)); (try (have z8 := Nat.lt_of_lt_of_le z9 hz)); (try (have z9 := Nat.lt_of_lt_of_le (Nat.lt_succ_self _) hz)); (try (have z0 : w.heap.size < w'.heap.size := by omega)); (try (have z1 : w.heap.size + 1 < w'.heap.size := by omega)); (try (have z2 : w.heap.size + 1 + 1 < w'.heap.size := by omega)); (try (have z3 : w.heap.size + 1 + 1 + 1 < w'.heap.size := by omega)); (try (have y1 : w1.heap.size < w'.heap.size := by omega)); (try (have y2 : w2.heap.size < w'.heap.size := by omega)); (try (have y3 : w3.heap.size < w'.heap.size := by omega)); (try (have y4 : w4.heap.size < w'.heap.size := by omega)); (try (have y5 : w5.heap.size < w'.heap.size := by omega)); (try (have y6 : w6.heap.size < w'.heap.size := by omega)); (try (have x1 : w1.heap.size + 1 < w'.heap.size := by omega)); (try (have x2 : w2.heap.size + 1 < w'.heap.size := by omega)); (try (have x3 : w3.heap.size + 1 < w'.heap.size := by omega)); (try (have x4 : w4.heap.size + 1 < w'.heap.size := by omega)); (try (have x5 : w5.heap.size + 1 < w'.heap.size := by omega)); (try (have x6 : w6.heap.size + 1 < w'.heap.size := by omega)); (try (have y7 : w7.heap.size < w'.heap.size := by omega)); (try (have y8 : w8.heap.size < w'.heap.size := by omega)); (try (have y9 : w9.heap.size < w'.heap.size := by omega)); (try (have z10 : w1.heap.size < w'.heap.size + 1 := by omega)); (try (have z20 : w2.heap.size < w'.heap.size + 1 := by omega)); (try (have z30 : w3.heap.size < w'.heap.size + 1 := by omega)); (try (have z40 : w4.heap.size < w'.heap.size + 1 := by omega)); (try (have z50 : w5.heap.size < w'.heap.size + 1 := by omega)); (try (have z60 : w6.heap.size < w'.heap.size + 1 := by omega)); (try (have z70 : w7.heap.size < w'.heap.size + 1 := by omega)); (try (have z80 : w8.heap.size < w'.heap.size + 1 := by omega)); (have e1 : B1 < w'.heap.size := by omega); (have e2 : w1.heap.size < w'.heap.size := by omega); obtain ⟨w8, rfl⟩ : ∃ v, v = w' := ⟨_, rfl⟩) | (go_at_call 31; ((with_reducible refine (W2.out _).mono ?_); rintro e w' ⟨rfl, hb⟩); (try replace hb := below_undrew hb); (try replace hb := below_undrewN hb); obtain ⟨hcell, hfroz⟩ := bcell hb; have hz := hb.size; (try simp at hz); (try (have z6 := Nat.lt_of_lt_of_le z7 hz)); (try (have z7 := Nat.lt_of_lt_of_le z8 hz)); (try (have z8 := Nat.lt_of_lt_of_le z9 hz)); (try (have z9 := Nat.lt_of_lt_of_le (Nat.lt_succ_self _) hz)); (try (have z0 : w.heap.size < w'.heap.size := by omega)); (try (have z1 : w.heap.size + 1 < w'.heap.size := by omega)); (try (have z2 : w.heap.size + 1 + 1 < w'.heap.size := by omega)); (try (have z3 : w.heap.size + 1 + 1 + 1 < w'.heap.size := by omega)); (try (have y1 : w1.heap.size < w'.heap.size := by omega)); (try (have y2 : w2.heap.size < w'.heap.size := by omega)); (try (have y3 : w3.heap.size < w'.heap.size := by omega)); (try (have y4 : w4.heap.size < w'.heap.size := by omega)); (try (have y5 : w5.heap.size < w'.heap.size := by omega)); (try (have y6 : w6.heap.size < w'.heap.size := by omega)); (try (have x1 : w1.heap.size + 1 < w'.heap.size := by omega)); (try (have x2 : w2.heap.size + 1 < w'.heap.size := by omega)); (try (have x3 : w3.heap.size + 1 < w'.heap.size := by omega)); (try (have x4 : w4.heap.size + 1 < w'.heap.size := by omega)); (try (have x5 : w5.heap.size + 1 < w'.heap.size := by omega)); (try (have x6 : w6.heap.size + 1 < w'.heap.size := by omega)); (try (have y7 : w7.heap.size < w'.heap.size := by omega)); (try (have y8 : w8.heap.size < w'.heap.size := by omega)); (try (have y9 : w9.heap.size < w'.heap.size := by omega)); (try (have z10 : w1.heap.size < w'.heap.size + 1 := by omega)); (try (have z20 : w2.heap.size < w'.heap.size + 1 := by omega)); (try (have z30 : w3.heap.size < w'.heap.size + 1 := by omega)); (try (have z40 : w4.heap.size < w'.heap.size + 1 := by omega)); (try (have z50 : w5.heap.size < w'.heap.size + 1 := by omega)); (try (have z60 : w6.heap.size < w'.heap.size + 1 := by omega)); (try (have z70 : w7.heap.size < w'.heap.size + 1 := by omega)); (try (have z80 : w8.heap.size < w'.heap.size + 1 := by omega)); (have e1 : B1 < w'.heap.size := by omega); (have e2 : w1.heap.size < w'.heap.size := by omega); obtain ⟨w9, rfl⟩ : ∃ v, v = w' := ⟨_, rfl⟩))
      have h9 : Below V2.heap.size V2 w9 := by (repeat (first | exact Below.refl _ _ | refine bl_drewN ?_ | refine bl_drew ?_ | refine bl_alloc ?_ _ | refine Below.setCell ?_ (by (first | (simp; done) | (simp; omega) | omega)) _ | refine bl_step (by assumption) ?_))
      replace hV := bl_step h9 hV
      replace rc0 := cell_later h9 rc0
      replace rc1 := cell_later h9 rc1
      replace rc2 := cell_later h9 rc2
      replace rc3 := cell_later h9 rc3
      replace rc4 := cell_later h9 rc4
      replace rc5 := cell_later h9 rc5
      clear hcell hfroz hz ok1 ok2 h9 hown fl69
      clear pc0 pc1 pc2 pc3 pc4 pc5 pc6 pc7 pc8 pc9 pc10 pc11 pcr0 pcr1 pok
      have lg : g < w9.heap.size := World.block_lt_of_cell? _ _ rc0
      have hownO := World.ownsRow_nil w9 w9.heap.size 3 1
      refine wp_loop_rounds 3 ?_
      rw [rounds_succ]
      go_wp2
      refine name_below ?_
      intro w' hb
      (try replace hb := below_undrew hb); (try replace hb := below_undrewN hb); obtain ⟨hcell, hfroz⟩ := bcell hb; have hz := hb.size; (try simp at hz); (try (have z6 := Nat.lt_of_lt_of_le z7 hz)); (try (have z7 := Nat.lt_of_lt_of_le z8 hz)); (try (have z8 := Nat.lt_of_lt_of_le z9 hz)); (try (have z9 := Nat.lt_of_lt_of_le (Nat.lt_succ_self _) hz)); (try (have z0 : w.heap.size < w'.heap.size := by omega)); (try (have z1 : w.heap.size + 1 < w'.heap.size := by omega)); (try (have z2 : w.heap.size + 1 + 1 < w'.heap.size := by omega)); (try (have z3 : w.heap.size + 1 + 1 + 1 < w'.heap.size := by omega)); (try (have y1 : w1.heap.size < w'.heap.size := by omega)); (try (have y2 : w2.heap.size < w'.heap.size := by omega)); (try (have y3 : w3.heap.size < w'.heap.size := by omega)); (try (have y4 : w4.heap.size < w'.heap.size := by omega)); (try (have y5 : w5.heap.size < w'.heap.size := by omega)); (try (have y6 : w6.heap.size < w'.heap.size := by omega)); (try (have x1 : w1.heap.size + 1 < w'.heap.size := by omega)); (try (have x2 : w2.heap.size + 1 < w'.heap.size := by omega)); (try (have x3 : w3.heap.size + 1 < w'.heap.size := by omega)); (try (have x4 : w4.heap.size + 1 < w'.heap.size := by omega)); (try (have x5 : w5.heap.size + 1 < w'.heap.size := by omega)); (try (have x6 : w6.heap.size + 1 < w'.heap.size := by omega)); (try (have y7 : w7.heap.size < w'.heap.size := by omega)); (try (have y8 : w8.heap.size < w'.heap.size := by omega)); (try (have y9 : w9.heap.size < w'.heap.size := by omega)); (try (have z10 : w1.heap.size < w'.heap.size + 1 := by omega)); (try (have z20 : w2.heap.size < w'.heap.size + 1 := by omega)); (try (have z30 : w3.heap.size < w'.heap.size + 1 := by omega)); (try (have z40 : w4.heap.size < w'.heap.size + 1 := by omega)); (try (have z50 : w5.heap.size < w'.heap.size + 1 := by omega)); (try (have z60 : w6.heap.size < w'.heap.size + 1 := by omega)); (try (have z70 : w7.heap.size < w'.heap.size + 1 := by omega)); (try (have z80 : w8.heap.size < w'.heap.size + 1 := by omega))
      have hu : Below w9.heap.size w9 w' := by (repeat (first | exact Below.refl _ _ | refine bl_drewN ?_ | refine bl_drew ?_ | refine bl_alloc ?_ _ | refine Below.setCell ?_ (by (first | (simp; done) | (simp; omega) | omega)) _ | refine bl_step (by assumption) ?_))
      have r0 : w'.cell? ⟨w9.heap.size, 0, none⟩ = some (.int .i64 0) := by simp [go_sem, *]
      have r1 : w'.cell? ⟨w9.heap.size, 1, none⟩ = some (.int .i64 8192) := by simp [go_sem, *]
      have r2 : w'.cell? ⟨w9.heap.size, 2, none⟩ = some (.int .i64 5000) := by simp [go_sem, *]
      clear hcell hfroz hz
      obtain ⟨T1, rfl⟩ : ∃ v, v = w' := ⟨_, rfl⟩
      have hb9 : Below w9.heap.size w9 T1 := hu
      have hown := ownsRow_later hu hownO
      have hne : some w9.heap.size ≠ (.slice none 0 0 : Value).ownBlock := by intro e; cases e
      clear hu
      refine wp_region_inv (fun a0 LL aa X1 => ∃ (l0 l1 l2 l3 l4 l5 l6 l7 l8 l9 l10 l11 l12 l13 l14 l15 l16 : Bool) (F1 : Nat) (vN1 : Value), LL = #[l0, l1, l2, l3, l4, l5, l6, l7, l8, l9, l10, l11, l12, l13, l14, l15, l16] ∧ aa = { a0 with tmps := (((((((((((((((((a0.tmps.setIfInBounds 197 (cond l0 (.slice none 0 0) (undef))).setIfInBounds 198 (cond l1 (.pointer (some ⟨w9.heap.size, 2, none⟩)) (undef))).setIfInBounds 199 (cond l2 (.int .i64 5000) (undef))).setIfInBounds 200 (cond l3 (.pointer (some ⟨w9.heap.size, 0, none⟩)) (undef))).setIfInBounds 201 (cond l4 (.int .i64 0) (undef))).setIfInBounds 202 (cond l5 (.int .i64 3000) (undef))).setIfInBounds 203 (cond l6 (.int .i64 0) (undef))).setIfInBounds 204 (cond l7 (.pointer (some ⟨w9.heap.size, 1, none⟩)) (undef))).setIfInBounds 205 (cond l8 (.int .i64 8192) (undef))).setIfInBounds 206 (cond l9 (.int .i64 5000) (undef))).setIfInBounds 207 (cond l10 (.int .i64 40960000) (undef))).setIfInBounds 208 (cond l11 (.int .i64 40960000) (undef))).setIfInBounds 209 (cond l12 (.int .i64 5000) (undef))).setIfInBounds 210 (cond l13 (.int .i64 0) (undef))).setIfInBounds 211 (cond l14 (.slice (some ⟨F1, 0, none⟩) 1 1) (undef))).setIfInBounds 212 (cond l15 (vN1) (undef))).setIfInBounds 24 (cond l16 (vN1) (.slice none 0 0))) } ∧ Below w9.heap.size w9 X1 ∧ Kept T1 X1 (.slice none 0 0 : Value).ownBlock ∧ (l15 = true → l0 = true) ∧ (l15 = true → l14 = true) ∧ (l16 = true → l15 = true) ∧ (l14 = true → l15 = false → X1.cell? ⟨F1, 0, none⟩ = some (.int .i64 0)) ∧ (l15 = false → X1.ownsRow w9.heap.size 3 1 (.slice none 0 0) 0 []) ∧ (l15 = true → X1.ownsRow w9.heap.size 3 1 vN1 1 ([] ++ [.int .i64 0]))) (by kernel_rfl) (by kernel_rfl) ?h0 ?hsize ?hdone ?hstep
      case h0 =>
        refine ⟨false, false, false, false, false, false, false, false, false, false, false, false, false, false, false, false, false, 0, .bool false, rfl, ?_, by (repeat (first | exact Below.refl _ _ | refine bl_drewN ?_ | refine bl_drew ?_ | refine bl_alloc ?_ _ | refine Below.setCell ?_ (by (first | (simp; done) | (simp; omega) | omega)) _ | refine bl_step (by assumption) ?_)), Kept.below (by (repeat (first | exact Below.refl _ _ | refine bl_drewN ?_ | refine bl_drew ?_ | refine bl_alloc ?_ _ | refine Below.setCell ?_ (by (first | (simp; done) | (simp; omega) | omega)) _ | refine bl_step (by assumption) ?_))) (Kept.refl _ _), (fun h => by cases h), (fun h => by cases h), (fun h => by cases h), (fun h => by cases h), (fun _ => ownsRow_later (by (repeat (first | exact Below.refl _ _ | refine bl_drewN ?_ | refine bl_drew ?_ | refine bl_alloc ?_ _ | refine Below.setCell ?_ (by (first | (simp; done) | (simp; omega) | omega)) _ | refine bl_step (by assumption) ?_))) hown), (fun h => by cases h)⟩
        simp only [cond_false, List.setIfInBounds_toArray, List.set_cons_zero, List.set_cons_succ]
      case hsize =>
        intro LL aa X1 h
        obtain ⟨l0, l1, l2, l3, l4, l5, l6, l7, l8, l9, l10, l11, l12, l13, l14, l15, l16, F1, vN1, hL, _⟩ := h
        rw [hL]
        rfl
      case hstep =>
        intro LL aa X1 h
        obtain ⟨l0, l1, l2, l3, l4, l5, l6, l7, l8, l9, l10, l11, l12, l13, l14, l15, l16, F1, vN1, hL, ha, hb0, hk, q3, q1, q2, he, ho0, ho1⟩ := h
        simp only [List.setIfInBounds_toArray, List.set_cons_zero, List.set_cons_succ] at ha
        subst hL
        subst ha
        refine ⟨?s0, ?s1, ?s2, ?s3, ?s4, ?s5, ?s6, ?s7, ?s8, ?s9, ?s10, ?s11, ?s12, ?s13, ?s14, ?s15, ?s16, trivial⟩
        case s0 =>
          intro ff gg KK hK
          have f0 : l0 = false := ff
          clear ff gg
          subst f0
          have f1 : l15 = false := by cases hl : l15; rfl; exact absurd (q3 hl) (by simp)
          subst f1
          have f2 : l16 = false := by cases hl : l16; rfl; exact absurd (q2 hl) (by simp)
          subst f2
          simp only [cond_false]
          go_simp
          exact hK _ _ ⟨true, l1, l2, l3, l4, l5, l6, l7, l8, l9, l10, l11, l12, l13, l14, false, false, F1, vN1, rfl, (by simp only [cond_true, cond_false, List.setIfInBounds_toArray, List.set_cons_zero, List.set_cons_succ]), hb0, hk, (fun _ => rfl), q1, q2, he, ho0, ho1⟩
        case s1 =>
          intro ff gg KK hK
          have f0 : l1 = false := ff
          clear ff gg
          subst f0
          simp only [cond_false]
          go_simp
          exact hK _ _ ⟨l0, true, l2, l3, l4, l5, l6, l7, l8, l9, l10, l11, l12, l13, l14, l15, l16, F1, vN1, rfl, (by simp only [cond_true, List.setIfInBounds_toArray, List.set_cons_zero, List.set_cons_succ]), hb0, hk, q3, q1, q2, he, ho0, ho1⟩
        case s2 =>
          intro ff gg KK hK
          have t1 : l1 = true := gg ⟨1, .data⟩ (by simp) (by rfl)
          have f0 : l2 = false := ff
          clear ff gg
          subst t1
          subst f0
          simp only [cond_true, cond_false]
          have j0 := hk.cell hne r2
          go_simp
          exact hK _ _ ⟨l0, true, true, l3, l4, l5, l6, l7, l8, l9, l10, l11, l12, l13, l14, l15, l16, F1, vN1, rfl, (by simp only [cond_true, List.setIfInBounds_toArray, List.set_cons_zero, List.set_cons_succ]), hb0, hk, q3, q1, q2, he, ho0, ho1⟩
        case s3 =>
          intro ff gg KK hK
          have f0 : l3 = false := ff
          clear ff gg
          subst f0
          simp only [cond_false]
          go_simp
          exact hK _ _ ⟨l0, l1, l2, true, l4, l5, l6, l7, l8, l9, l10, l11, l12, l13, l14, l15, l16, F1, vN1, rfl, (by simp only [cond_true, List.setIfInBounds_toArray, List.set_cons_zero, List.set_cons_succ]), hb0, hk, q3, q1, q2, he, ho0, ho1⟩
        case s4 =>
          intro ff gg KK hK
          have t3 : l3 = true := gg ⟨3, .data⟩ (by simp) (by rfl)
          have f0 : l4 = false := ff
          clear ff gg
          subst t3
          subst f0
          simp only [cond_true, cond_false]
          have j0 := hk.cell hne r0
          go_simp
          exact hK _ _ ⟨l0, l1, l2, true, true, l5, l6, l7, l8, l9, l10, l11, l12, l13, l14, l15, l16, F1, vN1, rfl, (by simp only [cond_true, List.setIfInBounds_toArray, List.set_cons_zero, List.set_cons_succ]), hb0, hk, q3, q1, q2, he, ho0, ho1⟩
        case s5 =>
          intro ff gg KK hK
          have f0 : l5 = false := ff
          clear ff gg
          subst f0
          simp only [cond_false]
          go_simp
          exact hK _ _ ⟨l0, l1, l2, l3, l4, true, l6, l7, l8, l9, l10, l11, l12, l13, l14, l15, l16, F1, vN1, rfl, (by simp only [cond_true, List.setIfInBounds_toArray, List.set_cons_zero, List.set_cons_succ]), hb0, hk, q3, q1, q2, he, ho0, ho1⟩
        case s6 =>
          intro ff gg KK hK
          have t4 : l4 = true := gg ⟨4, .data⟩ (by simp) (by rfl)
          have t5 : l5 = true := gg ⟨5, .data⟩ (by simp) (by rfl)
          have f0 : l6 = false := ff
          clear ff gg
          subst t4 t5
          subst f0
          simp only [cond_true, cond_false]
          go_simp
          exact hK _ _ ⟨l0, l1, l2, l3, true, true, true, l7, l8, l9, l10, l11, l12, l13, l14, l15, l16, F1, vN1, rfl, (by first | (simp only [cond_true, List.setIfInBounds_toArray, List.set_cons_zero, List.set_cons_succ]; done) | (simp [cond_true, List.setIfInBounds_toArray, List.set_cons_zero, List.set_cons_succ, IntKind.wrap_i64]; done) | (simp [cond_true, List.setIfInBounds_toArray, List.set_cons_zero, List.set_cons_succ]; decide)), hb0, hk, q3, q1, q2, he, ho0, ho1⟩
        case s7 =>
          intro ff gg KK hK
          have f0 : l7 = false := ff
          clear ff gg
          subst f0
          simp only [cond_false]
          go_simp
          exact hK _ _ ⟨l0, l1, l2, l3, l4, l5, l6, true, l8, l9, l10, l11, l12, l13, l14, l15, l16, F1, vN1, rfl, (by simp only [cond_true, List.setIfInBounds_toArray, List.set_cons_zero, List.set_cons_succ]), hb0, hk, q3, q1, q2, he, ho0, ho1⟩
        case s8 =>
          intro ff gg KK hK
          have t7 : l7 = true := gg ⟨7, .data⟩ (by simp) (by rfl)
          have f0 : l8 = false := ff
          clear ff gg
          subst t7
          subst f0
          simp only [cond_true, cond_false]
          have j0 := hk.cell hne r1
          go_simp
          exact hK _ _ ⟨l0, l1, l2, l3, l4, l5, l6, true, true, l9, l10, l11, l12, l13, l14, l15, l16, F1, vN1, rfl, (by simp only [cond_true, List.setIfInBounds_toArray, List.set_cons_zero, List.set_cons_succ]), hb0, hk, q3, q1, q2, he, ho0, ho1⟩
        case s9 =>
          intro ff gg KK hK
          have f0 : l9 = false := ff
          clear ff gg
          subst f0
          simp only [cond_false]
          go_simp
          exact hK _ _ ⟨l0, l1, l2, l3, l4, l5, l6, l7, l8, true, l10, l11, l12, l13, l14, l15, l16, F1, vN1, rfl, (by simp only [cond_true, List.setIfInBounds_toArray, List.set_cons_zero, List.set_cons_succ]), hb0, hk, q3, q1, q2, he, ho0, ho1⟩
        case s10 =>
          intro ff gg KK hK
          have t8 : l8 = true := gg ⟨8, .data⟩ (by simp) (by rfl)
          have t9 : l9 = true := gg ⟨9, .data⟩ (by simp) (by rfl)
          have f0 : l10 = false := ff
          clear ff gg
          subst t8 t9
          subst f0
          simp only [cond_true, cond_false]
          go_simp
          exact hK _ _ ⟨l0, l1, l2, l3, l4, l5, l6, l7, true, true, true, l11, l12, l13, l14, l15, l16, F1, vN1, rfl, (by first | (simp only [cond_true, List.setIfInBounds_toArray, List.set_cons_zero, List.set_cons_succ]; done) | (simp [cond_true, List.setIfInBounds_toArray, List.set_cons_zero, List.set_cons_succ, IntKind.wrap_i64]; done) | (simp [cond_true, List.setIfInBounds_toArray, List.set_cons_zero, List.set_cons_succ]; decide)), hb0, hk, q3, q1, q2, he, ho0, ho1⟩
        case s11 =>
          intro ff gg KK hK
          have t6 : l6 = true := gg ⟨6, .data⟩ (by simp) (by rfl)
          have t10 : l10 = true := gg ⟨10, .data⟩ (by simp) (by rfl)
          have f0 : l11 = false := ff
          clear ff gg
          subst t6 t10
          subst f0
          simp only [cond_true, cond_false]
          go_simp
          exact hK _ _ ⟨l0, l1, l2, l3, l4, l5, true, l7, l8, l9, true, true, l12, l13, l14, l15, l16, F1, vN1, rfl, (by first | (simp only [cond_true, List.setIfInBounds_toArray, List.set_cons_zero, List.set_cons_succ]; done) | (simp [cond_true, List.setIfInBounds_toArray, List.set_cons_zero, List.set_cons_succ, IntKind.wrap_i64]; done) | (simp [cond_true, List.setIfInBounds_toArray, List.set_cons_zero, List.set_cons_succ]; decide)), hb0, hk, q3, q1, q2, he, ho0, ho1⟩
        case s12 =>
          intro ff gg KK hK
          have t11 : l11 = true := gg ⟨11, .data⟩ (by simp) (by rfl)
          have f0 : l12 = false := ff
          clear ff gg
          subst t11
          subst f0
          simp only [cond_true, cond_false]
          go_simp
          go_at_call 40
          with_reducible refine (FA.out _).mono ?_
          rintro e w' ⟨rfl, rfl⟩
          exact hK _ _ ⟨l0, l1, l2, l3, l4, l5, l6, l7, l8, l9, l10, true, true, l13, l14, l15, l16, F1, vN1, rfl, (by simp only [cond_true, List.setIfInBounds_toArray, List.set_cons_zero, List.set_cons_succ]), hb0, hk, q3, q1, q2, he, ho0, ho1⟩
        case s13 =>
          intro ff gg KK hK
          have t2 : l2 = true := gg ⟨2, .data⟩ (by simp) (by rfl)
          have t12 : l12 = true := gg ⟨12, .data⟩ (by simp) (by rfl)
          have f0 : l13 = false := ff
          clear ff gg
          subst t2 t12
          subst f0
          simp only [cond_true, cond_false]
          go_simp
          exact hK _ _ ⟨l0, l1, true, l3, l4, l5, l6, l7, l8, l9, l10, l11, true, true, l14, l15, l16, F1, vN1, rfl, (by first | (simp only [cond_true, List.setIfInBounds_toArray, List.set_cons_zero, List.set_cons_succ]; done) | (simp [cond_true, List.setIfInBounds_toArray, List.set_cons_zero, List.set_cons_succ, IntKind.wrap_i64]; done) | (simp [cond_true, List.setIfInBounds_toArray, List.set_cons_zero, List.set_cons_succ]; decide)), hb0, hk, q3, q1, q2, he, ho0, ho1⟩
        case s14 =>
          intro ff gg KK hK
          have t13 : l13 = true := gg ⟨13, .data⟩ (by simp) (by rfl)
          have f0 : l14 = false := ff
          clear ff gg
          subst t13
          subst f0
          have f1 : l15 = false := by cases hl : l15; rfl; exact absurd (q1 hl) (by simp)
          subst f1
          simp only [cond_true, cond_false]
          go_simp
          have hb : Below X1.heap.size X1 (X1.alloc (Obj.cells #[Value.int IntKind.i64 0] 3)) := by (repeat (first | exact Below.refl _ _ | refine bl_drewN ?_ | refine bl_drew ?_ | refine bl_alloc ?_ _ | refine Below.setCell ?_ (by (first | (simp; done) | (simp; omega) | omega)) _ | refine bl_step (by assumption) ?_))
          exact hK _ _ ⟨l0, l1, l2, l3, l4, l5, l6, l7, l8, l9, l10, l11, l12, true, true, false, l16, X1.heap.size, vN1, rfl, (by simp only [cond_true, cond_false, List.setIfInBounds_toArray, List.set_cons_zero, List.set_cons_succ]), bl_alloc hb0 _, Kept.below hb hk, (fun h => by cases h), (fun h => by cases h), q2, (fun _ _ => by simp [go_sem]), (fun _ => ownsRow_later hb (ho0 rfl)), (fun h => by cases h)⟩
        case s15 =>
          intro ff gg KK hK
          have t0 : l0 = true := gg ⟨0, .data⟩ (by simp) (by rfl)
          have t14 : l14 = true := gg ⟨14, .data⟩ (by simp) (by rfl)
          have t12 : l12 = true := gg ⟨12, .chain⟩ (by simp) (by rfl)
          have f0 : l15 = false := ff
          clear ff gg
          subst t0 t14 t12
          subst f0
          have f1 : l16 = false := by cases hl : l16; rfl; exact absurd (q2 hl) (by simp)
          subst f1
          simp only [cond_true, cond_false]
          rw [if_pos (by rfl)]
          apply step_append_own (s := .tmp 197) (x := .tmp 211) (t := 44) (base := w9.heap.size) (e := 3) (i := i1) (z := .int .i64 0) (size := 1) (bytes := 8) (v := .slice none 0 0) (n := 0) (xs := []) (ad := ⟨F1, 0, none⟩) (m := 1) (c := 1) (news := [.int .i64 0])
          case ho => rfl
          case ht => exact Try.underlying44
          case hi => exact hj
          case hz => exact hj0
          case hsize => exact hj1
          case hby => exact hj2
          case hzs => rfl
          case hsz => decide
          case hs => rfl
          case hown => exact ho0 rfl
          case hx => rfl
          case hl => rfl
          case hnews => exact newsAt (he rfl rfl)
          case h1 => exact one1 _
          case h63 => decide
          case hbytes => decide
          case hbase => exact hb0.size
          intro vx w' hn hg
          exact hK _ _ ⟨true, l1, l2, l3, l4, l5, l6, l7, l8, l9, l10, l11, true, l13, true, true, false, F1, vx, rfl, (by simp only [Act.put, cond_true, cond_false, List.setIfInBounds_toArray, List.set_cons_zero, List.set_cons_succ]), Below.grown hb0 hg hb0.size (fun k hk => ((ho0 rfl).lt k hk).1), Kept.grown hg hk, (fun _ => rfl), (fun _ => rfl), (fun h => by cases h), (fun _ h => by cases h), (fun h => by cases h), (fun _ => hn)⟩
        case s16 =>
          intro ff gg KK hK
          have t15 : l15 = true := gg ⟨15, .data⟩ (by simp) (by rfl)
          have f0 : l16 = false := ff
          clear ff gg
          subst t15
          subst f0
          have f1 : l0 = true := q3 rfl
          subst f1
          have f2 : l14 = true := q1 rfl
          subst f2
          simp only [cond_true, cond_false]
          go_simp
          exact hK _ _ ⟨true, l1, l2, l3, l4, l5, l6, l7, l8, l9, l10, l11, l12, l13, true, true, true, F1, vN1, rfl, (by simp only [cond_true, List.setIfInBounds_toArray, List.set_cons_zero, List.set_cons_succ]), hb0, hk, q3, q1, (fun _ => rfl), he, ho0, ho1⟩
      case hdone =>
        intro LL aa X1 h hd
        obtain ⟨l0, l1, l2, l3, l4, l5, l6, l7, l8, l9, l10, l11, l12, l13, l14, l15, l16, F1, vN1, hL, ha, hb0, hk, q3, q1, q2, he, ho0, ho1⟩ := h
        rw [hL] at hd
        have t0 : l0 = true := hd 0 (by decide)
        have t1 : l1 = true := hd 1 (by decide)
        have t2 : l2 = true := hd 2 (by decide)
        have t3 : l3 = true := hd 3 (by decide)
        have t4 : l4 = true := hd 4 (by decide)
        have t5 : l5 = true := hd 5 (by decide)
        have t6 : l6 = true := hd 6 (by decide)
        have t7 : l7 = true := hd 7 (by decide)
        have t8 : l8 = true := hd 8 (by decide)
        have t9 : l9 = true := hd 9 (by decide)
        have t10 : l10 = true := hd 10 (by decide)
        have t11 : l11 = true := hd 11 (by decide)
        have t12 : l12 = true := hd 12 (by decide)
        have t13 : l13 = true := hd 13 (by decide)
        have t14 : l14 = true := hd 14 (by decide)
        have t15 : l15 = true := hd 15 (by decide)
        have t16 : l16 = true := hd 16 (by decide)
        clear hd hL q1 q2 he ho0
        subst t0 t1 t2 t3 t4 t5 t6 t7 t8 t9 t10 t11 t12 t13 t14 t15 t16
        simp only [cond_true, List.setIfInBounds_toArray, List.set_cons_zero, List.set_cons_succ] at ha
        subst ha
        replace hown := ho1 rfl
        clear ho1 hk
        go_wp2
        have hnx : some X1.heap.size ≠ (vN1 : Value).ownBlock := fun e => by have := (hown.lt _ e.symm).2; omega
        have hX := hb0
        clear hb0 r0 r1 r2 hne hb9
        rw [rounds_succ]
        have qc0 := cell_later hX rc0
        have qc1 := cell_later hX rc1
        have qc2 := cell_later hX rc2
        have qc3 := cell_later hX rc3
        have qc4 := cell_later hX rc4
        have qc5 := cell_later hX rc5
        go_wp2
        refine name_below ?_
        intro w' hb
        (try replace hb := below_undrew hb); (try replace hb := below_undrewN hb); obtain ⟨hcell, hfroz⟩ := bcell hb; have hz := hb.size; (try simp at hz); (try (have z6 := Nat.lt_of_lt_of_le z7 hz)); (try (have z7 := Nat.lt_of_lt_of_le z8 hz)); (try (have z8 := Nat.lt_of_lt_of_le z9 hz)); (try (have z9 := Nat.lt_of_lt_of_le (Nat.lt_succ_self _) hz)); (try (have z0 : w.heap.size < w'.heap.size := by omega)); (try (have z1 : w.heap.size + 1 < w'.heap.size := by omega)); (try (have z2 : w.heap.size + 1 + 1 < w'.heap.size := by omega)); (try (have z3 : w.heap.size + 1 + 1 + 1 < w'.heap.size := by omega)); (try (have y1 : w1.heap.size < w'.heap.size := by omega)); (try (have y2 : w2.heap.size < w'.heap.size := by omega)); (try (have y3 : w3.heap.size < w'.heap.size := by omega)); (try (have y4 : w4.heap.size < w'.heap.size := by omega)); (try (have y5 : w5.heap.size < w'.heap.size := by omega)); (try (have y6 : w6.heap.size < w'.heap.size := by omega)); (try (have x1 : w1.heap.size + 1 < w'.heap.size := by omega)); (try (have x2 : w2.heap.size + 1 < w'.heap.size := by omega)); (try (have x3 : w3.heap.size + 1 < w'.heap.size := by omega)); (try (have x4 : w4.heap.size + 1 < w'.heap.size := by omega)); (try (have x5 : w5.heap.size + 1 < w'.heap.size := by omega)); (try (have x6 : w6.heap.size + 1 < w'.heap.size := by omega)); (try (have y7 : w7.heap.size < w'.heap.size := by omega)); (try (have y8 : w8.heap.size < w'.heap.size := by omega)); (try (have y9 : w9.heap.size < w'.heap.size := by omega)); (try (have z10 : w1.heap.size < w'.heap.size + 1 := by omega)); (try (have z20 : w2.heap.size < w'.heap.size + 1 := by omega)); (try (have z30 : w3.heap.size < w'.heap.size + 1 := by omega)); (try (have z40 : w4.heap.size < w'.heap.size + 1 := by omega)); (try (have z50 : w5.heap.size < w'.heap.size + 1 := by omega)); (try (have z60 : w6.heap.size < w'.heap.size + 1 := by omega)); (try (have z70 : w7.heap.size < w'.heap.size + 1 := by omega)); (try (have z80 : w8.heap.size < w'.heap.size + 1 := by omega))
        have hu : Below X1.heap.size X1 w' := by (repeat (first | exact Below.refl _ _ | refine bl_drewN ?_ | refine bl_drew ?_ | refine bl_alloc ?_ _ | refine Below.setCell ?_ (by (first | (simp; done) | (simp; omega) | omega)) _ | refine bl_step (by assumption) ?_))
        have r0 : w'.cell? ⟨X1.heap.size, 0, none⟩ = some (.int .i64 8192) := by simp [go_sem, *]
        have r1 : w'.cell? ⟨X1.heap.size, 1, none⟩ = some (.int .i64 0) := by simp [go_sem, *]
        have r2 : w'.cell? ⟨X1.heap.size, 2, none⟩ = some (.int .i64 3000) := by simp [go_sem, *]
        clear hcell hfroz hz
        obtain ⟨T2, rfl⟩ : ∃ v, v = w' := ⟨_, rfl⟩
        have hb9 : Below w9.heap.size w9 T2 := bl_step hu hX
        replace hown := ownsRow_later hu hown
        have hne : some X1.heap.size ≠ (vN1 : Value).ownBlock := hnx
        clear hu
        refine wp_region_inv (fun a0 LL aa X2 => ∃ (l0 l1 l2 l3 l4 l5 l6 l7 l8 l9 l10 l11 l12 l13 l14 l15 l16 : Bool) (F2 : Nat) (vN2 : Value), LL = #[l0, l1, l2, l3, l4, l5, l6, l7, l8, l9, l10, l11, l12, l13, l14, l15, l16] ∧ aa = { a0 with tmps := (((((((((((((((((a0.tmps.setIfInBounds 197 (cond l0 (vN1) (.slice none 0 0))).setIfInBounds 198 (cond l1 (.pointer (some ⟨X1.heap.size, 2, none⟩)) (.pointer (some ⟨w9.heap.size, 2, none⟩)))).setIfInBounds 199 (cond l2 (.int .i64 3000) (.int .i64 5000))).setIfInBounds 200 (cond l3 (.pointer (some ⟨X1.heap.size, 0, none⟩)) (.pointer (some ⟨w9.heap.size, 0, none⟩)))).setIfInBounds 201 (cond l4 (.int .i64 8192) (.int .i64 0))).setIfInBounds 202 (.int .i64 3000)).setIfInBounds 203 (cond l6 (.int .i64 24576000) (.int .i64 0))).setIfInBounds 204 (cond l7 (.pointer (some ⟨X1.heap.size, 1, none⟩)) (.pointer (some ⟨w9.heap.size, 1, none⟩)))).setIfInBounds 205 (cond l8 (.int .i64 0) (.int .i64 8192))).setIfInBounds 206 (.int .i64 5000)).setIfInBounds 207 (cond l10 (.int .i64 0) (.int .i64 40960000))).setIfInBounds 208 (cond l11 (.int .i64 24576000) (.int .i64 40960000))).setIfInBounds 209 (cond l12 (.int .i64 3000) (.int .i64 5000))).setIfInBounds 210 (.int .i64 0)).setIfInBounds 211 (cond l14 (.slice (some ⟨F2, 0, none⟩) 1 1) (.slice (some ⟨F1, 0, none⟩) 1 1))).setIfInBounds 212 (cond l15 (vN2) (vN1))).setIfInBounds 24 (cond l16 (vN2) (vN1))) } ∧ Below w9.heap.size w9 X2 ∧ Kept T2 X2 (vN1 : Value).ownBlock ∧ (l15 = true → l0 = true) ∧ (l15 = true → l14 = true) ∧ (l16 = true → l15 = true) ∧ (l14 = true → l15 = false → X2.cell? ⟨F2, 0, none⟩ = some (.int .i64 0)) ∧ (l15 = false → X2.ownsRow w9.heap.size 3 1 (vN1) 1 ([] ++ [.int .i64 0])) ∧ (l15 = true → X2.ownsRow w9.heap.size 3 1 vN2 2 (([] ++ [.int .i64 0]) ++ [.int .i64 0]))) (by kernel_rfl) (by kernel_rfl) ?h0 ?hsize ?hdone ?hstep
        case h0 =>
          refine ⟨false, false, false, false, false, false, false, false, false, false, false, false, false, false, false, false, false, 0, .bool false, rfl, ?_, by (repeat (first | exact Below.refl _ _ | refine bl_drewN ?_ | refine bl_drew ?_ | refine bl_alloc ?_ _ | refine Below.setCell ?_ (by (first | (simp; done) | (simp; omega) | omega)) _ | refine bl_step (by assumption) ?_)), Kept.below (by (repeat (first | exact Below.refl _ _ | refine bl_drewN ?_ | refine bl_drew ?_ | refine bl_alloc ?_ _ | refine Below.setCell ?_ (by (first | (simp; done) | (simp; omega) | omega)) _ | refine bl_step (by assumption) ?_))) (Kept.refl _ _), (fun h => by cases h), (fun h => by cases h), (fun h => by cases h), (fun h => by cases h), (fun _ => ownsRow_later (by (repeat (first | exact Below.refl _ _ | refine bl_drewN ?_ | refine bl_drew ?_ | refine bl_alloc ?_ _ | refine Below.setCell ?_ (by (first | (simp; done) | (simp; omega) | omega)) _ | refine bl_step (by assumption) ?_))) hown), (fun h => by cases h)⟩
          simp only [cond_false, List.setIfInBounds_toArray, List.set_cons_zero, List.set_cons_succ]
        case hsize =>
          intro LL aa X2 h
          obtain ⟨l0, l1, l2, l3, l4, l5, l6, l7, l8, l9, l10, l11, l12, l13, l14, l15, l16, F2, vN2, hL, _⟩ := h
          rw [hL]
          rfl
        case hstep =>
          intro LL aa X2 h
          obtain ⟨l0, l1, l2, l3, l4, l5, l6, l7, l8, l9, l10, l11, l12, l13, l14, l15, l16, F2, vN2, hL, ha, hb0, hk, q3, q1, q2, he, ho0, ho1⟩ := h
          simp only [List.setIfInBounds_toArray, List.set_cons_zero, List.set_cons_succ] at ha
          subst hL
          subst ha
          refine ⟨?s0, ?s1, ?s2, ?s3, ?s4, ?s5, ?s6, ?s7, ?s8, ?s9, ?s10, ?s11, ?s12, ?s13, ?s14, ?s15, ?s16, trivial⟩
          case s0 =>
            intro ff gg KK hK
            have f0 : l0 = false := ff
            clear ff gg
            subst f0
            have f1 : l15 = false := by cases hl : l15; rfl; exact absurd (q3 hl) (by simp)
            subst f1
            have f2 : l16 = false := by cases hl : l16; rfl; exact absurd (q2 hl) (by simp)
            subst f2
            simp only [cond_false]
            go_simp
            exact hK _ _ ⟨true, l1, l2, l3, l4, l5, l6, l7, l8, l9, l10, l11, l12, l13, l14, false, false, F2, vN2, rfl, (by simp only [cond_true, cond_false, List.setIfInBounds_toArray, List.set_cons_zero, List.set_cons_succ]), hb0, hk, (fun _ => rfl), q1, q2, he, ho0, ho1⟩
          case s1 =>
            intro ff gg KK hK
            have f0 : l1 = false := ff
            clear ff gg
            subst f0
            simp only [cond_false]
            go_simp
            exact hK _ _ ⟨l0, true, l2, l3, l4, l5, l6, l7, l8, l9, l10, l11, l12, l13, l14, l15, l16, F2, vN2, rfl, (by simp only [cond_true, List.setIfInBounds_toArray, List.set_cons_zero, List.set_cons_succ]), hb0, hk, q3, q1, q2, he, ho0, ho1⟩
          case s2 =>
            intro ff gg KK hK
            have t1 : l1 = true := gg ⟨1, .data⟩ (by simp) (by rfl)
            have f0 : l2 = false := ff
            clear ff gg
            subst t1
            subst f0
            simp only [cond_true, cond_false]
            have j0 := hk.cell hne r2
            go_simp
            exact hK _ _ ⟨l0, true, true, l3, l4, l5, l6, l7, l8, l9, l10, l11, l12, l13, l14, l15, l16, F2, vN2, rfl, (by simp only [cond_true, List.setIfInBounds_toArray, List.set_cons_zero, List.set_cons_succ]), hb0, hk, q3, q1, q2, he, ho0, ho1⟩
          case s3 =>
            intro ff gg KK hK
            have f0 : l3 = false := ff
            clear ff gg
            subst f0
            simp only [cond_false]
            go_simp
            exact hK _ _ ⟨l0, l1, l2, true, l4, l5, l6, l7, l8, l9, l10, l11, l12, l13, l14, l15, l16, F2, vN2, rfl, (by simp only [cond_true, List.setIfInBounds_toArray, List.set_cons_zero, List.set_cons_succ]), hb0, hk, q3, q1, q2, he, ho0, ho1⟩
          case s4 =>
            intro ff gg KK hK
            have t3 : l3 = true := gg ⟨3, .data⟩ (by simp) (by rfl)
            have f0 : l4 = false := ff
            clear ff gg
            subst t3
            subst f0
            simp only [cond_true, cond_false]
            have j0 := hk.cell hne r0
            go_simp
            exact hK _ _ ⟨l0, l1, l2, true, true, l5, l6, l7, l8, l9, l10, l11, l12, l13, l14, l15, l16, F2, vN2, rfl, (by simp only [cond_true, List.setIfInBounds_toArray, List.set_cons_zero, List.set_cons_succ]), hb0, hk, q3, q1, q2, he, ho0, ho1⟩
          case s5 =>
            intro ff gg KK hK
            have f0 : l5 = false := ff
            clear ff gg
            subst f0
            simp only
            go_simp
            exact hK _ _ ⟨l0, l1, l2, l3, l4, true, l6, l7, l8, l9, l10, l11, l12, l13, l14, l15, l16, F2, vN2, rfl, (by simp only [List.setIfInBounds_toArray, List.set_cons_zero, List.set_cons_succ]), hb0, hk, q3, q1, q2, he, ho0, ho1⟩
          case s6 =>
            intro ff gg KK hK
            have t4 : l4 = true := gg ⟨4, .data⟩ (by simp) (by rfl)
            have t5 : l5 = true := gg ⟨5, .data⟩ (by simp) (by rfl)
            have f0 : l6 = false := ff
            clear ff gg
            subst t4 t5
            subst f0
            simp only [cond_true, cond_false]
            go_simp
            exact hK _ _ ⟨l0, l1, l2, l3, true, true, true, l7, l8, l9, l10, l11, l12, l13, l14, l15, l16, F2, vN2, rfl, (by first | (simp only [cond_true, List.setIfInBounds_toArray, List.set_cons_zero, List.set_cons_succ]; done) | (simp [cond_true, List.setIfInBounds_toArray, List.set_cons_zero, List.set_cons_succ, IntKind.wrap_i64]; done) | (simp [cond_true, List.setIfInBounds_toArray, List.set_cons_zero, List.set_cons_succ]; decide)), hb0, hk, q3, q1, q2, he, ho0, ho1⟩
          case s7 =>
            intro ff gg KK hK
            have f0 : l7 = false := ff
            clear ff gg
            subst f0
            simp only [cond_false]
            go_simp
            exact hK _ _ ⟨l0, l1, l2, l3, l4, l5, l6, true, l8, l9, l10, l11, l12, l13, l14, l15, l16, F2, vN2, rfl, (by simp only [cond_true, List.setIfInBounds_toArray, List.set_cons_zero, List.set_cons_succ]), hb0, hk, q3, q1, q2, he, ho0, ho1⟩
          case s8 =>
            intro ff gg KK hK
            have t7 : l7 = true := gg ⟨7, .data⟩ (by simp) (by rfl)
            have f0 : l8 = false := ff
            clear ff gg
            subst t7
            subst f0
            simp only [cond_true, cond_false]
            have j0 := hk.cell hne r1
            go_simp
            exact hK _ _ ⟨l0, l1, l2, l3, l4, l5, l6, true, true, l9, l10, l11, l12, l13, l14, l15, l16, F2, vN2, rfl, (by simp only [cond_true, List.setIfInBounds_toArray, List.set_cons_zero, List.set_cons_succ]), hb0, hk, q3, q1, q2, he, ho0, ho1⟩
          case s9 =>
            intro ff gg KK hK
            have f0 : l9 = false := ff
            clear ff gg
            subst f0
            simp only
            go_simp
            exact hK _ _ ⟨l0, l1, l2, l3, l4, l5, l6, l7, l8, true, l10, l11, l12, l13, l14, l15, l16, F2, vN2, rfl, (by simp only [List.setIfInBounds_toArray, List.set_cons_zero, List.set_cons_succ]), hb0, hk, q3, q1, q2, he, ho0, ho1⟩
          case s10 =>
            intro ff gg KK hK
            have t8 : l8 = true := gg ⟨8, .data⟩ (by simp) (by rfl)
            have t9 : l9 = true := gg ⟨9, .data⟩ (by simp) (by rfl)
            have f0 : l10 = false := ff
            clear ff gg
            subst t8 t9
            subst f0
            simp only [cond_true, cond_false]
            go_simp
            exact hK _ _ ⟨l0, l1, l2, l3, l4, l5, l6, l7, true, true, true, l11, l12, l13, l14, l15, l16, F2, vN2, rfl, (by first | (simp only [cond_true, List.setIfInBounds_toArray, List.set_cons_zero, List.set_cons_succ]; done) | (simp [cond_true, List.setIfInBounds_toArray, List.set_cons_zero, List.set_cons_succ, IntKind.wrap_i64]; done) | (simp [cond_true, List.setIfInBounds_toArray, List.set_cons_zero, List.set_cons_succ]; decide)), hb0, hk, q3, q1, q2, he, ho0, ho1⟩
          case s11 =>
            intro ff gg KK hK
            have t6 : l6 = true := gg ⟨6, .data⟩ (by simp) (by rfl)
            have t10 : l10 = true := gg ⟨10, .data⟩ (by simp) (by rfl)
            have f0 : l11 = false := ff
            clear ff gg
            subst t6 t10
            subst f0
            simp only [cond_true, cond_false]
            go_simp
            exact hK _ _ ⟨l0, l1, l2, l3, l4, l5, true, l7, l8, l9, true, true, l12, l13, l14, l15, l16, F2, vN2, rfl, (by first | (simp only [cond_true, List.setIfInBounds_toArray, List.set_cons_zero, List.set_cons_succ]; done) | (simp [cond_true, List.setIfInBounds_toArray, List.set_cons_zero, List.set_cons_succ, IntKind.wrap_i64]; done) | (simp [cond_true, List.setIfInBounds_toArray, List.set_cons_zero, List.set_cons_succ]; decide)), hb0, hk, q3, q1, q2, he, ho0, ho1⟩
          case s12 =>
            intro ff gg KK hK
            have t11 : l11 = true := gg ⟨11, .data⟩ (by simp) (by rfl)
            have f0 : l12 = false := ff
            clear ff gg
            subst t11
            subst f0
            simp only [cond_true, cond_false]
            go_simp
            go_at_call 40
            with_reducible refine (FB.out _).mono ?_
            rintro e w' ⟨rfl, rfl⟩
            exact hK _ _ ⟨l0, l1, l2, l3, l4, l5, l6, l7, l8, l9, l10, true, true, l13, l14, l15, l16, F2, vN2, rfl, (by simp only [cond_true, List.setIfInBounds_toArray, List.set_cons_zero, List.set_cons_succ]), hb0, hk, q3, q1, q2, he, ho0, ho1⟩
          case s13 =>
            intro ff gg KK hK
            have t2 : l2 = true := gg ⟨2, .data⟩ (by simp) (by rfl)
            have t12 : l12 = true := gg ⟨12, .data⟩ (by simp) (by rfl)
            have f0 : l13 = false := ff
            clear ff gg
            subst t2 t12
            subst f0
            simp only [cond_true]
            go_simp
            exact hK _ _ ⟨l0, l1, true, l3, l4, l5, l6, l7, l8, l9, l10, l11, true, true, l14, l15, l16, F2, vN2, rfl, (by first | (simp only [cond_true, List.setIfInBounds_toArray, List.set_cons_zero, List.set_cons_succ]; done) | (simp [cond_true, List.setIfInBounds_toArray, List.set_cons_zero, List.set_cons_succ, IntKind.wrap_i64]; done) | (simp [cond_true, List.setIfInBounds_toArray, List.set_cons_zero, List.set_cons_succ]; decide)), hb0, hk, q3, q1, q2, he, ho0, ho1⟩
          case s14 =>
            intro ff gg KK hK
            have t13 : l13 = true := gg ⟨13, .data⟩ (by simp) (by rfl)
            have f0 : l14 = false := ff
            clear ff gg
            subst t13
            subst f0
            have f1 : l15 = false := by cases hl : l15; rfl; exact absurd (q1 hl) (by simp)
            subst f1
            simp only [cond_false]
            go_simp
            have hb : Below X2.heap.size X2 (X2.alloc (Obj.cells #[Value.int IntKind.i64 0] 3)) := by (repeat (first | exact Below.refl _ _ | refine bl_drewN ?_ | refine bl_drew ?_ | refine bl_alloc ?_ _ | refine Below.setCell ?_ (by (first | (simp; done) | (simp; omega) | omega)) _ | refine bl_step (by assumption) ?_))
            exact hK _ _ ⟨l0, l1, l2, l3, l4, l5, l6, l7, l8, l9, l10, l11, l12, true, true, false, l16, X2.heap.size, vN2, rfl, (by simp only [cond_true, cond_false, List.setIfInBounds_toArray, List.set_cons_zero, List.set_cons_succ]), bl_alloc hb0 _, Kept.below hb hk, (fun h => by cases h), (fun h => by cases h), q2, (fun _ _ => by simp [go_sem]), (fun _ => ownsRow_later hb (ho0 rfl)), (fun h => by cases h)⟩
          case s15 =>
            intro ff gg KK hK
            have t0 : l0 = true := gg ⟨0, .data⟩ (by simp) (by rfl)
            have t14 : l14 = true := gg ⟨14, .data⟩ (by simp) (by rfl)
            have t12 : l12 = true := gg ⟨12, .chain⟩ (by simp) (by rfl)
            have f0 : l15 = false := ff
            clear ff gg
            subst t0 t14 t12
            subst f0
            have f1 : l16 = false := by cases hl : l16; rfl; exact absurd (q2 hl) (by simp)
            subst f1
            simp only [cond_true, cond_false]
            rw [if_pos (by rfl)]
            apply step_append_own (s := .tmp 197) (x := .tmp 211) (t := 44) (base := w9.heap.size) (e := 3) (i := i1) (z := .int .i64 0) (size := 1) (bytes := 8) (v := vN1) (n := 1) (xs := ([] ++ [.int .i64 0])) (ad := ⟨F2, 0, none⟩) (m := 1) (c := 1) (news := [.int .i64 0])
            case ho => rfl
            case ht => exact Try.underlying44
            case hi => exact hj
            case hz => exact hj0
            case hsize => exact hj1
            case hby => exact hj2
            case hzs => rfl
            case hsz => decide
            case hs => rfl
            case hown => exact ho0 rfl
            case hx => rfl
            case hl => rfl
            case hnews => exact newsAt (he rfl rfl)
            case h1 => exact one1 _
            case h63 => decide
            case hbytes => decide
            case hbase => exact hb0.size
            intro vx w' hn hg
            exact hK _ _ ⟨true, l1, l2, l3, l4, l5, l6, l7, l8, l9, l10, l11, true, l13, true, true, false, F2, vx, rfl, (by simp only [Act.put, cond_true, cond_false, List.setIfInBounds_toArray, List.set_cons_zero, List.set_cons_succ]), Below.grown hb0 hg hb0.size (fun k hk => ((ho0 rfl).lt k hk).1), Kept.grown hg hk, (fun _ => rfl), (fun _ => rfl), (fun h => by cases h), (fun _ h => by cases h), (fun h => by cases h), (fun _ => hn)⟩
          case s16 =>
            intro ff gg KK hK
            have t15 : l15 = true := gg ⟨15, .data⟩ (by simp) (by rfl)
            have f0 : l16 = false := ff
            clear ff gg
            subst t15
            subst f0
            have f1 : l0 = true := q3 rfl
            subst f1
            have f2 : l14 = true := q1 rfl
            subst f2
            simp only [cond_true, cond_false]
            go_simp
            exact hK _ _ ⟨true, l1, l2, l3, l4, l5, l6, l7, l8, l9, l10, l11, l12, l13, true, true, true, F2, vN2, rfl, (by simp only [cond_true, List.setIfInBounds_toArray, List.set_cons_zero, List.set_cons_succ]), hb0, hk, q3, q1, (fun _ => rfl), he, ho0, ho1⟩
        case hdone =>
          intro LL aa X2 h hd
          obtain ⟨l0, l1, l2, l3, l4, l5, l6, l7, l8, l9, l10, l11, l12, l13, l14, l15, l16, F2, vN2, hL, ha, hb0, hk, q3, q1, q2, he, ho0, ho1⟩ := h
          rw [hL] at hd
          have t0 : l0 = true := hd 0 (by decide)
          have t1 : l1 = true := hd 1 (by decide)
          have t2 : l2 = true := hd 2 (by decide)
          have t3 : l3 = true := hd 3 (by decide)
          have t4 : l4 = true := hd 4 (by decide)
          have t5 : l5 = true := hd 5 (by decide)
          have t6 : l6 = true := hd 6 (by decide)
          have t7 : l7 = true := hd 7 (by decide)
          have t8 : l8 = true := hd 8 (by decide)
          have t9 : l9 = true := hd 9 (by decide)
          have t10 : l10 = true := hd 10 (by decide)
          have t11 : l11 = true := hd 11 (by decide)
          have t12 : l12 = true := hd 12 (by decide)
          have t13 : l13 = true := hd 13 (by decide)
          have t14 : l14 = true := hd 14 (by decide)
          have t15 : l15 = true := hd 15 (by decide)
          have t16 : l16 = true := hd 16 (by decide)
          clear hd hL q1 q2 he ho0
          subst t0 t1 t2 t3 t4 t5 t6 t7 t8 t9 t10 t11 t12 t13 t14 t15 t16
          simp only [cond_true, List.setIfInBounds_toArray, List.set_cons_zero, List.set_cons_succ] at ha
          subst ha
          replace hown := ho1 rfl
          clear ho1 hk
          go_wp2
          have hX := hb0
          clear hb0 r0 r1 r2 hne hb9
          rw [rounds_succ]
          rcases hown.2 with ⟨_, hn0⟩ | ⟨g2, cap2, cur2, rfl, hg2, _⟩
          · cases hn0
          have y0 : X2.cell? ⟨g2, 0, none⟩ = some (.int .i64 0) := hown.cellAt 0 (by decide)
          have y1 : X2.cell? ⟨g2, 1, none⟩ = some (.int .i64 0) := hown.cellAt 1 (by decide)
          have e9 := hV.size
          have lr : w.heap.size < V0.heap.size := World.block_lt_of_cell? _ _ cr0
          have hV2 : Below V0.heap.size V0 X2 := bl_step hX hV
          have p1 := cell_later hV2 c1
          have q0 := cell_later hV2 cr0
          have q1 := cell_later hV2 cr1
          have cf : ∀ o, X2.frozen? ⟨w.heap.size, o, none⟩ = false := fun o => (hV2.frozen (p := ⟨w.heap.size, o, none⟩) lr).trans (cg o)
          have hwX : Below w.heap.size w X2 := bl_step hV2 hw
          have nB : B1 ≠ w.heap.size := by omega
          have ng : g2 ≠ w.heap.size := by omega
          have lB : B1 < X2.heap.size := World.block_lt_of_cell? _ _ p1
          have lg2 : g2 < X2.heap.size := World.block_lt_of_cell? _ _ y0
          have lw : w.heap.size < X2.heap.size := World.block_lt_of_cell? _ _ q0
          clear hown hV2 hX hV
          have wx : IntKind.i64.wrap (3000 * 1073741824) = 3221225472000 := by rw [IntKind.wrap_i64]; rfl
          have wz : IntKind.i64.wrap (0 + 3000) = 3000 := by rw [IntKind.wrap_i64]; rfl
          go_wp2
          go_region_held3 (fun v => Below w.heap.size w v ∧ (∀ b o, b ≠ w.heap.size → b < X2.heap.size → v.cell? ⟨b, o, none⟩ = X2.cell? ⟨b, o, none⟩) ∧ (∀ b o, b < X2.heap.size → v.frozen? ⟨b, o, none⟩ = X2.frozen? ⟨b, o, none⟩)) (first | exact held5_start (by assumption) | (refine held5_of (by assumption) ?_; (repeat (first | exact Below.refl _ _ | refine bl_drewN ?_ | refine bl_drew ?_ | refine bl_alloc ?_ _ | refine Below.setCell ?_ (by (first | (simp; done) | (simp; omega) | omega)) _ | refine bl_step (by assumption) ?_)); done) | (refine held5_store (by assumption) ?_ (by omega) _ _; (repeat (first | exact Below.refl _ _ | refine bl_drewN ?_ | refine bl_drew ?_ | refine bl_alloc ?_ _ | refine Below.setCell ?_ (by (first | (simp; done) | (simp; omega) | omega)) _ | refine bl_step (by assumption) ?_)); done)) (first | (go_at_call 40; ((first | with_reducible refine (FL.out _).mono ?_ | refine (FL.out _).mono ?_); rintro e w' ⟨rfl, hb⟩); (try replace hb := below_undrew hb); (try replace hb := below_undrewN hb); obtain ⟨hcell, hfroz⟩ := bcell hb; have hz := hb.size; (try simp at hz); (try (have z6 := Nat.lt_of_lt_of_le z7 hz)); (try (have z7 := Nat.lt_of_lt_of_le z8 hz)); (try (have z8 := Nat.lt_of_lt_of_le z9 hz)); (try (have z9 := Nat.lt_of_lt_of_le (Nat.lt_succ_self _) hz)); (try (have z0 : w.heap.size < w'.heap.size := by omega)); (try (have z1 : w.heap.size + 1 < w'.heap.size := by omega)); (try (have z2 : w.heap.size + 1 + 1 < w'.heap.size := by omega)); (try (have z3 : w.heap.size + 1 + 1 + 1 < w'.heap.size := by omega)); (try (have y1 : w1.heap.size < w'.heap.size := by omega)); (try (have y2 : w2.heap.size < w'.heap.size := by omega)); (try (have y3 : w3.heap.size < w'.heap.size := by omega)); (try (have y4 : w4.heap.size < w'.heap.size := by omega)); (try (have y5 : w5.heap.size < w'.heap.size := by omega)); (try (have y6 : w6.heap.size < w'.heap.size := by omega)); (try (have x1 : w1.heap.size + 1 < w'.heap.size := by omega)); (try (have x2 : w2.heap.size + 1 < w'.heap.size := by omega)); (try (have x3 : w3.heap.size + 1 < w'.heap.size := by omega)); (try (have x4 : w4.heap.size + 1 < w'.heap.size := by omega)); (try (have x5 : w5.heap.size + 1 < w'.heap.size := by omega)); (try (have x6 : w6.heap.size + 1 < w'.heap.size := by omega)); (try (have y7 : w7.heap.size < w'.heap.size := by omega)); (try (have y8 : w8.heap.size < w'.heap.size := by omega)); (try (have y9 : w9.heap.size < w'.heap.size := by omega)); (try (have z10 : w1.heap.size < w'.heap.size + 1 := by omega)); (try (have z20 : w2.heap.size < w'.heap.size + 1 := by omega)); (try (have z30 : w3.heap.size < w'.heap.size + 1 := by omega)); (try (have z40 : w4.heap.size < w'.heap.size + 1 := by omega)); (try (have z50 : w5.heap.size < w'.heap.size + 1 := by omega)); (try (have z60 : w6.heap.size < w'.heap.size + 1 := by omega)); (try (have z70 : w7.heap.size < w'.heap.size + 1 := by omega)); (try (have z80 : w8.heap.size < w'.heap.size + 1 := by omega))) | (go_at_call 42; ((first | with_reducible refine (SG.out _).mono ?_ | refine (SG.out _).mono ?_); rintro e w' ⟨rfl, hb⟩); (try replace hb := below_undrew hb); (try replace hb := below_undrewN hb); obtain ⟨hcell, hfroz⟩ := bcell hb; have hz := hb.size; (try simp at hz); (try (have z6 := Nat.lt_of_lt_of_le z7 hz)); (try (have z7 := Nat.lt_of_lt_of_le z8 hz)); (try (have z8 := Nat.lt_of_lt_of_le z9 hz)); (try (have z9 := Nat.lt_of_lt_of_le (Nat.lt_succ_self _) hz)); (try (have z0 : w.heap.size < w'.heap.size := by omega)); (try (have z1 : w.heap.size + 1 < w'.heap.size := by omega)); (try (have z2 : w.heap.size + 1 + 1 < w'.heap.size := by omega)); (try (have z3 : w.heap.size + 1 + 1 + 1 < w'.heap.size := by omega)); (try (have y1 : w1.heap.size < w'.heap.size := by omega)); (try (have y2 : w2.heap.size < w'.heap.size := by omega)); (try (have y3 : w3.heap.size < w'.heap.size := by omega)); (try (have y4 : w4.heap.size < w'.heap.size := by omega)); (try (have y5 : w5.heap.size < w'.heap.size := by omega)); (try (have y6 : w6.heap.size < w'.heap.size := by omega)); (try (have x1 : w1.heap.size + 1 < w'.heap.size := by omega)); (try (have x2 : w2.heap.size + 1 < w'.heap.size := by omega)); (try (have x3 : w3.heap.size + 1 < w'.heap.size := by omega)); (try (have x4 : w4.heap.size + 1 < w'.heap.size := by omega)); (try (have x5 : w5.heap.size + 1 < w'.heap.size := by omega)); (try (have x6 : w6.heap.size + 1 < w'.heap.size := by omega)); (try (have y7 : w7.heap.size < w'.heap.size := by omega)); (try (have y8 : w8.heap.size < w'.heap.size := by omega)); (try (have y9 : w9.heap.size < w'.heap.size := by omega)); (try (have z10 : w1.heap.size < w'.heap.size + 1 := by omega)); (try (have z20 : w2.heap.size < w'.heap.size + 1 := by omega)); (try (have z30 : w3.heap.size < w'.heap.size + 1 := by omega)); (try (have z40 : w4.heap.size < w'.heap.size + 1 := by omega)); (try (have z50 : w5.heap.size < w'.heap.size + 1 := by omega)); (try (have z60 : w6.heap.size < w'.heap.size + 1 := by omega)); (try (have z70 : w7.heap.size < w'.heap.size + 1 := by omega)); (try (have z80 : w8.heap.size < w'.heap.size + 1 := by omega))))
          go_wp2
          exact bodyPost_ret (v := .tuple #[.agg #[.int .i64 5000, .int .i64 3000], .slice (some ⟨g2, 0, none⟩) 2 cap2, .int .i64 0]) (by first | (simp only [results, Try.results13]; go_simp; done) | simp [results, Try.results13, go_sem, *]) rfl ⟨⟨g2, cap2, rfl, by simp [go_sem, *], by simp [go_sem, *]⟩, by (repeat (first | (with_reducible exact Below.refl _ _) | (with_reducible refine Below.setCell ?_ (by (first | (simp; done) | (simp; omega) | omega)) _) | (with_reducible refine bl_alloc ?_ _) | (with_reducible refine bl_drewN ?_) | (with_reducible refine bl_drew ?_) | (with_reducible refine bl_step (by assumption) ?_)))⟩

end Go.Proofs.Ytjceofmhodcefaa
