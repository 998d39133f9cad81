/- meridian.Transit, of a star. -/
import Derived.Test.YtdhbeoahpfimbaaGreatLha
namespace Go.Proofs.YtdhbeoahpfimbaaGreat
open Go.RowKit
/-- The part of two hours from its first instant on. -/
def ptT (x : Int) (j : Nat) : Int := x + (j : Int) * 3600000 / 4096
theorem ptT_succ (x : Int) (i : Nat) : ptT x (i + 1) = x + ((i : Int) + 1) * 3600000 / 4096 := by simp [ptT]
set_option maxHeartbeats 4000000 in
theorem transit_walk (b : Nat) (t : ByteArray) (l fr : Int) (g : Int → Int → Bool) (w : World) (hb : b < w.heap.size) (l0 : -10800000 ≤ l) (l1 : l ≤ 10800000) (f0 : -70368744177664 ≤ fr) (f1 : fr ≤ 70368528177664)
    (AG : Hid (∀ wq a c, Below w.heap.size w wq → a ≤ c → -70368744177664 ≤ a → c ≤ 70368744177664 → c - a < 86400000 → Calls Tryz.prog 102 #[.pointer (some ⟨b, 0, none⟩), .string t, .agg #[.int .i64 l, .int .i64 l], .int .i64 a, .int .i64 c] wq fun e w' => e = .returned (.tuple #[.bool (g a c), .int .i64 0]) ∧ Below wq.heap.size wq w'))
    (k0 p0 q0 : Nat) (hk0 : k0 ≤ 25) (G0 : Hid (g (fr + k0 * 3600000) (fr + k0 * 3600000 + 3600000) = true)) (F0 : Hid (∀ j : Nat, j < k0 → g (fr + j * 3600000) (fr + j * 3600000 + 3600000) = false))
    (hp0 : p0 ≤ q0) (hq0 : q0 < 8192) (GP : Hid (g (ptT (fr + k0 * 3600000) p0) (ptT (fr + k0 * 3600000) (p0 + 1)) = true)) (FP : Hid (∀ j, j < p0 → g (ptT (fr + k0 * 3600000) j) (ptT (fr + k0 * 3600000) (j + 1)) = false))
    (GQ : Hid (g (ptT (fr + k0 * 3600000) q0) (ptT (fr + k0 * 3600000) (q0 + 1)) = true)) (FQ : Hid (∀ j, q0 < j → j < 8192 → g (ptT (fr + k0 * 3600000) j) (ptT (fr + k0 * 3600000) (j + 1)) = false)) :
    Calls Tryz.prog 29 #[.pointer (some ⟨b, 0, none⟩), .string t, .agg #[.int .i64 l, .int .i64 l], .int .i64 fr] w fun e w' => e = .returned (.tuple #[.agg #[.int .i64 (ptT (fr + k0 * 3600000) p0), .int .i64 (ptT (fr + k0 * 3600000) (q0 + 1))], .int .i64 0]) ∧ Below w.heap.size w w' := by
  have LV : arcB l l = true := arcB_mk (by omega)
  have m1 : b < w.heap.size + 1 := by omega
  have m2 : b < w.heap.size + 1 + 1 := by omega
  have qa : decide (fr < -70368744177664) = false := by simp; omega
  have qb : decide (70368646977664 < fr) = false := by simp; omega
  go_enter Tryz.func29, Tryz.ntmps29
  go_wp2_with (go_at_call 45; ((with_reducible refine (valid_any _ _ _).mono ?_); rintro e w' ⟨rfl, hb⟩); (try replace hb := below_undrew hb); (try replace hb := below_undrewN hb); obtain ⟨hcell, hfroz⟩ := bcell hb; have hz := hb.size; (try simp at hz); (try (have z6 := Nat.lt_of_lt_of_le z7 hz)); (try (have z7 := Nat.lt_of_lt_of_le z8 hz)); (try (have z8 := Nat.lt_of_lt_of_le z9 hz)); (try (have z9 := Nat.lt_of_lt_of_le (Nat.lt_succ_self _) hz)); (try have z0 : w.heap.size < w'.heap.size := by omega); (try have z1 : w.heap.size + 1 < w'.heap.size := by omega); (try have z2 : w.heap.size + 1 + 1 < w'.heap.size := by omega); (try have z3 : w.heap.size + 1 + 1 + 1 < w'.heap.size := by omega); obtain ⟨w1, rfl⟩ : ∃ v, v = w' := ⟨_, rfl⟩)
  have s0 : w1.cell? ⟨w.heap.size, 0, none⟩ = some (.int .i64 l) := by simp [go_sem, *]
  have s1 : w1.cell? ⟨w.heap.size, 1, none⟩ = some (.int .i64 l) := by simp [go_sem, *]
  have r0 : w1.cell? ⟨w.heap.size + 1, 0, none⟩ = some (.int .i64 0) := by simp [go_sem, *]
  have r1 : w1.cell? ⟨w.heap.size + 1, 1, none⟩ = some (.int .i64 0) := by simp [go_sem, *]
  have rf : ∀ o, w1.frozen? ⟨w.heap.size + 1, o, none⟩ = false := by intro o; simp [go_sem, *]
  have hw1 : Below w.heap.size w w1 := by (repeat (first | (with_reducible exact Below.refl _ _) | (with_reducible refine Below.setCell ?_ (by (first | (simp; done) | (simp; omega) | omega)) _) | (with_reducible refine bl_alloc ?_ _) | (with_reducible refine bl_drewN ?_) | (with_reducible refine bl_drew ?_) | (with_reducible refine bl_step (by assumption) ?_)))
  clear hcell hfroz hz hb
  go_loopw [10, 11, 12] (fun sv fv kv wr => ∃ (k : Nat) (m : Bool) (x : Int), kv = .int .i64 k ∧ fv = .bool m ∧ sv = .int .i64 x ∧ k ≤ 26 ∧ Hid (m = false → k ≤ k0) ∧ Hid (m = true → x = fr + k0 * 3600000) ∧ Below w1.heap.size w1 wr) (fun _ _ iv _ => 40 - (intOf iv).toNat)
  case atStart => exact ⟨0, false, _, rfl, rfl, rfl, by omega, (fun _ => Nat.zero_le _), (fun h => by cases h), Below.refl _ _⟩
  case round =>
    obtain ⟨k, m, x, rfl, rfl, rfl, hk, hm0, hm1, hb1⟩ := hrel
    have hz1 := hb1.size
    have t0 := cell_later hb1 s0
    have t1 := cell_later hb1 s1
    have u0 := cell_later hb1 r0
    have u1 := cell_later hb1 r1
    have uf : ∀ o, wr.frozen? ⟨w.heap.size + 1, o, none⟩ = false := fun o => by rw [(bcell hb1).2 _ _ (World.block_lt_of_cell? _ _ r0)]; exact rf o
    have hwr : Below w.heap.size w wr := bl_step hb1 hw1
    have lr0 : w.heap.size < wr.heap.size := World.block_lt_of_cell? _ _ t0
    have lr1 : w.heap.size + 1 < wr.heap.size := World.block_lt_of_cell? _ _ u0
    cases m with
    | false =>
      have kk : k ≤ k0 := hm0.out rfl
      clear hm0 hm1
      have d0 : decide ((k : Int) ≤ 25) = true := by simp; omega
      have AH := AG.out wr (fr + k * 3600000) (fr + k * 3600000 + 3600000) hwr (by omega) (by omega) (by omega) (by omega)
      by_cases ke : k = k0
      · have GV : g (fr + k * 3600000) (fr + k * 3600000 + 3600000) = true := by rw [ke]; exact G0.out
        rw [GV] at AH
        replace AH := hidden AH
        replace ke := hidden ke
        clear GV
        go_wp2_with (go_at_call 102; ((with_reducible refine AH.out.mono ?_); rintro e w' ⟨rfl, hb⟩); (try replace hb := below_undrew hb); (try replace hb := below_undrewN hb); obtain ⟨hcell, hfroz⟩ := bcell hb; have hz := hb.size; (try simp at hz); (try (have z6 := Nat.lt_of_lt_of_le z7 hz)); (try (have z7 := Nat.lt_of_lt_of_le z8 hz)); (try (have z8 := Nat.lt_of_lt_of_le z9 hz)); (try (have z9 := Nat.lt_of_lt_of_le (Nat.lt_succ_self _) hz)); (try have z0 : w.heap.size < w'.heap.size := by omega); (try have z1 : w.heap.size + 1 < w'.heap.size := by omega); (try have z2 : w.heap.size + 1 + 1 < w'.heap.size := by omega); (try have z3 : w.heap.size + 1 + 1 + 1 < w'.heap.size := by omega); (try have y1 : w1.heap.size < w'.heap.size := by omega); (try have y2 : w2.heap.size < w'.heap.size := by omega); (try have y3 : w3.heap.size < w'.heap.size := by omega); (try have x1 : w1.heap.size + 1 < w'.heap.size := by omega); (try have x2 : w2.heap.size + 1 < w'.heap.size := by omega); (try have x3 : w3.heap.size + 1 < w'.heap.size := by omega); (try have z10 : w1.heap.size < w'.heap.size + 1 := by omega); (try have z20 : w2.heap.size < w'.heap.size + 1 := by omega); (try have z30 : w3.heap.size < w'.heap.size + 1 := by omega))
        exact ⟨⟨k + 1, true, _, by go_num, rfl, rfl, by omega, (fun h => by cases h), (fun _ => by rw [ke.out]), bl_step hb hb1⟩, by simp [intOf]; omega⟩
      · rw [F0.out k (by omega)] at AH
        replace AH := hidden AH
        go_wp2_with (go_at_call 102; ((with_reducible refine AH.out.mono ?_); rintro e w' ⟨rfl, hb⟩); (try replace hb := below_undrew hb); (try replace hb := below_undrewN hb); obtain ⟨hcell, hfroz⟩ := bcell hb; have hz := hb.size; (try simp at hz); (try (have z6 := Nat.lt_of_lt_of_le z7 hz)); (try (have z7 := Nat.lt_of_lt_of_le z8 hz)); (try (have z8 := Nat.lt_of_lt_of_le z9 hz)); (try (have z9 := Nat.lt_of_lt_of_le (Nat.lt_succ_self _) hz)); (try have z0 : w.heap.size < w'.heap.size := by omega); (try have z1 : w.heap.size + 1 < w'.heap.size := by omega); (try have z2 : w.heap.size + 1 + 1 < w'.heap.size := by omega); (try have z3 : w.heap.size + 1 + 1 + 1 < w'.heap.size := by omega); (try have y1 : w1.heap.size < w'.heap.size := by omega); (try have y2 : w2.heap.size < w'.heap.size := by omega); (try have y3 : w3.heap.size < w'.heap.size := by omega); (try have x1 : w1.heap.size + 1 < w'.heap.size := by omega); (try have x2 : w2.heap.size + 1 < w'.heap.size := by omega); (try have x3 : w3.heap.size + 1 < w'.heap.size := by omega); (try have z10 : w1.heap.size < w'.heap.size + 1 := by omega); (try have z20 : w2.heap.size < w'.heap.size + 1 := by omega); (try have z30 : w3.heap.size < w'.heap.size + 1 := by omega))
        exact ⟨⟨k + 1, false, _, by go_num, rfl, rfl, by omega, (fun _ => by omega), (fun h => by cases h), bl_step hb hb1⟩, by simp [intOf]; omega⟩
    | true =>
      obtain ⟨dd, d0⟩ : ∃ dd, decide ((k : Int) ≤ 25) = dd := ⟨_, rfl⟩
      cases dd <;> (
        have hx := hm1.out rfl
        have x0 : fr ≤ x := by omega
        have x1 : x ≤ fr + 90000000 := by omega
        clear hm0 hm1
        rw [← hx] at GP FP GQ FQ ⊢
        replace hx := hidden hx
        go_wp2_with (go_at_call 102; ((with_reducible refine (AG.out _ _ _ (by (repeat (first | (with_reducible exact Below.refl _ _) | (with_reducible refine Below.setCell ?_ (by (first | (simp; done) | (simp; omega) | omega)) _) | (with_reducible refine bl_alloc ?_ _) | (with_reducible refine bl_drewN ?_) | (with_reducible refine bl_drew ?_) | (with_reducible refine bl_step (by assumption) ?_)))) (by omega) (by omega) (by omega) (by omega)).mono ?_); rintro e w' ⟨rfl, hb⟩); (try replace hb := below_undrew hb); (try replace hb := below_undrewN hb); obtain ⟨hcell, hfroz⟩ := bcell hb; have hz := hb.size; (try simp at hz); (try (have z6 := Nat.lt_of_lt_of_le z7 hz)); (try (have z7 := Nat.lt_of_lt_of_le z8 hz)); (try (have z8 := Nat.lt_of_lt_of_le z9 hz)); (try (have z9 := Nat.lt_of_lt_of_le (Nat.lt_succ_self _) hz)); (try have z0 : w.heap.size < w'.heap.size := by omega); (try have z1 : w.heap.size + 1 < w'.heap.size := by omega); (try have z2 : w.heap.size + 1 + 1 < w'.heap.size := by omega); (try have z3 : w.heap.size + 1 + 1 + 1 < w'.heap.size := by omega); (try have y1 : w1.heap.size < w'.heap.size := by omega); (try have x1 : w1.heap.size + 1 < w'.heap.size := by omega); (try have z10 : w1.heap.size < w'.heap.size + 1 := by omega); obtain ⟨w2, rfl⟩ : ∃ v, v = w' := ⟨_, rfl⟩)
        have v0 : w2.cell? ⟨w.heap.size, 0, none⟩ = some (.int .i64 l) := by simp [go_sem, *]
        have v1 : w2.cell? ⟨w.heap.size, 1, none⟩ = some (.int .i64 l) := by simp [go_sem, *]
        have o0 : w2.cell? ⟨w.heap.size + 1, 0, none⟩ = some (.int .i64 0) := by simp [go_sem, *]
        have o1 : w2.cell? ⟨w.heap.size + 1, 1, none⟩ = some (.int .i64 0) := by simp [go_sem, *]
        have of : ∀ o, w2.frozen? ⟨w.heap.size + 1, o, none⟩ = false := by intro o; simp [go_sem, *]
        have hw2 : Below w.heap.size w w2 := by (repeat (first | (with_reducible exact Below.refl _ _) | (with_reducible refine Below.setCell ?_ (by (first | (simp; done) | (simp; omega) | omega)) _) | (with_reducible refine bl_alloc ?_ _) | (with_reducible refine bl_drewN ?_) | (with_reducible refine bl_drew ?_) | (with_reducible refine bl_step (by assumption) ?_)))
        have lw0 : w.heap.size < w2.heap.size := World.block_lt_of_cell? _ _ v0
        have lw1 : w.heap.size + 1 < w2.heap.size := World.block_lt_of_cell? _ _ o0
        clear s0 s1 r0 r1 rf t0 t1 u0 u1 uf hwr hcell hfroz hz hb
        go_loopw [18, 87] (fun av iv wv => ∃ (i : Nat) (m : Bool) (lo hi : Int), iv = .int .i64 i ∧ av = .bool m ∧ i ≤ 8192 ∧ wv.cell? ⟨w2.heap.size, 0, none⟩ = some (.int .i64 lo) ∧ wv.cell? ⟨w2.heap.size, 1, none⟩ = some (.int .i64 hi) ∧ wv.frozen? ⟨w2.heap.size, 0, none⟩ = false ∧ wv.frozen? ⟨w2.heap.size, 1, none⟩ = false ∧ Hid (m = false → i ≤ p0) ∧ Hid (m = true → p0 < i ∧ lo = ptT x p0 ∧ ∃ q : Nat, q < i ∧ hi = ptT x (q + 1) ∧ g (ptT x q) (ptT x (q + 1)) = true ∧ ∀ j, q < j → j < i → g (ptT x j) (ptT x (j + 1)) = false) ∧ Below w2.heap.size w2 wv) (fun _ iv _ => 9000 - (intOf iv).toNat)
        case atStart => exact ⟨0, false, 0, 0, rfl, rfl, by omega, by simp [go_sem], by simp [go_sem], by simp [go_sem], by simp [go_sem], (fun _ => Nat.zero_le _), (fun h => by cases h), by (repeat (first | (with_reducible exact Below.refl _ _) | (with_reducible refine Below.setCell ?_ (by (first | (simp; done) | (simp; omega) | omega)) _) | (with_reducible refine bl_alloc ?_ _) | (with_reducible refine bl_drewN ?_) | (with_reducible refine bl_drew ?_) | (with_reducible refine bl_step (by assumption) ?_)))⟩
        case round =>
          obtain ⟨i, m, lo, hi, rfl, rfl, hi8, c0, c1, e0, e1, hn0, hn1, hb2⟩ := hrel
          have y0 := cell_later hb2 v0
          have y1 := cell_later hb2 v1
          have z0 := cell_later hb2 o0
          have z1 := cell_later hb2 o1
          have zf : ∀ o, wr.frozen? ⟨w.heap.size + 1, o, none⟩ = false := fun o => by rw [(bcell hb2).2 _ _ lw1]; exact of o
          have hwr : Below w.heap.size w wr := bl_step hb2 hw2
          have ly0 : w.heap.size < wr.heap.size := World.block_lt_of_cell? _ _ y0
          have ly1 : w.heap.size + 1 < wr.heap.size := World.block_lt_of_cell? _ _ z0
          have ly2 : w2.heap.size < wr.heap.size := World.block_lt_of_cell? _ _ c0
          have ne1 : w.heap.size + 1 ≠ w2.heap.size := by omega
          by_cases i8 : i < 8192
          · have d1 : decide ((i : Int) < 8192) = true := by simp; omega
            obtain ⟨G, hG⟩ : ∃ G, g (x + (i : Int) * 3600000 / 4096) (x + ((i : Int) + 1) * 3600000 / 4096) = G := ⟨_, rfl⟩
            have AH := AG.out wr (x + (i : Int) * 3600000 / 4096) (x + ((i : Int) + 1) * 3600000 / 4096) hwr (by omega) (by omega) (by omega) (by omega)
            have GI : g (ptT x i) (ptT x (i + 1)) = G := by rw [ptT_succ]; exact hG
            rw [hG] at AH
            replace AH := hidden AH
            have n0 := hidden hn0.out
            have n1 := hidden hn1.out
            clear hn0 hn1 hG
            cases G with
            | false =>
              have ni : i ≠ p0 := fun h => by rw [h, GP.out] at GI; cases GI
              have GJ := hidden GI
              clear GI
              go_wp2_with (go_at_call 102; ((with_reducible refine AH.out.mono ?_); rintro e w' ⟨rfl, hb⟩); (try replace hb := below_undrew hb); (try replace hb := below_undrewN hb); obtain ⟨hcell, hfroz⟩ := bcell hb; have hz := hb.size; (try simp at hz); (try (have z6 := Nat.lt_of_lt_of_le z7 hz)); (try (have z7 := Nat.lt_of_lt_of_le z8 hz)); (try (have z8 := Nat.lt_of_lt_of_le z9 hz)); (try (have z9 := Nat.lt_of_lt_of_le (Nat.lt_succ_self _) hz)); (try have z0 : w.heap.size < w'.heap.size := by omega); (try have z1 : w.heap.size + 1 < w'.heap.size := by omega); (try have z2 : w.heap.size + 1 + 1 < w'.heap.size := by omega); (try have z3 : w.heap.size + 1 + 1 + 1 < w'.heap.size := by omega); (try have y1 : w1.heap.size < w'.heap.size := by omega); (try have y2 : w2.heap.size < w'.heap.size := by omega); (try have x1 : w1.heap.size + 1 < w'.heap.size := by omega); (try have x2 : w2.heap.size + 1 < w'.heap.size := by omega); (try have z10 : w1.heap.size < w'.heap.size + 1 := by omega); (try have z20 : w2.heap.size < w'.heap.size + 1 := by omega); obtain ⟨w3, rfl⟩ : ∃ v, v = w' := ⟨_, rfl⟩)
              exact ⟨⟨i + 1, m, lo, hi, by go_num, rfl, by omega, cell_later hb c0, cell_later hb c1, by rw [(bcell hb).2 _ _ ly2]; exact e0, by rw [(bcell hb).2 _ _ ly2]; exact e1, (fun h => by have := n0.out h; omega), (fun h => by obtain ⟨h2, h3, q, h4, h5, h6, h7⟩ := n1.out h; exact ⟨by omega, h3, q, by omega, h5, h6, fun j h8 h9 => by rcases Nat.lt_or_ge j i with h4 | h4; exact h7 j h8 h4; obtain rfl : j = i := (by omega); exact GJ.out⟩), bl_step hb hb2⟩, by simp [intOf]; omega⟩
            | true =>
              cases m with
              | false =>
                have pi : i = p0 := by
                  have h1 := n0.out rfl
                  rcases Nat.lt_or_ge i p0 with h2 | h2
                  · rw [FP.out i h2] at GI; cases GI
                  · omega
                have GJ := hidden GI
                have pj := hidden pi
                clear GI n0 n1 pi
                go_wp2_with (go_at_call 102; ((with_reducible refine AH.out.mono ?_); rintro e w' ⟨rfl, hb⟩); (try replace hb := below_undrew hb); (try replace hb := below_undrewN hb); obtain ⟨hcell, hfroz⟩ := bcell hb; have hz := hb.size; (try simp at hz); (try (have z6 := Nat.lt_of_lt_of_le z7 hz)); (try (have z7 := Nat.lt_of_lt_of_le z8 hz)); (try (have z8 := Nat.lt_of_lt_of_le z9 hz)); (try (have z9 := Nat.lt_of_lt_of_le (Nat.lt_succ_self _) hz)); (try have z0 : w.heap.size < w'.heap.size := by omega); (try have z1 : w.heap.size + 1 < w'.heap.size := by omega); (try have z2 : w.heap.size + 1 + 1 < w'.heap.size := by omega); (try have z3 : w.heap.size + 1 + 1 + 1 < w'.heap.size := by omega); (try have y1 : w1.heap.size < w'.heap.size := by omega); (try have y2 : w2.heap.size < w'.heap.size := by omega); (try have x1 : w1.heap.size + 1 < w'.heap.size := by omega); (try have x2 : w2.heap.size + 1 < w'.heap.size := by omega); (try have z10 : w1.heap.size < w'.heap.size + 1 := by omega); (try have z20 : w2.heap.size < w'.heap.size + 1 := by omega); obtain ⟨w3, rfl⟩ : ∃ v, v = w' := ⟨_, rfl⟩)
                exact ⟨⟨i + 1, true, _, _, by go_num, rfl, by omega, by first | (simp [go_sem, *]; done) | (simp [go_sem, *]; rfl), by first | (simp [go_sem, *]; done) | (simp [go_sem, *]; rfl), by simp [go_sem, *], by simp [go_sem, *], (fun h => by cases h), (fun _ => ⟨by have := pj.out; omega, by rw [← pj.out]; rfl, i, by omega, (ptT_succ _ _).symm, GJ.out, fun j h8 h9 => by omega⟩), (bl_step hb hb2).setCell (Nat.le_refl _) _ |>.setCell (Nat.le_refl _) _⟩, by simp [intOf]; omega⟩
              | true =>
                obtain ⟨h2, h3, _⟩ := n1.out rfl
                have GJ := hidden GI
                clear n0 n1 GI
                go_wp2_with (go_at_call 102; ((with_reducible refine AH.out.mono ?_); rintro e w' ⟨rfl, hb⟩); (try replace hb := below_undrew hb); (try replace hb := below_undrewN hb); obtain ⟨hcell, hfroz⟩ := bcell hb; have hz := hb.size; (try simp at hz); (try (have z6 := Nat.lt_of_lt_of_le z7 hz)); (try (have z7 := Nat.lt_of_lt_of_le z8 hz)); (try (have z8 := Nat.lt_of_lt_of_le z9 hz)); (try (have z9 := Nat.lt_of_lt_of_le (Nat.lt_succ_self _) hz)); (try have z0 : w.heap.size < w'.heap.size := by omega); (try have z1 : w.heap.size + 1 < w'.heap.size := by omega); (try have z2 : w.heap.size + 1 + 1 < w'.heap.size := by omega); (try have z3 : w.heap.size + 1 + 1 + 1 < w'.heap.size := by omega); (try have y1 : w1.heap.size < w'.heap.size := by omega); (try have y2 : w2.heap.size < w'.heap.size := by omega); (try have x1 : w1.heap.size + 1 < w'.heap.size := by omega); (try have x2 : w2.heap.size + 1 < w'.heap.size := by omega); (try have z10 : w1.heap.size < w'.heap.size + 1 := by omega); (try have z20 : w2.heap.size < w'.heap.size + 1 := by omega); obtain ⟨w3, rfl⟩ : ∃ v, v = w' := ⟨_, rfl⟩)
                exact ⟨⟨i + 1, true, _, _, by go_num, rfl, by omega, by first | (simp [go_sem, *]; done) | (simp [go_sem, *]; rfl), by first | (simp [go_sem, *]; done) | (simp [go_sem, *]; rfl), by simp [go_sem, *], by simp [go_sem, *], (fun h => by cases h), (fun _ => ⟨by omega, rfl, i, by omega, (ptT_succ _ _).symm, GJ.out, fun j h8 h9 => by omega⟩), (bl_step hb hb2).setCell (Nat.le_refl _) _⟩, by simp [intOf]; omega⟩
          · have d1 : decide ((i : Int) < 8192) = false := by simp; omega
            have i9 : i = 8192 := by omega
            subst i9
            cases m with
            | false =>
              exfalso
              have := hn0.out rfl
              omega
            | true =>
              obtain ⟨h2, rfl, q, h4, rfl, h6, h7⟩ := hn1.out rfl
              have eq : q = q0 := by
                rcases Nat.lt_trichotomy q q0 with h | h | h
                · rw [h7 q0 h hq0] at GQ; cases GQ.out
                · exact h
                · rw [FQ.out q h h4] at h6; cases h6
              subst eq
              clear hn0 hn1 h6 h7
              go_wp2
              exact bodyPost_ret (v := .tuple #[.agg #[.int .i64 (ptT x p0), .int .i64 (ptT x (q + 1))], .int .i64 0]) (by first | (simp only [results, Tryz.results29]; go_simp; done) | simp [results, Tryz.results29, go_sem, *]) rfl ⟨by rw [hx.out], by (repeat (first | (with_reducible exact Below.refl _ _) | (with_reducible refine Below.setCell ?_ (by (first | (simp; done) | (simp; omega) | omega)) _) | (with_reducible refine bl_alloc ?_ _) | (with_reducible refine bl_drewN ?_) | (with_reducible refine bl_drew ?_) | (with_reducible refine bl_step (by assumption) ?_)))⟩)
theorem first_of (P : Nat → Bool) (n : Nat) (h : ∃ i, i < n ∧ P i = true) : ∃ i, i < n ∧ P i = true ∧ ∀ j, j < i → P j = false := by
  induction n with
  | zero => obtain ⟨i, hi, _⟩ := h; omega
  | succ n ih =>
    by_cases g : ∃ i, i < n ∧ P i = true
    · obtain ⟨i, h1, h2⟩ := ih g
      exact ⟨i, by omega, h2⟩
    · obtain ⟨i, hi, hp⟩ := h
      refine ⟨i, hi, hp, fun j hj => ?_⟩
      cases e : P j with
      | false => rfl
      | true => exact absurd ⟨j, by omega, e⟩ g
theorem last_of (P : Nat → Bool) (n : Nat) (h : ∃ i, i < n ∧ P i = true) : ∃ i, i < n ∧ P i = true ∧ ∀ j, i < j → j < n → P j = false := by
  induction n with
  | zero => obtain ⟨i, hi, _⟩ := h; omega
  | succ n ih =>
    cases e : P n with
    | true => exact ⟨n, by omega, e, fun j h1 h2 => by omega⟩
    | false =>
      obtain ⟨i, hi, hp⟩ := h
      have : i ≠ n := fun h => by rw [h, e] at hp; cases hp
      obtain ⟨k, h1, h2, h3⟩ := ih ⟨i, by omega, hp⟩
      exact ⟨k, by omega, h2, fun j h4 h5 => by rcases Nat.lt_or_ge j n with h6 | h6; exact h3 j h4 h6; obtain rfl : j = n := (by omega); exact e⟩
/-- The transit of a star: two instants, the same in every book and world. -/
theorem transit_ok (s l fr : Int) (s0 : 0 ≤ s) (s1 : s ≤ 215999) (l0 : -10800000 ≤ l) (l1 : l ≤ 10800000) (f0 : -70368744177664 ≤ fr) (f1 : fr ≤ 70368528177664) :
    ∃ lo hi : Int, fr ≤ lo ∧ lo ≤ hi ∧ hi ≤ fr + 97200000 ∧ hi - lo ≤ 7200000 ∧ ShT s l lo hi ∧
    ∀ (b n k : Nat) (nm : Nat → ByteArray) (f : Nat → Nat → Int) (w : World), BkS w b n nm f → n ≤ 100 → k < n → fstI (fun j => sameB (nm j) (nm k)) n = k → nm k ≠ AR → f k 0 = s → -54000 ≤ f k 1 → f k 1 ≤ 54000 →
    Calls Tryz.prog 29 #[.pointer (some ⟨b, 0, none⟩), .string (nm k), .agg #[.int .i64 l, .int .i64 l], .int .i64 fr] w fun e w' => e = .returned (.tuple #[.agg #[.int .i64 lo, .int .i64 hi], .int .i64 0]) ∧ Below w.heap.size w w' := by
  have mc : ∀ i : Nat, (i : Int) * 3600000 = 3600000 * (i : Int) := fun i => Int.mul_comm _ _
  have mc' : ∀ i : Nat, ((i : Int) + 1) * 3600000 = 3600000 * ((i : Int) + 1) := fun i => Int.mul_comm _ _
  obtain ⟨k0, hk0, G0, F0⟩ := first_of (fun i => agB s l (fr + i * 3600000) (fr + i * 3600000 + 3600000)) 26 (by
    obtain ⟨i, hi, h⟩ := hours s l fr
    refine ⟨i, hi, ?_⟩
    simp only [mc]
    exact (agB_iff (by omega) (by omega)).2 h)
  have E : ∃ i, i < 8192 ∧ (fun i => agB s l (ptT (fr + k0 * 3600000) i) (ptT (fr + k0 * 3600000) (i + 1))) i = true := by
    obtain ⟨i, hi, h⟩ := parts_of s l (fr + k0 * 3600000) ((agB_iff (by omega) (by omega)).1 G0)
    refine ⟨i, by omega, ?_⟩
    simp only [ptT_succ]
    unfold ptT
    simp only [mc, mc'] at h ⊢
    exact (agB_iff (by omega) (by omega)).2 h
  obtain ⟨p0, hp0, GP, FP⟩ := first_of _ _ E
  obtain ⟨q0, hq0, GQ, FQ⟩ := last_of _ _ E
  have hpq : p0 ≤ q0 := by
    rcases Nat.lt_or_ge q0 p0 with h | h
    · have := FP q0 h
      rw [GQ] at this
      cases this
    · exact h
  have y6 : fr + k0 * 3600000 ≤ ptT (fr + k0 * 3600000) p0 := by unfold ptT; omega
  have y7 : ptT (fr + k0 * 3600000) p0 ≤ ptT (fr + k0 * 3600000) (p0 + 1) := by rw [ptT_succ]; unfold ptT; omega
  have y8 : ptT (fr + k0 * 3600000) (p0 + 1) ≤ ptT (fr + k0 * 3600000) (q0 + 1) := by rw [ptT_succ, ptT_succ]; omega
  have y9 : ptT (fr + k0 * 3600000) (q0 + 1) ≤ fr + k0 * 3600000 + 7200000 := by rw [ptT_succ]; omega
  refine ⟨ptT (fr + k0 * 3600000) p0, ptT (fr + k0 * 3600000) (q0 + 1), by omega, by omega, by omega, by omega, ?_, ?_⟩
  · exact ((agB_iff (by omega) (by omega)).1 GP).wider (Int.le_refl _) y8
  · intro b n k nm f w hB hn hk hf hA hs d0 d1
    refine transit_walk b (nm k) l fr (agB s l) w (World.block_lt_of_cell? _ _ hB.1) l0 l1 f0 f1 ?_ k0 p0 q0 (by omega) G0 F0 hpq hq0 GP FP GQ FQ
    intro wq a c hb h1 h2 h3 h4
    have := agrees_ok b n k nm f l a c wq (hB.later hb) hn hk hf hA (by simp [timeB, instB]; omega) h4 (by omega) (by omega) d0 d1 l0 l1
    rw [hs] at this
    exact this
end Go.Proofs.YtdhbeoahpfimbaaGreat
