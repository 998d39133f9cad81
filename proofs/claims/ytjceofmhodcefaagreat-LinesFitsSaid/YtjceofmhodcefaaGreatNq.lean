/- Least of the reference of chapter 37, where it finds a point: the walk. -/
import Derived.Test.YtjceofmhodcefaaGreatLs1
import Derived.Test.YtjceofmhodcefaaGreatInv
import Derived.Deep.DeepCutAuto
namespace Go.Proofs.YtjceofmhodcefaaGreat
open Go.RowKit

theorem stopHere2 {p : Prop} (h : Hid p) : p := h
theorem two_app {sv s' cv : Value} {N : Nat} (hs : sv.ownBlock = none ∨ sv.ownBlock ≠ cv.ownBlock) (hat : s'.ownBlock = sv.ownBlock ∨ s'.ownBlock = some N) (hc : ∀ q, cv.ownBlock = some q → q < N) : s'.ownBlock = none ∨ s'.ownBlock ≠ cv.ownBlock := by
  rcases hat with h | h
  · rw [h]; exact hs
  · exact .inr fun e => by have := hc N (by rw [← e, h]); omega
theorem two_swap {a b : Value} (h : a.ownBlock = none ∨ a.ownBlock ≠ b.ownBlock) : b.ownBlock = none ∨ b.ownBlock ≠ a.ownBlock := by
  rcases h with h | h
  · cases hb : b.ownBlock with
    | none => exact .inl rfl
    | some q => exact .inr (by rw [h]; exact fun e => by cases e)
  · exact .inr (Ne.symm h)
theorem own_later2 {w w' : World} {base : Nat} {e : TypeId} {size : Nat} {v : Value} {n : Nat} {xs : List Value} (hb : Below w.heap.size w w') (h : w.ownsRow base e size v n xs) : w'.ownsRow base e size v n xs := by
  refine ⟨h.1, ?_⟩
  rcases h.2 with h | ⟨g, cap, cur, h1, h2, h3, h4⟩
  · exact Or.inl h
  · have hg : g < w.heap.size := by
      rcases Nat.lt_or_ge g w.heap.size with k | k
      · exact k
      · rw [Array.getElem?_eq_none k] at h3; cases h3
    exact Or.inr ⟨g, cap, cur, h1, h2, (hb.block g hg).trans h3, h4⟩
theorem own_grown {w w' : World} {base : Nat} {e : TypeId} {size : Nat} {v : Value} {n : Nat} {xs : List Value} {row : Option Nat} (hg : w.grownBy w' row) (h : w.ownsRow base e size v n xs) (hne : row = none ∨ row ≠ v.ownBlock) : w'.ownsRow base e size v n xs := by
  refine ⟨h.1, ?_⟩
  rcases h.2 with h | ⟨g, cap, cur, h1, h2, h3, h4⟩
  · exact Or.inl h
  · have hl : g < w.heap.size := by
      rcases Nat.lt_or_ge g w.heap.size with k | k
      · exact k
      · rw [Array.getElem?_eq_none k] at h3; cases h3
    refine Or.inr ⟨g, cap, cur, h1, h2, (hg.block g hl ?_).trans h3, h4⟩
    subst h1
    rcases hne with hne | hne
    · rw [hne]; exact fun e => by cases e
    · exact fun e => hne (by rw [← e]; rfl)
theorem new_one (w : World) (x : Value) (t : Nat) : ∀ (j : Nat) u, ([x] : List Value)[j]? = some u → (w.alloc (Obj.cells #[x] t)).cell? ((⟨w.heap.size, 0, none⟩ : Addr).add j) = some u := by
  intro j u h
  match j, h with
  | 0, h => simp at h; subst h; simp [Addr.add, go_sem]
  | n + 1, h => simp at h
theorem cell_one1 (a : Int) : ∀ u ∈ ([.int .i64 a] : List Value), u.oneCell' = true := by
  intro u hu
  simp at hu
  subst hu
  rfl

set_option maxRecDepth 100000 in
set_option maxHeartbeats 16000000 in
theorem rleast_any37 (B oo n c : Nat) (f : Nat → Nat → Int) (z g g2 h h2 s d p A Bq Cq U V : Nat → Int) (K1 K2 x y F1 F2 : Int) (w : World) (hl : LnS w B oo n f) (n2 : 2 ≤ n) (n16 : n ≤ 16)
    (i1 : TypeInfo) (hj : Tryz.prog.info? 3 = some i1) (hj0 : i1.zero = some (.int .i64 0)) (hj1 : i1.size = 1) (hj2 : i1.bytes = 8)
    (VV : Hid (∀ i, i < n → ∀ w, Calls Tryz.prog 20 #[.agg #[.int .i64 (f i 0), .int .i64 (f i 1), .int .i64 (f i 2), .int .i64 (f i 3), .int .i64 (f i 4), .int .i64 (f i 5)]] w fun e w' => e = .returned (.bool true) ∧ Below w.heap.size w w')) 
    (MZ : Hid (∀ i, i < n → ∀ w, Calls Tryz.prog 22 #[.agg #[.int .i64 (f i 2), .int .i64 (f i 3)]] w fun e w' => e = .returned (.int .i64 (z i)) ∧ Below w.heap.size w w'))
    (AZ : Hid (∀ i, i < n → ∀ w, Calls Tryz.prog 21 #[.int .i64 (z i)] w fun e w' => e = .returned (.agg #[.int .i64 (z i), .int .i64 (z i)]) ∧ Below w.heap.size w w'))
    (SN : Hid (∀ i, i < n → ∀ w, Calls Tryz.prog 24 #[.agg #[.int .i64 (z i), .int .i64 (z i)]] w fun e w' => e = .returned (.agg #[.int .i64 (g i), .int .i64 (g2 i)]) ∧ Below w.heap.size w w'))
    (CN : Hid (∀ i, i < n → ∀ w, Calls Tryz.prog 25 #[.agg #[.int .i64 (z i), .int .i64 (z i)]] w fun e w' => e = .returned (.agg #[.int .i64 (h i), .int .i64 (h2 i)]) ∧ Below w.heap.size w w'))
    (FSh : Hid (∀ i, i < n → ∀ w, Calls Tryz.prog 23 #[.agg #[.int .i64 (g i), .int .i64 (g2 i)]] w fun e w' => e = .returned (.int .i64 (s i)) ∧ Below w.heap.size w w'))
    (FC : Hid (∀ i, i < n → ∀ w, Calls Tryz.prog 23 #[.agg #[.int .i64 (h i), .int .i64 (h2 i)]] w fun e w' => e = .returned (.int .i64 (d i)) ∧ Below w.heap.size w w'))
    (MP : Hid (∀ i, i < n → ∀ w, Calls Tryz.prog 22 #[.agg #[.int .i64 (f i 4), .int .i64 (f i 5)]] w fun e w' => e = .returned (.int .i64 (p i)) ∧ Below w.heap.size w w'))
    (BS : Hid (∀ i, i < n → (-67108864 ≤ s i * s i ∧ s i * s i ≤ 67108864) ∧ (-67108864 ≤ s i * d i ∧ s i * d i ≤ 67108864) ∧ (-67108864 ≤ d i * d i ∧ d i * d i ≤ 67108864) ∧ (-4915200000 ≤ s i * p i ∧ s i * p i ≤ 4915200000) ∧ (-4915200000 ≤ d i * p i ∧ d i * p i ≤ 4915200000)))
    (BA : Hid (∀ k, k ≤ n → (-1073741824 ≤ A k ∧ A k ≤ 1073741824) ∧ (-1073741824 ≤ Bq k ∧ Bq k ≤ 1073741824) ∧ (-1073741824 ≤ Cq k ∧ Cq k ≤ 1073741824) ∧ (-78643200000 ≤ U k ∧ U k ≤ 78643200000) ∧ (-78643200000 ≤ V k ∧ V k ≤ 78643200000)))
    (S0 : Hid (A 0 = 0 ∧ Bq 0 = 0 ∧ Cq 0 = 0 ∧ U 0 = 0 ∧ V 0 = 0)) (S1 : Hid (∀ k, k < n → A (k + 1) = A k + s k * s k ∧ Bq (k + 1) = Bq k + s k * d k ∧ Cq (k + 1) = Cq k + d k * d k ∧ U (k + 1) = U k + s k * p k ∧ V (k + 1) = V k + d k * p k))
    (PA : Hid ((-1152921504606846976 ≤ A n * Cq n ∧ A n * Cq n ≤ 1152921504606846976) ∧ -1152921504606846976 ≤ Bq n * Bq n ∧ Bq n * Bq n ≤ 1152921504606846976))
    (SX : Hid (1099511627776 ≤ A n * Cq n - Bq n * Bq n → ∀ r : Bool, (decide (-2000000 ≤ x) && decide (x ≤ 2000000)) = r → ∀ w, Calls Tryz.prog 26 #[.int .i64 (U n), .int .i64 (Cq n), .int .i64 (V n), .int .i64 (Bq n), .int .i64 (A n * Cq n - Bq n * Bq n)] w fun e w' => e = .returned (.tuple #[.int .i64 x, .bool r]) ∧ Below w.heap.size w w'))
    (SY : Hid (1099511627776 ≤ A n * Cq n - Bq n * Bq n → ∀ r : Bool, (decide (-2000000 ≤ y) && decide (y ≤ 2000000)) = r → ∀ w, Calls Tryz.prog 26 #[.int .i64 (V n), .int .i64 (A n), .int .i64 (U n), .int .i64 (Bq n), .int .i64 (A n * Cq n - Bq n * Bq n)] w fun e w' => e = .returned (.tuple #[.int .i64 y, .bool r]) ∧ Below w.heap.size w w'))
    (AL : Hid (∀ w, Calls Tryz.prog 21 #[.int .i64 (f 0 0)] w fun e w' => e = .returned (.agg #[.int .i64 (f 0 0), .int .i64 (f 0 0)]) ∧ Below w.heap.size w w'))
    (CL : Hid (∀ w, Calls Tryz.prog 25 #[.agg #[.int .i64 (f 0 0), .int .i64 (f 0 0)]] w fun e w' => e = .returned (.agg #[.int .i64 (K1), .int .i64 (K2)]) ∧ Below w.heap.size w w'))
    (hyy0 : -4000000000000000 ≤ y) (hyy1 : y ≤ 4000000000000000) (hf0 : -5400000 ≤ f 0 0) (hf1 : f 0 0 ≤ 5400000) (hg0 : -10800000 ≤ f 0 1) (hg1 : f 0 1 ≤ 10800000)
    (BR : Hid (Fit x y (f 0 0) → ∀ i, i < n → (-17179869184 ≤ s i * x ∧ s i * x ≤ 17179869184) ∧ (-17179869184 ≤ d i * y ∧ d i * y ≤ 17179869184) ∧ -600000 ≤ p i ∧ p i ≤ 600000))
    (FR : Hid (∀ i, i < n → ∀ w, Calls Tryz.prog 27 #[.int .i64 (s i * x + d i * y), .int .i64 8192] w fun e w' => e = .returned (.int .i64 ((s i * x + d i * y) / 8192)) ∧ w = w'))
    (FL : Hid (Fit x y (f 0 0) → ∀ w, Calls Tryz.prog 27 #[.int .i64 (x * 1073741824), .int .i64 K1] w fun e w' => e = .returned (.int .i64 (F1)) ∧ Below w.heap.size w w'))
    (hFF : Hid (Fit x y (f 0 0) → -4000000000000 ≤ F1 ∧ F1 ≤ 4000000000000))
    (SG : Hid (Fit x y (f 0 0) → ∀ w, Calls Tryz.prog 28 #[.int .i64 (f 0 1 + F1)] w fun e w' => e = .returned (.int .i64 (F2)) ∧ Below w.heap.size w w'))
    :
    Calls Tryz.prog 6 #[.slice (some ⟨B, oo, none⟩) n c] w (RLeastR w n f (A n * Cq n - Bq n * Bq n) x y F2 (fun i => p i - (s i * x + d i * y) / 8192)) := by
  have HL0 := hidden hl
  have LB0 : B < w.heap.size := hl.lt (by omega)
  clear hl
  have qa : decide (n < 2) = false := by simp; omega
  have qb : decide (16 < n) = false := by simp; omega
  go_enter Tryz.func6, Tryz.ntmps6
  go_wp2
  refine name_code ?_
  intro w' hb
  (try replace hb := below_undrew hb); (try replace hb := below_undrewN hb); obtain ⟨hcell, hfroz⟩ := bcell hb; have hz := hb.size; (try simp at hz); (try (have z6 := Nat.lt_of_lt_of_le z7 hz)); (try (have z7 := Nat.lt_of_lt_of_le z8 hz)); (try (have z8 := Nat.lt_of_lt_of_le z9 hz)); (try (have z9 := Nat.lt_of_lt_of_le (Nat.lt_succ_self _) hz)); (try (have z0 : w.heap.size < w'.heap.size := by omega)); (try (have z1 : w.heap.size + 1 < w'.heap.size := by omega)); (try (have z2 : w.heap.size + 1 + 1 < w'.heap.size := by omega)); (try (have z3 : w.heap.size + 1 + 1 + 1 < w'.heap.size := by omega)); (try (have y2 : w2.heap.size < w'.heap.size := by omega)); (try (have y3 : w3.heap.size < w'.heap.size := by omega)); (try (have y4 : w4.heap.size < w'.heap.size := by omega)); (try (have y5 : w5.heap.size < w'.heap.size := by omega)); (try (have y6 : w6.heap.size < w'.heap.size := by omega)); (try (have x2 : w2.heap.size + 1 < w'.heap.size := by omega)); (try (have x3 : w3.heap.size + 1 < w'.heap.size := by omega)); (try (have x4 : w4.heap.size + 1 < w'.heap.size := by omega)); (try (have x5 : w5.heap.size + 1 < w'.heap.size := by omega)); (try (have x6 : w6.heap.size + 1 < w'.heap.size := by omega)); (try (have z20 : w2.heap.size < w'.heap.size + 1 := by omega)); (try (have z30 : w3.heap.size < w'.heap.size + 1 := by omega)); (try (have z40 : w4.heap.size < w'.heap.size + 1 := by omega)); (try (have z50 : w5.heap.size < w'.heap.size + 1 := by omega)); (try (have z60 : w6.heap.size < w'.heap.size + 1 := by omega))
  have hw0 : Below w.heap.size w w' := by (repeat (first | (with_reducible exact Below.refl _ _) | (with_reducible refine Below.setCell ?_ (by (first | (simp; done) | (simp; omega) | omega)) _) | (with_reducible refine bl_alloc ?_ _) | (with_reducible refine bl_drewN ?_) | (with_reducible refine bl_drew ?_) | (with_reducible refine bl_step (by assumption) ?_)))
  have HL := hidden (HL0.out.later hw0)
  clear HL0
  have cr0 : w'.cell? ⟨w.heap.size, 0, none⟩ = some (.int .i64 0) := by simp [go_sem, *]
  have cr1 : w'.cell? ⟨w.heap.size, 1, none⟩ = some (.int .i64 0) := by simp [go_sem, *]
  have cg : ∀ o, w'.frozen? ⟨w.heap.size, o, none⟩ = false := by intro o; simp [go_sem, *]
  clear hcell hfroz hz hb
  obtain ⟨V0, rfl⟩ : ∃ v, v = w' := ⟨_, rfl⟩
  have LB : B < V0.heap.size := HL.out.lt (by omega)
  go_loopw [5] (fun iv wr => ∃ k : Nat, iv = .int .i64 k ∧ k ≤ n ∧ Below V0.heap.size V0 wr) (fun iv _ => 40 - (intOf iv).toNat)
  case atStart => exact ⟨0, rfl, Nat.zero_le _, Below.refl _ _⟩
  case round =>
    obtain ⟨k, rfl, hk, hV⟩ := hrel
    have hzV := hV.size
    by_cases hkn : k < n
    · have q1 : decide (k < n) = true := by simp; omega
      have VK := hidden (VV.out k hkn)
      have c0 : wr.cell? ⟨B, oo + k * 6, none⟩ = some (.int .i64 (f k 0)) := cell_later hV (HL.out k 0 hkn (by omega))
      have c1 : wr.cell? ⟨B, oo + k * 6 + 1, none⟩ = some (.int .i64 (f k 1)) := cell_later hV (HL.out k 1 hkn (by omega))
      have c2 : wr.cell? ⟨B, oo + k * 6 + 2, none⟩ = some (.int .i64 (f k 2)) := cell_later hV (HL.out k 2 hkn (by omega))
      have c3 : wr.cell? ⟨B, oo + k * 6 + 3, none⟩ = some (.int .i64 (f k 3)) := cell_later hV (HL.out k 3 hkn (by omega))
      have c4 : wr.cell? ⟨B, oo + k * 6 + 4, none⟩ = some (.int .i64 (f k 4)) := cell_later hV (HL.out k 4 hkn (by omega))
      have c5 : wr.cell? ⟨B, oo + k * 6 + 5, none⟩ = some (.int .i64 (f k 5)) := cell_later hV (HL.out k 5 hkn (by omega))
      have LB2 : B < wr.heap.size := by omega
      go_wp2_with (go_at_call 20; ((with_reducible refine (VK.out _).mono ?_); rintro e w' ⟨rfl, hb⟩); (try replace hb := below_undrew hb); (try replace hb := below_undrewN hb); obtain ⟨hcell, hfroz⟩ := bcell hb; have hz := hb.size; (try simp at hz); (try (have z6 := Nat.lt_of_lt_of_le z7 hz)); (try (have z7 := Nat.lt_of_lt_of_le z8 hz)); (try (have z8 := Nat.lt_of_lt_of_le z9 hz)); (try (have z9 := Nat.lt_of_lt_of_le (Nat.lt_succ_self _) hz)); (try (have z0 : w.heap.size < w'.heap.size := by omega)); (try (have z1 : w.heap.size + 1 < w'.heap.size := by omega)); (try (have z2 : w.heap.size + 1 + 1 < w'.heap.size := by omega)); (try (have z3 : w.heap.size + 1 + 1 + 1 < w'.heap.size := by omega)); (try (have y2 : w2.heap.size < w'.heap.size := by omega)); (try (have y3 : w3.heap.size < w'.heap.size := by omega)); (try (have y4 : w4.heap.size < w'.heap.size := by omega)); (try (have y5 : w5.heap.size < w'.heap.size := by omega)); (try (have y6 : w6.heap.size < w'.heap.size := by omega)); (try (have x2 : w2.heap.size + 1 < w'.heap.size := by omega)); (try (have x3 : w3.heap.size + 1 < w'.heap.size := by omega)); (try (have x4 : w4.heap.size + 1 < w'.heap.size := by omega)); (try (have x5 : w5.heap.size + 1 < w'.heap.size := by omega)); (try (have x6 : w6.heap.size + 1 < w'.heap.size := by omega)); (try (have z20 : w2.heap.size < w'.heap.size + 1 := by omega)); (try (have z30 : w3.heap.size < w'.heap.size + 1 := by omega)); (try (have z40 : w4.heap.size < w'.heap.size + 1 := by omega)); (try (have z50 : w5.heap.size < w'.heap.size + 1 := by omega)); (try (have z60 : w6.heap.size < w'.heap.size + 1 := by omega)))
      exact ⟨⟨k + 1, by go_num, by omega, by (repeat (first | (with_reducible exact Below.refl _ _) | (with_reducible refine Below.setCell ?_ (by (first | (simp; done) | (simp; omega) | omega)) _) | (with_reducible refine bl_alloc ?_ _) | (with_reducible refine bl_drewN ?_) | (with_reducible refine bl_drew ?_) | (with_reducible refine bl_step (by assumption) ?_)))⟩, by simp [intOf]; omega⟩
    · have q1 : decide (k < n) = false := by simp; omega
      have e : n = k := by omega
      subst e
      obtain ⟨W0, eW⟩ : ∃ v, v = wr := ⟨_, rfl⟩
      subst eW
      have hw1 : Below w.heap.size w W0 := bl_step hV hw0
      have HL2 := hidden (HL.out.later hV)
      replace HL := HL2
      clear HL2
      have lr : w.heap.size < V0.heap.size := World.block_lt_of_cell? _ _ cr0
      have cg2 : ∀ o, W0.frozen? ⟨w.heap.size, o, none⟩ = false := fun o => (hV.frozen (p := ⟨w.heap.size, o, none⟩) lr).trans (cg o)
      have cs0 := cell_later hV cr0
      have cs1 := cell_later hV cr1
      clear cr0 cr1 cg
      have LC : B < W0.heap.size := by omega
      clear hV hw0
      go_wp2
      go_loopw [6, 7, 8, 9, 10, 11, 12, 13] (fun sv dv av bv cv uv vv iv wr => ∃ k : Nat, iv = .int .i64 k ∧ k ≤ n ∧ av = .int .i64 (A k) ∧ bv = .int .i64 (Bq k) ∧ cv = .int .i64 (Cq k) ∧ uv = .int .i64 (U k) ∧ vv = .int .i64 (V k) ∧ wr.ownsRow W0.heap.size 3 1 sv k (outL s k) ∧ wr.ownsRow W0.heap.size 3 1 dv k (outL d k) ∧ (sv.ownBlock = none ∨ sv.ownBlock ≠ dv.ownBlock) ∧ Hid (∀ i, i < k → f i 0 = f 0 0 ∧ f i 1 = f 0 1) ∧ Below W0.heap.size W0 wr) (fun _ _ _ _ _ _ _ iv _ => 40 - (intOf iv).toNat)
      case atStart => exact ⟨0, rfl, Nat.zero_le _, by rw [S0.out.1], by rw [S0.out.2.1], by rw [S0.out.2.2.1], by rw [S0.out.2.2.2.1], by rw [S0.out.2.2.2.2], World.ownsRow_nil _ _ _ _, World.ownsRow_nil _ _ _ _, .inl rfl, (fun i h => absurd h (by omega)), Below.refl _ _⟩
      case round =>
        obtain ⟨k, rfl, hk, rfl, rfl, rfl, rfl, rfl, howS, howD, hdis, hsame, hV⟩ := hrel
        have hzV := hV.size
        by_cases hkn : k < n
        · have q1 : decide (k < n) = true := by simp; omega
          have q3 : 0 < n := by omega
          have q4 : decide (0 < n) = true := by simp; omega
          have M1 := hidden (MZ.out k hkn)
          have M2 := hidden (AZ.out k hkn)
          have M3 := hidden (SN.out k hkn)
          have M4 := hidden (CN.out k hkn)
          have M5 := hidden (FSh.out k hkn)
          have M6 := hidden (FC.out k hkn)
          have M7 := hidden (MP.out k hkn)
          have c0 : wr.cell? ⟨B, oo + k * 6, none⟩ = some (.int .i64 (f k 0)) := cell_later hV (HL.out k 0 hkn (by omega))
          have c1 : wr.cell? ⟨B, oo + k * 6 + 1, none⟩ = some (.int .i64 (f k 1)) := cell_later hV (HL.out k 1 hkn (by omega))
          have c2 : wr.cell? ⟨B, oo + k * 6 + 2, none⟩ = some (.int .i64 (f k 2)) := cell_later hV (HL.out k 2 hkn (by omega))
          have c3 : wr.cell? ⟨B, oo + k * 6 + 3, none⟩ = some (.int .i64 (f k 3)) := cell_later hV (HL.out k 3 hkn (by omega))
          have c4 : wr.cell? ⟨B, oo + k * 6 + 4, none⟩ = some (.int .i64 (f k 4)) := cell_later hV (HL.out k 4 hkn (by omega))
          have c5 : wr.cell? ⟨B, oo + k * 6 + 5, none⟩ = some (.int .i64 (f k 5)) := cell_later hV (HL.out k 5 hkn (by omega))
          have zz0 : wr.cell? ⟨B, oo, none⟩ = some (.int .i64 (f 0 0)) := by have := cell_later hV (HL.out 0 0 (by omega) (by omega)); simpa using this
          have zz1 : wr.cell? ⟨B, oo + 1, none⟩ = some (.int .i64 (f 0 1)) := by have := cell_later hV (HL.out 0 1 (by omega) (by omega)); simpa using this
          have LB2 : B < wr.heap.size := by omega
          have lw0 : w.heap.size < W0.heap.size := World.block_lt_of_cell? _ _ cs0
          have hwr : Below w.heap.size w wr := bl_step hV hw1
          by_cases nr : f k 0 = f 0 0 ∧ f k 1 = f 0 1
          case neg =>
            have NRH := hidden nr
            clear nr hdis howS howD
            have q0r := cell_later hV cs0
            have q1r := cell_later hV cs1
            have qcf : ∀ o, wr.frozen? ⟨w.heap.size, o, none⟩ = false := fun o => (hV.frozen (p := ⟨w.heap.size, o, none⟩) lw0).trans (cg2 o)
            have lwr : w.heap.size < wr.heap.size := by omega
            obtain ⟨x0, e0⟩ : ∃ x, f k 0 = x := ⟨_, rfl⟩
            obtain ⟨x1, e1⟩ : ∃ x, f k 1 = x := ⟨_, rfl⟩
            obtain ⟨y0, e2⟩ : ∃ x, f 0 0 = x := ⟨_, rfl⟩
            obtain ⟨y1, e3⟩ : ∃ x, f 0 1 = x := ⟨_, rfl⟩
            rw [e0] at c0
            rw [e1] at c1
            rw [e2] at zz0
            rw [e3] at zz1
            have hne : ¬ (x0 = y0 ∧ x1 = y1) := by rw [← e0, ← e1, ← e2, ← e3]; exact NRH.out
            clear e0 e1 e2 e3
            by_cases hx : x0 = y0
            · subst hx
              have hy2 : (x1 == y1) = false := by simp; exact fun e => hne ⟨rfl, e⟩
              clear hne
              go_wp2
              go_quiet (fail)
              go_wp2
              exact bodyPost_ret (v := .tuple #[.agg #[.int .i64 0, .int .i64 0], .slice none 0 0, .int .i64 26]) (by first | (simp only [results, Tryz.results6]; go_simp; done) | simp [results, Tryz.results6, go_sem, *]) rfl (rleastR_shape (fun g => NRH.out (g k hkn)) (by (repeat (first | (with_reducible exact Below.refl _ _) | (with_reducible refine Below.setCell ?_ (by (first | (simp; done) | (simp; omega) | omega)) _) | (with_reducible refine bl_alloc ?_ _) | (with_reducible refine bl_drewN ?_) | (with_reducible refine bl_drew ?_) | (with_reducible refine bl_step (by assumption) ?_)))))
            · have hx2 : (x0 == y0) = false := by simp; exact hx
              clear hne hx
              go_wp2
              go_quiet (fail)
              go_wp2
              exact bodyPost_ret (v := .tuple #[.agg #[.int .i64 0, .int .i64 0], .slice none 0 0, .int .i64 26]) (by first | (simp only [results, Tryz.results6]; go_simp; done) | simp [results, Tryz.results6, go_sem, *]) rfl (rleastR_shape (fun g => NRH.out (g k hkn)) (by (repeat (first | (with_reducible exact Below.refl _ _) | (with_reducible refine Below.setCell ?_ (by (first | (simp; done) | (simp; omega) | omega)) _) | (with_reducible refine bl_alloc ?_ _) | (with_reducible refine bl_drewN ?_) | (with_reducible refine bl_drew ?_) | (with_reducible refine bl_step (by assumption) ?_)))))
          have NK := hidden nr
          rw [nr.1] at c0
          rw [nr.2] at c1
          clear nr
          have HOS := hidden howS
          have HOD := hidden howD
          have HDI := hidden hdis
          clear howS howD hdis
          go_wp2
          go_quiet (fail)
          refine name_world (F := Exit.then _ _ _ _) ?_
          intro w' hb
          (try replace hb := below_undrew hb); (try replace hb := below_undrewN hb); obtain ⟨hcell, hfroz⟩ := bcell hb; have hz := hb.size; (try simp at hz); (try (have z6 := Nat.lt_of_lt_of_le z7 hz)); (try (have z7 := Nat.lt_of_lt_of_le z8 hz)); (try (have z8 := Nat.lt_of_lt_of_le z9 hz)); (try (have z9 := Nat.lt_of_lt_of_le (Nat.lt_succ_self _) hz)); (try (have z0 : w.heap.size < w'.heap.size := by omega)); (try (have z1 : w.heap.size + 1 < w'.heap.size := by omega)); (try (have z2 : w.heap.size + 1 + 1 < w'.heap.size := by omega)); (try (have z3 : w.heap.size + 1 + 1 + 1 < w'.heap.size := by omega)); (try (have y2 : w2.heap.size < w'.heap.size := by omega)); (try (have y3 : w3.heap.size < w'.heap.size := by omega)); (try (have y4 : w4.heap.size < w'.heap.size := by omega)); (try (have y5 : w5.heap.size < w'.heap.size := by omega)); (try (have y6 : w6.heap.size < w'.heap.size := by omega)); (try (have x2 : w2.heap.size + 1 < w'.heap.size := by omega)); (try (have x3 : w3.heap.size + 1 < w'.heap.size := by omega)); (try (have x4 : w4.heap.size + 1 < w'.heap.size := by omega)); (try (have x5 : w5.heap.size + 1 < w'.heap.size := by omega)); (try (have x6 : w6.heap.size + 1 < w'.heap.size := by omega)); (try (have z20 : w2.heap.size < w'.heap.size + 1 := by omega)); (try (have z30 : w3.heap.size < w'.heap.size + 1 := by omega)); (try (have z40 : w4.heap.size < w'.heap.size + 1 := by omega)); (try (have z50 : w5.heap.size < w'.heap.size + 1 := by omega)); (try (have z60 : w6.heap.size < w'.heap.size + 1 := by omega))
          have hv1 : Below wr.heap.size wr w' := by (repeat (first | (with_reducible exact Below.refl _ _) | (with_reducible refine Below.setCell ?_ (by (first | (simp; done) | (simp; omega) | omega)) _) | (with_reducible refine bl_alloc ?_ _) | (with_reducible refine bl_drewN ?_) | (with_reducible refine bl_drew ?_) | (with_reducible refine bl_step (by assumption) ?_)))
          clear c0 c1 zz0 zz1
          have c2_ : w'.cell? ⟨B, oo + k * 6 + 2, none⟩ = some (.int .i64 (f k 2)) := cell_later hv1 c2
          have c3_ : w'.cell? ⟨B, oo + k * 6 + 3, none⟩ = some (.int .i64 (f k 3)) := cell_later hv1 c3
          have c4_ : w'.cell? ⟨B, oo + k * 6 + 4, none⟩ = some (.int .i64 (f k 4)) := cell_later hv1 c4
          have c5_ : w'.cell? ⟨B, oo + k * 6 + 5, none⟩ = some (.int .i64 (f k 5)) := cell_later hv1 c5
          clear c2 c3 c4 c5 hcell hfroz hz hb
          obtain ⟨U1, rfl⟩ : ∃ v, v = w' := ⟨_, rfl⟩
          have LB3 : B < U1.heap.size := Nat.lt_of_lt_of_le LB2 hv1.size
          go_wp2_with ((first | (go_at_call 22; ((with_reducible refine (M1.out _).mono ?_); rintro e w' ⟨rfl, hb⟩); have nm0 := trivial) | (go_at_call 21; ((with_reducible refine (M2.out _).mono ?_); rintro e w' ⟨rfl, hb⟩); have nm1 := trivial)); (try replace hb := below_undrew hb); (try replace hb := below_undrewN hb); obtain ⟨hcell, hfroz⟩ := bcell hb; have hz := hb.size; (try simp at hz); (try (have z6 := Nat.lt_of_lt_of_le z7 hz)); (try (have z7 := Nat.lt_of_lt_of_le z8 hz)); (try (have z8 := Nat.lt_of_lt_of_le z9 hz)); (try (have z9 := Nat.lt_of_lt_of_le (Nat.lt_succ_self _) hz)); (try (have z0 : w.heap.size < w'.heap.size := by omega)); (try (have z1 : w.heap.size + 1 < w'.heap.size := by omega)); (try (have z2 : w.heap.size + 1 + 1 < w'.heap.size := by omega)); (try (have z3 : w.heap.size + 1 + 1 + 1 < w'.heap.size := by omega)); (try (have y2 : w2.heap.size < w'.heap.size := by omega)); (try (have x2 : w2.heap.size + 1 < w'.heap.size := by omega)); (try (have z20 : w2.heap.size < w'.heap.size + 1 := by omega)); (first | (clear nm0; obtain ⟨w2, rfl⟩ : ∃ v, v = w' := ⟨_, rfl⟩) | (clear nm1; obtain ⟨w3, rfl⟩ : ∃ v, v = w' := ⟨_, rfl⟩)))
          refine name_below ?_
          intro w' hb
          (try replace hb := below_undrew hb); (try replace hb := below_undrewN hb); obtain ⟨hcell, hfroz⟩ := bcell hb; have hz := hb.size; (try simp at hz); (try (have z6 := Nat.lt_of_lt_of_le z7 hz)); (try (have z7 := Nat.lt_of_lt_of_le z8 hz)); (try (have z8 := Nat.lt_of_lt_of_le z9 hz)); (try (have z9 := Nat.lt_of_lt_of_le (Nat.lt_succ_self _) hz)); (try (have z0 : w.heap.size < w'.heap.size := by omega)); (try (have z1 : w.heap.size + 1 < w'.heap.size := by omega)); (try (have z2 : w.heap.size + 1 + 1 < w'.heap.size := by omega)); (try (have z3 : w.heap.size + 1 + 1 + 1 < w'.heap.size := by omega)); (try (have y2 : w2.heap.size < w'.heap.size := by omega)); (try (have y3 : w3.heap.size < w'.heap.size := by omega)); (try (have y4 : w4.heap.size < w'.heap.size := by omega)); (try (have y5 : w5.heap.size < w'.heap.size := by omega)); (try (have y6 : w6.heap.size < w'.heap.size := by omega)); (try (have x2 : w2.heap.size + 1 < w'.heap.size := by omega)); (try (have x3 : w3.heap.size + 1 < w'.heap.size := by omega)); (try (have x4 : w4.heap.size + 1 < w'.heap.size := by omega)); (try (have x5 : w5.heap.size + 1 < w'.heap.size := by omega)); (try (have x6 : w6.heap.size + 1 < w'.heap.size := by omega)); (try (have z20 : w2.heap.size < w'.heap.size + 1 := by omega)); (try (have z30 : w3.heap.size < w'.heap.size + 1 := by omega)); (try (have z40 : w4.heap.size < w'.heap.size + 1 := by omega)); (try (have z50 : w5.heap.size < w'.heap.size + 1 := by omega)); (try (have z60 : w6.heap.size < w'.heap.size + 1 := by omega))
          have hv2 : Below U1.heap.size U1 w' := by (repeat (first | (with_reducible exact Below.refl _ _) | (with_reducible refine Below.setCell ?_ (by (first | (simp; done) | (simp; omega) | omega)) _) | (with_reducible refine bl_alloc ?_ _) | (with_reducible refine bl_drewN ?_) | (with_reducible refine bl_drew ?_) | (with_reducible refine bl_step (by assumption) ?_)))
          have c4 : w'.cell? ⟨B, oo + k * 6 + 4, none⟩ = some (.int .i64 (f k 4)) := cell_later hv2 c4_
          have c5 : w'.cell? ⟨B, oo + k * 6 + 5, none⟩ = some (.int .i64 (f k 5)) := cell_later hv2 c5_
          have y0 : w'.cell? ⟨w3.heap.size, 0, none⟩ = some (.int .i64 (z k)) := by simp [go_sem, *]
          have y1 : w'.cell? ⟨w3.heap.size, 1, none⟩ = some (.int .i64 (z k)) := by simp [go_sem, *]
          clear hcell hfroz hz hb c2_ c3_ c4_ c5_
          obtain ⟨U2, rfl⟩ : ∃ v, v = w' := ⟨_, rfl⟩
          have LB4 : B < U2.heap.size := Nat.lt_of_lt_of_le LB3 hv2.size
          refine wp_region_inv (fun a0 LL aa vv => ∃ (l0 l1 l2 l3 l4 l5 l6 l7 l8 l9 l10 l11 l12 l13 l14 : Bool) (uu : World), LL = #[l0, l1, l2, l3, l4, l5, l6, l7, l8, l9, l10, l11, l12, l13, l14] ∧ aa = { a0 with tmps := ((((a0.tmps.toList.set 15 (cond l12 (.int .i64 (s k)) (u15))).set 16 (cond l13 (.int .i64 (d k)) (u16))).set 17 (cond l14 (.int .i64 (p k)) (u17))).take 73 ++ ([cond l0 (.agg #[.int .i64 (z k), .int .i64 (z k)]) (u73), cond l1 (.agg #[.int .i64 (g k), .int .i64 (g2 k)]) (u74), cond l2 (.int .i64 (s k)) (u75), cond l3 (.agg #[.int .i64 (z k), .int .i64 (z k)]) (u76), cond l4 (.agg #[.int .i64 (h k), .int .i64 (h2 k)]) (u77), cond l5 (.int .i64 (d k)) (u78), cond l6 (.slice (some ⟨B, oo, none⟩) n c) (u79), cond l7 (.int .i64 k) (u80), cond l8 (.pointer (some ⟨B, oo + k * 6, none⟩)) (u81), cond l9 (.pointer (some ⟨B, oo + k * 6 + 4, none⟩)) (u82), cond l10 (.agg #[.int .i64 (f k 4), .int .i64 (f k 5)]) (u83), cond l11 (.int .i64 (p k)) (u84)] ++ a0.tmps.toList.drop 85)).toArray } ∧ Below U2.heap.size U2 uu ∧ vv = uu) (by kernel_rfl) (by kernel_rfl) ?h0 ?hsize ?hdone ?hstep
          case h0 =>
            refine ⟨false, false, false, false, false, false, false, false, false, false, false, false, false, false, false, _, rfl, ?_, by (repeat (first | exact Below.refl _ _ | refine bl_drewN ?_ | refine bl_drew ?_ | refine bl_alloc ?_ _ | refine Below.setCell ?_ (by (first | (simp; done) | (simp; omega) | omega)) _ | refine bl_step (by assumption) ?_)), rfl⟩
            kernel_rfl
          case hsize =>
            intro LL aa vv h
            obtain ⟨l0, h⟩ := h
            obtain ⟨l1, h⟩ := h
            obtain ⟨l2, h⟩ := h
            obtain ⟨l3, h⟩ := h
            obtain ⟨l4, h⟩ := h
            obtain ⟨l5, h⟩ := h
            obtain ⟨l6, h⟩ := h
            obtain ⟨l7, h⟩ := h
            obtain ⟨l8, h⟩ := h
            obtain ⟨l9, h⟩ := h
            obtain ⟨l10, h⟩ := h
            obtain ⟨l11, h⟩ := h
            obtain ⟨l12, h⟩ := h
            obtain ⟨l13, h⟩ := h
            obtain ⟨l14, h⟩ := h
            obtain ⟨uu, h⟩ := h
            obtain ⟨hL, _⟩ := h
            rw [hL]
            rfl
          case hstep =>
            intro LL aa vv h
            obtain ⟨l0, h⟩ := h
            obtain ⟨l1, h⟩ := h
            obtain ⟨l2, h⟩ := h
            obtain ⟨l3, h⟩ := h
            obtain ⟨l4, h⟩ := h
            obtain ⟨l5, h⟩ := h
            obtain ⟨l6, h⟩ := h
            obtain ⟨l7, h⟩ := h
            obtain ⟨l8, h⟩ := h
            obtain ⟨l9, h⟩ := h
            obtain ⟨l10, h⟩ := h
            obtain ⟨l11, h⟩ := h
            obtain ⟨l12, h⟩ := h
            obtain ⟨l13, h⟩ := h
            obtain ⟨l14, h⟩ := h
            obtain ⟨uu, h⟩ := h
            obtain ⟨hL, h⟩ := h
            obtain ⟨ha, h⟩ := h
            obtain ⟨hu, hv⟩ := h
            simp only [List.take_succ_cons, List.take_zero, List.cons_append, List.nil_append, List.drop_succ_cons, List.drop_zero, List.set_cons_zero, List.set_cons_succ] at ha
            subst hL
            subst ha
            refine ⟨?s0, ?s1, ?s2, ?s3, ?s4, ?s5, ?s6, ?s7, ?s8, ?s9, ?s10, ?s11, ?s12, ?s13, ?s14, trivial⟩
            case s0 =>
              intro ff gg KK hK
              have f0 : l0 = false := ff
              subst hv
              clear ff gg
              subst f0
              simp only [cond_false]
              have j0 := cell_later hu y0
              have j1 := cell_later hu y1
              go_simp
              exact hK _ _ ⟨true, l1, l2, l3, l4, l5, l6, l7, l8, l9, l10, l11, l12, l13, l14, _, rfl, (by kernel_rfl), hu, rfl⟩
            case s1 =>
              intro ff gg KK hK
              have f0 : l1 = false := ff
              subst hv
              have t0 : l0 = true := gg ⟨0, .data⟩ (by simp) (by rfl)
              clear ff gg
              subst t0
              subst f0
              simp only [cond_true, cond_false]
              go_simp
              go_at_call 24
              with_reducible refine (M3.out _).mono ?_
              rintro e w' ⟨rfl, hb⟩
              exact hK _ _ ⟨true, true, l2, l3, l4, l5, l6, l7, l8, l9, l10, l11, l12, l13, l14, _, rfl, (by kernel_rfl), bl_step hb hu, rfl⟩
            case s2 =>
              intro ff gg KK hK
              have f0 : l2 = false := ff
              subst hv
              have t1 : l1 = true := gg ⟨1, .data⟩ (by simp) (by rfl)
              clear ff gg
              subst t1
              subst f0
              simp only [cond_true, cond_false]
              go_simp
              go_at_call 23
              with_reducible refine (M5.out _).mono ?_
              rintro e w' ⟨rfl, hb⟩
              exact hK _ _ ⟨l0, true, true, l3, l4, l5, l6, l7, l8, l9, l10, l11, l12, l13, l14, _, rfl, (by kernel_rfl), bl_step hb hu, rfl⟩
            case s3 =>
              intro ff gg KK hK
              have f0 : l3 = false := ff
              subst hv
              clear ff gg
              subst f0
              simp only [cond_false]
              have j0 := cell_later hu y0
              have j1 := cell_later hu y1
              go_simp
              exact hK _ _ ⟨l0, l1, l2, true, l4, l5, l6, l7, l8, l9, l10, l11, l12, l13, l14, _, rfl, (by kernel_rfl), hu, rfl⟩
            case s4 =>
              intro ff gg KK hK
              have f0 : l4 = false := ff
              subst hv
              have t3 : l3 = true := gg ⟨3, .data⟩ (by simp) (by rfl)
              have t2 : l2 = true := gg ⟨2, .chain⟩ (by simp) (by rfl)
              clear ff gg
              subst t3 t2
              subst f0
              simp only [cond_true, cond_false]
              go_simp
              go_at_call 25
              with_reducible refine (M4.out _).mono ?_
              rintro e w' ⟨rfl, hb⟩
              exact hK _ _ ⟨l0, l1, true, true, true, l5, l6, l7, l8, l9, l10, l11, l12, l13, l14, _, rfl, (by kernel_rfl), bl_step hb hu, rfl⟩
            case s5 =>
              intro ff gg KK hK
              have f0 : l5 = false := ff
              subst hv
              have t4 : l4 = true := gg ⟨4, .data⟩ (by simp) (by rfl)
              clear ff gg
              subst t4
              subst f0
              simp only [cond_true, cond_false]
              go_simp
              go_at_call 23
              with_reducible refine (M6.out _).mono ?_
              rintro e w' ⟨rfl, hb⟩
              exact hK _ _ ⟨l0, l1, l2, l3, true, true, l6, l7, l8, l9, l10, l11, l12, l13, l14, _, rfl, (by kernel_rfl), bl_step hb hu, rfl⟩
            case s6 =>
              intro ff gg KK hK
              have f0 : l6 = false := ff
              subst hv
              clear ff gg
              subst f0
              simp only [cond_false]
              go_simp
              exact hK _ _ ⟨l0, l1, l2, l3, l4, l5, true, l7, l8, l9, l10, l11, l12, l13, l14, _, rfl, (by kernel_rfl), hu, rfl⟩
            case s7 =>
              intro ff gg KK hK
              have f0 : l7 = false := ff
              subst hv
              clear ff gg
              subst f0
              simp only [cond_false]
              go_simp
              exact hK _ _ ⟨l0, l1, l2, l3, l4, l5, l6, true, l8, l9, l10, l11, l12, l13, l14, _, rfl, (by kernel_rfl), hu, rfl⟩
            case s8 =>
              intro ff gg KK hK
              have f0 : l8 = false := ff
              subst hv
              have t6 : l6 = true := gg ⟨6, .data⟩ (by simp) (by rfl)
              have t7 : l7 = true := gg ⟨7, .data⟩ (by simp) (by rfl)
              clear ff gg
              subst t6 t7
              subst f0
              simp only [cond_true, cond_false]
              go_simp
              exact hK _ _ ⟨l0, l1, l2, l3, l4, l5, true, true, true, l9, l10, l11, l12, l13, l14, _, rfl, (by kernel_rfl), hu, rfl⟩
            case s9 =>
              intro ff gg KK hK
              have f0 : l9 = false := ff
              subst hv
              have t8 : l8 = true := gg ⟨8, .data⟩ (by simp) (by rfl)
              clear ff gg
              subst t8
              subst f0
              simp only [cond_true, cond_false]
              go_simp
              exact hK _ _ ⟨l0, l1, l2, l3, l4, l5, l6, l7, true, true, l10, l11, l12, l13, l14, _, rfl, (by kernel_rfl), hu, rfl⟩
            case s10 =>
              intro ff gg KK hK
              have f0 : l10 = false := ff
              subst hv
              have t9 : l9 = true := gg ⟨9, .data⟩ (by simp) (by rfl)
              clear ff gg
              subst t9
              subst f0
              simp only [cond_true, cond_false]
              have j0 := cell_later hu c4
              have j1 := cell_later hu c5
              go_simp
              exact hK _ _ ⟨l0, l1, l2, l3, l4, l5, l6, l7, l8, true, true, l11, l12, l13, l14, _, rfl, (by kernel_rfl), hu, rfl⟩
            case s11 =>
              intro ff gg KK hK
              have f0 : l11 = false := ff
              subst hv
              have t10 : l10 = true := gg ⟨10, .data⟩ (by simp) (by rfl)
              have t5 : l5 = true := gg ⟨5, .chain⟩ (by simp) (by rfl)
              clear ff gg
              subst t10 t5
              subst f0
              simp only [cond_true, cond_false]
              go_simp
              go_at_call 22
              with_reducible refine (M7.out _).mono ?_
              rintro e w' ⟨rfl, hb⟩
              exact hK _ _ ⟨l0, l1, l2, l3, l4, true, l6, l7, l8, l9, true, true, l12, l13, l14, _, rfl, (by kernel_rfl), bl_step hb hu, rfl⟩
            case s12 =>
              intro ff gg KK hK
              have f0 : l12 = false := ff
              subst hv
              have t2 : l2 = true := gg ⟨2, .data⟩ (by simp) (by rfl)
              have t11 : l11 = true := gg ⟨11, .chain⟩ (by simp) (by rfl)
              clear ff gg
              subst t2 t11
              subst f0
              simp only [cond_true, cond_false]
              go_simp
              exact hK _ _ ⟨l0, l1, true, l3, l4, l5, l6, l7, l8, l9, l10, true, true, l13, l14, _, rfl, (by kernel_rfl), hu, rfl⟩
            case s13 =>
              intro ff gg KK hK
              have f0 : l13 = false := ff
              subst hv
              have t5 : l5 = true := gg ⟨5, .data⟩ (by simp) (by rfl)
              have t12 : l12 = true := gg ⟨12, .chain⟩ (by simp) (by rfl)
              clear ff gg
              subst t5 t12
              subst f0
              simp only [cond_true, cond_false]
              go_simp
              exact hK _ _ ⟨l0, l1, l2, l3, l4, true, l6, l7, l8, l9, l10, l11, true, true, l14, _, rfl, (by kernel_rfl), hu, rfl⟩
            case s14 =>
              intro ff gg KK hK
              have f0 : l14 = false := ff
              subst hv
              have t11 : l11 = true := gg ⟨11, .data⟩ (by simp) (by rfl)
              have t13 : l13 = true := gg ⟨13, .chain⟩ (by simp) (by rfl)
              clear ff gg
              subst t11 t13
              subst f0
              simp only [cond_true, cond_false]
              go_simp
              exact hK _ _ ⟨l0, l1, l2, l3, l4, l5, l6, l7, l8, l9, l10, true, l12, true, true, _, rfl, (by kernel_rfl), hu, rfl⟩
          case hdone =>
            intro LL aa vv h hd
            obtain ⟨l0, h⟩ := h
            obtain ⟨l1, h⟩ := h
            obtain ⟨l2, h⟩ := h
            obtain ⟨l3, h⟩ := h
            obtain ⟨l4, h⟩ := h
            obtain ⟨l5, h⟩ := h
            obtain ⟨l6, h⟩ := h
            obtain ⟨l7, h⟩ := h
            obtain ⟨l8, h⟩ := h
            obtain ⟨l9, h⟩ := h
            obtain ⟨l10, h⟩ := h
            obtain ⟨l11, h⟩ := h
            obtain ⟨l12, h⟩ := h
            obtain ⟨l13, h⟩ := h
            obtain ⟨l14, h⟩ := h
            obtain ⟨uu, h⟩ := h
            obtain ⟨hL, h⟩ := h
            obtain ⟨ha, h⟩ := h
            obtain ⟨hu, hv⟩ := h
            rw [hL] at hd
            have t0 : l0 = true := hd 0 (by decide)
            have t1 : l1 = true := hd 1 (by decide)
            have t2 : l2 = true := hd 2 (by decide)
            have t3 : l3 = true := hd 3 (by decide)
            have t4 : l4 = true := hd 4 (by decide)
            have t5 : l5 = true := hd 5 (by decide)
            have t6 : l6 = true := hd 6 (by decide)
            have t7 : l7 = true := hd 7 (by decide)
            have t8 : l8 = true := hd 8 (by decide)
            have t9 : l9 = true := hd 9 (by decide)
            have t10 : l10 = true := hd 10 (by decide)
            have t11 : l11 = true := hd 11 (by decide)
            have t12 : l12 = true := hd 12 (by decide)
            have t13 : l13 = true := hd 13 (by decide)
            have t14 : l14 = true := hd 14 (by decide)
            clear hd hL
            subst t0 t1 t2 t3 t4 t5 t6 t7 t8 t9 t10 t11 t12 t13 t14
            simp only [cond_true, List.take_succ_cons, List.take_zero, List.cons_append, List.nil_append, List.drop_succ_cons, List.drop_zero, List.set_cons_zero, List.set_cons_succ] at ha
            subst ha
            subst hv
            have hv3 : Below wr.heap.size wr vv := bl_step hu (bl_step hv2 hv1)
            have hS := own_later2 hv3 HOS.out
            have hDd := own_later2 hv3 HOD.out
            have hV3 : Below W0.heap.size W0 vv := bl_step hv3 hV
            have hz3 := hV3.size
            clear hu hv1 hv2 hv3 y0 y1 c4 c5
            obtain ⟨X1, rfl⟩ : ∃ v, v = vv := ⟨_, rfl⟩
            go_wp2_with (at_builtin; refine stopHere2 ?_)
            unfold Hid
            refine wpList_append_own_at _ rfl (.tmp 85) (.tmp 87) 26 rfl W0.heap.size 3 i1 (.int .i64 0) 1 8 Tryz.underlying26 hj hj0 hj1 hj2 rfl (by decide) u6 k (outL s k) rfl (hS.alloc _) ⟨X1.heap.size, 0, none⟩ 1 1 [.int .i64 (s k)] rfl rfl (new_one _ _ _) (cell_one1 _) (by unfold maxLen; omega) (by omega) (by simp; omega) ?_
            intro s1 w1 hS1 hg1 _ hat1
            have hD1 : w1.ownsRow W0.heap.size 3 1 u7 k (outL d k) := own_grown hg1 (hDd.alloc _) HDI.out
            have hb1 : Below W0.heap.size W0 w1 := Below.grown (w := X1.alloc (Obj.cells #[.int .i64 (s k)] 3)) (by (repeat (first | exact Below.refl _ _ | refine bl_drewN ?_ | refine bl_drew ?_ | refine bl_alloc ?_ _ | refine Below.setCell ?_ (by (first | (simp; done) | (simp; omega) | omega)) _ | refine bl_step (by assumption) ?_))) hg1 (by simp; omega) (fun k hk => (hS.lt k hk).1)
            have hz4 := hb1.size
            have hcq : ∀ q, u7.ownBlock = some q → q < (X1.alloc (Obj.cells #[.int .i64 (s k)] 3)).heap.size := fun q hq => by have := (hDd.lt q hq).2; simp; omega
            have dis1 := two_app HDI.out hat1 hcq
            have hsq : ∀ q, s1.ownBlock = some q → q < (w1.alloc (Obj.cells #[.int .i64 (d k)] 3)).heap.size := fun q hq => by have := (hS1.lt q hq).2; simp; omega
            go_wp2_with (at_builtin; refine stopHere2 ?_)
            unfold Hid
            refine wpList_append_own_at _ rfl (.tmp 89) (.tmp 91) 26 rfl W0.heap.size 3 i1 (.int .i64 0) 1 8 Tryz.underlying26 hj hj0 hj1 hj2 rfl (by decide) u7 k (outL d k) rfl (hD1.alloc _) ⟨w1.heap.size, 0, none⟩ 1 1 [.int .i64 (d k)] rfl rfl (new_one _ _ _) (cell_one1 _) (by unfold maxLen; omega) (by omega) (by simp; omega) ?_
            intro s2 w2 hD2 hg2 _ hat2
            have hS2 := own_grown hg2 (hS1.alloc _) (two_swap dis1)
            have dis2 := two_swap (two_app (two_swap dis1) hat2 hsq)
            have hb2 : Below W0.heap.size W0 w2 := Below.grown (w := w1.alloc (Obj.cells #[.int .i64 (d k)] 3)) (by (repeat (first | exact Below.refl _ _ | refine bl_drewN ?_ | refine bl_drew ?_ | refine bl_alloc ?_ _ | refine Below.setCell ?_ (by (first | (simp; done) | (simp; omega) | omega)) _ | refine bl_step (by assumption) ?_))) hg2 (by simp; omega) (fun k hk => (hD1.lt k hk).1)
            clear hat1 hat2 hcq hsq dis1 hg1 hg2 hS1 hD1 hb1 hz4 hS hDd
            obtain ⟨⟨b0, b1⟩, ⟨b2, b3⟩, ⟨b4, b5⟩, ⟨b6, b7⟩, b8, b9⟩ := BS.out k hkn
            obtain ⟨⟨a0, a1⟩, ⟨a2, a3⟩, ⟨a4, a5⟩, ⟨a6, a7⟩, a8, a9⟩ := BA.out k (by omega)
            go_wp2
            have st := S1.out k hkn
            exact ⟨⟨k + 1, by go_num, by omega, by rw [st.1], by rw [st.2.1], by rw [st.2.2.1], by rw [st.2.2.2.1], by rw [st.2.2.2.2], hS2, hD2, dis2, (fun i h => by rcases Nat.lt_or_ge i k with h4 | h4; exact hsame.out i h4; obtain rfl : i = k := (by omega); exact NK.out), by (repeat (first | (with_reducible exact Below.refl _ _) | (with_reducible refine Below.setCell ?_ (by (first | (simp; done) | (simp; omega) | omega)) _) | (with_reducible refine bl_alloc ?_ _) | (with_reducible refine bl_drewN ?_) | (with_reducible refine bl_drew ?_) | (with_reducible refine bl_step (by assumption) ?_)))⟩, by simp [intOf]; omega⟩
        · have q1 : decide (k < n) = false := by simp; omega
          have e : n = k := by omega
          subst e
          have HV := hidden hV
          have LB2 : B < wr.heap.size := by omega
          have zz0 : wr.cell? ⟨B, oo, none⟩ = some (.int .i64 (f 0 0)) := by have := cell_later hV (HL.out 0 0 (by omega) (by omega)); simpa using this
          have zz1 : wr.cell? ⟨B, oo + 1, none⟩ = some (.int .i64 (f 0 1)) := by have := cell_later hV (HL.out 0 1 (by omega) (by omega)); simpa using this
          have q3 : 0 < n := by omega
          have q4 : decide (0 < n) = true := by simp; omega
          obtain ⟨⟨a0, a1⟩, ⟨a2, a3⟩, ⟨a4, a5⟩, ⟨a6, a7⟩, a8, a9⟩ := BA.out n (by omega)
          obtain ⟨⟨p0, p1⟩, p2, p3⟩ := PA.out
          rcases howS.2 with ⟨_, hn0⟩ | ⟨gS, capS, curS, rfl, hgS, _⟩
          · omega
          rcases howD.2 with ⟨_, hn0⟩ | ⟨gD, capD, curD, rfl, hgD, _⟩
          · omega
          have HS := hidden howS
          have HD := hidden howD
          have SAME := hidden hsame
          have lw0 : w.heap.size < W0.heap.size := World.block_lt_of_cell? _ _ cs0
          have rwX : Below w.heap.size w wr := bl_step hV hw1
          have rq0 := cell_later hV cs0
          have rq1 := cell_later hV cs1
          have rcf : ∀ o, wr.frozen? ⟨w.heap.size, o, none⟩ = false := fun o => (hV.frozen (p := ⟨w.heap.size, o, none⟩) lw0).trans (cg2 o)
          have lww : w.heap.size < wr.heap.size := by omega
          clear howS howD hsame hdis hV
          by_cases hD : A n * Cq n - Bq n * Bq n < 1099511627776
          case pos =>
            go_wp2
            exact bodyPost_ret (v := .tuple #[.agg #[.int .i64 0, .int .i64 0], .slice none 0 0, .int .i64 16]) (by first | (simp only [results, Tryz.results6]; go_simp; done) | simp [results, Tryz.results6, go_sem, *]) rfl (rleastR_same SAME.out (leastR_zero hD (by (repeat (first | (with_reducible exact Below.refl _ _) | (with_reducible refine Below.setCell ?_ (by (first | (simp; done) | (simp; omega) | omega)) _) | (with_reducible refine bl_alloc ?_ _) | (with_reducible refine bl_drewN ?_) | (with_reducible refine bl_drew ?_) | (with_reducible refine bl_step (by assumption) ?_))))))
          by_cases hX : -2000000 ≤ x ∧ x ≤ 2000000
          case neg =>
            by_cases hY : -2000000 ≤ y ∧ y ≤ 2000000
            case neg =>
              have hNF : Hid (¬ Fit x y (f 0 0)) := hidden (fun g => hX g.1)
              have hD2 := hidden (Int.not_lt.1 hD)
              have SX1 := hidden (SX.out hD2.out false (by simp; omega))
              have SY1 := hidden (SY.out hD2.out false (by simp; omega))
              go_wp2_with ((first | (go_at_call 26; ((with_reducible refine (SX1.out _).mono ?_); rintro e w' ⟨rfl, hb⟩); have nm0 := trivial) | (go_at_call 26; ((with_reducible refine (SY1.out _).mono ?_); rintro e w' ⟨rfl, hb⟩); have nm1 := trivial)); (try replace hb := below_undrew hb); (try replace hb := below_undrewN hb); obtain ⟨hcell, hfroz⟩ := bcell hb; have hz := hb.size; (try simp at hz); (try (have z6 := Nat.lt_of_lt_of_le z7 hz)); (try (have z7 := Nat.lt_of_lt_of_le z8 hz)); (try (have z8 := Nat.lt_of_lt_of_le z9 hz)); (try (have z9 := Nat.lt_of_lt_of_le (Nat.lt_succ_self _) hz)); (try (have z0 : w.heap.size < w'.heap.size := by omega)); (try (have z1 : w.heap.size + 1 < w'.heap.size := by omega)); (try (have z2 : w.heap.size + 1 + 1 < w'.heap.size := by omega)); (try (have z3 : w.heap.size + 1 + 1 + 1 < w'.heap.size := by omega)); (try (have y2 : w2.heap.size < w'.heap.size := by omega)); (try (have x2 : w2.heap.size + 1 < w'.heap.size := by omega)); (try (have z20 : w2.heap.size < w'.heap.size + 1 := by omega)); (first | (clear nm0; (have e1 : B < w'.heap.size := by omega); (have e2 : w.heap.size < w'.heap.size := by omega); obtain ⟨w2, rfl⟩ : ∃ v, v = w' := ⟨_, rfl⟩) | (clear nm1; (have e1 : B < w'.heap.size := by omega); (have e2 : w.heap.size < w'.heap.size := by omega); obtain ⟨w3, rfl⟩ : ∃ v, v = w' := ⟨_, rfl⟩)))
              exact bodyPost_ret (v := .tuple #[.agg #[.int .i64 0, .int .i64 0], .slice none 0 0, .int .i64 25]) (by first | (simp only [results, Tryz.results6]; go_simp; done) | simp [results, Tryz.results6, go_sem, *]) rfl (rleastR_same SAME.out (leastR_far hD2.out hNF.out (by (repeat (first | (with_reducible exact Below.refl _ _) | (with_reducible refine Below.setCell ?_ (by (first | (simp; done) | (simp; omega) | omega)) _) | (with_reducible refine bl_alloc ?_ _) | (with_reducible refine bl_drewN ?_) | (with_reducible refine bl_drew ?_) | (with_reducible refine bl_step (by assumption) ?_))))))
            case pos =>
              have hNF : Hid (¬ Fit x y (f 0 0)) := hidden (fun g => hX g.1)
              have hD2 := hidden (Int.not_lt.1 hD)
              have SX1 := hidden (SX.out hD2.out false (by simp; omega))
              have SY1 := hidden (SY.out hD2.out true (by simp; omega))
              go_wp2_with ((first | (go_at_call 26; ((with_reducible refine (SX1.out _).mono ?_); rintro e w' ⟨rfl, hb⟩); have nm0 := trivial) | (go_at_call 26; ((with_reducible refine (SY1.out _).mono ?_); rintro e w' ⟨rfl, hb⟩); have nm1 := trivial)); (try replace hb := below_undrew hb); (try replace hb := below_undrewN hb); obtain ⟨hcell, hfroz⟩ := bcell hb; have hz := hb.size; (try simp at hz); (try (have z6 := Nat.lt_of_lt_of_le z7 hz)); (try (have z7 := Nat.lt_of_lt_of_le z8 hz)); (try (have z8 := Nat.lt_of_lt_of_le z9 hz)); (try (have z9 := Nat.lt_of_lt_of_le (Nat.lt_succ_self _) hz)); (try (have z0 : w.heap.size < w'.heap.size := by omega)); (try (have z1 : w.heap.size + 1 < w'.heap.size := by omega)); (try (have z2 : w.heap.size + 1 + 1 < w'.heap.size := by omega)); (try (have z3 : w.heap.size + 1 + 1 + 1 < w'.heap.size := by omega)); (try (have y2 : w2.heap.size < w'.heap.size := by omega)); (try (have x2 : w2.heap.size + 1 < w'.heap.size := by omega)); (try (have z20 : w2.heap.size < w'.heap.size + 1 := by omega)); (first | (clear nm0; (have e1 : B < w'.heap.size := by omega); (have e2 : w.heap.size < w'.heap.size := by omega); obtain ⟨w2, rfl⟩ : ∃ v, v = w' := ⟨_, rfl⟩) | (clear nm1; (have e1 : B < w'.heap.size := by omega); (have e2 : w.heap.size < w'.heap.size := by omega); obtain ⟨w3, rfl⟩ : ∃ v, v = w' := ⟨_, rfl⟩)))
              exact bodyPost_ret (v := .tuple #[.agg #[.int .i64 0, .int .i64 0], .slice none 0 0, .int .i64 25]) (by first | (simp only [results, Tryz.results6]; go_simp; done) | simp [results, Tryz.results6, go_sem, *]) rfl (rleastR_same SAME.out (leastR_far hD2.out hNF.out (by (repeat (first | (with_reducible exact Below.refl _ _) | (with_reducible refine Below.setCell ?_ (by (first | (simp; done) | (simp; omega) | omega)) _) | (with_reducible refine bl_alloc ?_ _) | (with_reducible refine bl_drewN ?_) | (with_reducible refine bl_drew ?_) | (with_reducible refine bl_step (by assumption) ?_))))))
          by_cases hY : -2000000 ≤ y ∧ y ≤ 2000000
          case neg =>
            have hNF : Hid (¬ Fit x y (f 0 0)) := hidden (fun g => hY g.2.1)
            have hD2 := hidden (Int.not_lt.1 hD)
            have SX1 := hidden (SX.out hD2.out true (by simp; omega))
            have SY1 := hidden (SY.out hD2.out false (by simp; omega))
            go_wp2_with ((first | (go_at_call 26; ((with_reducible refine (SX1.out _).mono ?_); rintro e w' ⟨rfl, hb⟩); have nm0 := trivial) | (go_at_call 26; ((with_reducible refine (SY1.out _).mono ?_); rintro e w' ⟨rfl, hb⟩); have nm1 := trivial)); (try replace hb := below_undrew hb); (try replace hb := below_undrewN hb); obtain ⟨hcell, hfroz⟩ := bcell hb; have hz := hb.size; (try simp at hz); (try (have z6 := Nat.lt_of_lt_of_le z7 hz)); (try (have z7 := Nat.lt_of_lt_of_le z8 hz)); (try (have z8 := Nat.lt_of_lt_of_le z9 hz)); (try (have z9 := Nat.lt_of_lt_of_le (Nat.lt_succ_self _) hz)); (try (have z0 : w.heap.size < w'.heap.size := by omega)); (try (have z1 : w.heap.size + 1 < w'.heap.size := by omega)); (try (have z2 : w.heap.size + 1 + 1 < w'.heap.size := by omega)); (try (have z3 : w.heap.size + 1 + 1 + 1 < w'.heap.size := by omega)); (try (have y2 : w2.heap.size < w'.heap.size := by omega)); (try (have x2 : w2.heap.size + 1 < w'.heap.size := by omega)); (try (have z20 : w2.heap.size < w'.heap.size + 1 := by omega)); (first | (clear nm0; (have e1 : B < w'.heap.size := by omega); (have e2 : w.heap.size < w'.heap.size := by omega); obtain ⟨w2, rfl⟩ : ∃ v, v = w' := ⟨_, rfl⟩) | (clear nm1; (have e1 : B < w'.heap.size := by omega); (have e2 : w.heap.size < w'.heap.size := by omega); obtain ⟨w3, rfl⟩ : ∃ v, v = w' := ⟨_, rfl⟩)))
            exact bodyPost_ret (v := .tuple #[.agg #[.int .i64 0, .int .i64 0], .slice none 0 0, .int .i64 25]) (by first | (simp only [results, Tryz.results6]; go_simp; done) | simp [results, Tryz.results6, go_sem, *]) rfl (rleastR_same SAME.out (leastR_far hD2.out hNF.out (by (repeat (first | (with_reducible exact Below.refl _ _) | (with_reducible refine Below.setCell ?_ (by (first | (simp; done) | (simp; omega) | omega)) _) | (with_reducible refine bl_alloc ?_ _) | (with_reducible refine bl_drewN ?_) | (with_reducible refine bl_drew ?_) | (with_reducible refine bl_step (by assumption) ?_))))))
          by_cases hl1 : 5400000 < f 0 0 + y
          case pos =>
            have hNF : Hid (¬ Fit x y (f 0 0)) := hidden (fun g => g.2.2.2 hl1)
            have hD2 := hidden (Int.not_lt.1 hD)
            have SX1 := hidden (SX.out hD2.out true (by simp; omega))
            have SY1 := hidden (SY.out hD2.out true (by simp; omega))
            go_wp2_with ((first | (go_at_call 26; ((with_reducible refine (SX1.out _).mono ?_); rintro e w' ⟨rfl, hb⟩); have nm0 := trivial) | (go_at_call 26; ((with_reducible refine (SY1.out _).mono ?_); rintro e w' ⟨rfl, hb⟩); have nm1 := trivial)); (try replace hb := below_undrew hb); (try replace hb := below_undrewN hb); obtain ⟨hcell, hfroz⟩ := bcell hb; have hz := hb.size; (try simp at hz); (try (have z6 := Nat.lt_of_lt_of_le z7 hz)); (try (have z7 := Nat.lt_of_lt_of_le z8 hz)); (try (have z8 := Nat.lt_of_lt_of_le z9 hz)); (try (have z9 := Nat.lt_of_lt_of_le (Nat.lt_succ_self _) hz)); (try (have z0 : w.heap.size < w'.heap.size := by omega)); (try (have z1 : w.heap.size + 1 < w'.heap.size := by omega)); (try (have z2 : w.heap.size + 1 + 1 < w'.heap.size := by omega)); (try (have z3 : w.heap.size + 1 + 1 + 1 < w'.heap.size := by omega)); (try (have y2 : w2.heap.size < w'.heap.size := by omega)); (try (have x2 : w2.heap.size + 1 < w'.heap.size := by omega)); (try (have z20 : w2.heap.size < w'.heap.size + 1 := by omega)); (first | (clear nm0; (have e1 : B < w'.heap.size := by omega); (have e2 : w.heap.size < w'.heap.size := by omega); obtain ⟨w2, rfl⟩ : ∃ v, v = w' := ⟨_, rfl⟩) | (clear nm1; (have e1 : B < w'.heap.size := by omega); (have e2 : w.heap.size < w'.heap.size := by omega); obtain ⟨w3, rfl⟩ : ∃ v, v = w' := ⟨_, rfl⟩)))
            exact bodyPost_ret (v := .tuple #[.agg #[.int .i64 0, .int .i64 0], .slice none 0 0, .int .i64 25]) (by first | (simp only [results, Tryz.results6]; go_simp; done) | simp [results, Tryz.results6, go_sem, *]) rfl (rleastR_same SAME.out (leastR_far hD2.out hNF.out (by (repeat (first | (with_reducible exact Below.refl _ _) | (with_reducible refine Below.setCell ?_ (by (first | (simp; done) | (simp; omega) | omega)) _) | (with_reducible refine bl_alloc ?_ _) | (with_reducible refine bl_drewN ?_) | (with_reducible refine bl_drew ?_) | (with_reducible refine bl_step (by assumption) ?_))))))
          by_cases hl0 : f 0 0 + y < -5400000
          case pos =>
            have hNF : Hid (¬ Fit x y (f 0 0)) := hidden (fun g => g.2.2.1 hl0)
            have hD2 := hidden (Int.not_lt.1 hD)
            have SX1 := hidden (SX.out hD2.out true (by simp; omega))
            have SY1 := hidden (SY.out hD2.out true (by simp; omega))
            go_wp2_with ((first | (go_at_call 26; ((with_reducible refine (SX1.out _).mono ?_); rintro e w' ⟨rfl, hb⟩); have nm0 := trivial) | (go_at_call 26; ((with_reducible refine (SY1.out _).mono ?_); rintro e w' ⟨rfl, hb⟩); have nm1 := trivial)); (try replace hb := below_undrew hb); (try replace hb := below_undrewN hb); obtain ⟨hcell, hfroz⟩ := bcell hb; have hz := hb.size; (try simp at hz); (try (have z6 := Nat.lt_of_lt_of_le z7 hz)); (try (have z7 := Nat.lt_of_lt_of_le z8 hz)); (try (have z8 := Nat.lt_of_lt_of_le z9 hz)); (try (have z9 := Nat.lt_of_lt_of_le (Nat.lt_succ_self _) hz)); (try (have z0 : w.heap.size < w'.heap.size := by omega)); (try (have z1 : w.heap.size + 1 < w'.heap.size := by omega)); (try (have z2 : w.heap.size + 1 + 1 < w'.heap.size := by omega)); (try (have z3 : w.heap.size + 1 + 1 + 1 < w'.heap.size := by omega)); (try (have y2 : w2.heap.size < w'.heap.size := by omega)); (try (have x2 : w2.heap.size + 1 < w'.heap.size := by omega)); (try (have z20 : w2.heap.size < w'.heap.size + 1 := by omega)); (first | (clear nm0; (have e1 : B < w'.heap.size := by omega); (have e2 : w.heap.size < w'.heap.size := by omega); obtain ⟨w2, rfl⟩ : ∃ v, v = w' := ⟨_, rfl⟩) | (clear nm1; (have e1 : B < w'.heap.size := by omega); (have e2 : w.heap.size < w'.heap.size := by omega); obtain ⟨w3, rfl⟩ : ∃ v, v = w' := ⟨_, rfl⟩)))
            exact bodyPost_ret (v := .tuple #[.agg #[.int .i64 0, .int .i64 0], .slice none 0 0, .int .i64 25]) (by first | (simp only [results, Tryz.results6]; go_simp; done) | simp [results, Tryz.results6, go_sem, *]) rfl (rleastR_same SAME.out (leastR_far hD2.out hNF.out (by (repeat (first | (with_reducible exact Below.refl _ _) | (with_reducible refine Below.setCell ?_ (by (first | (simp; done) | (simp; omega) | omega)) _) | (with_reducible refine bl_alloc ?_ _) | (with_reducible refine bl_drewN ?_) | (with_reducible refine bl_drew ?_) | (with_reducible refine bl_step (by assumption) ?_))))))
          have hFit : Hid (Fit x y (f 0 0)) := hidden ⟨hX, hY, hl0, hl1⟩
          have BR2 := hidden (BR.out hFit.out)
          have FL2 := hidden (FL.out hFit.out)
          have SG2 := hidden (SG.out hFit.out)
          have hF := hFF.out hFit.out
          obtain ⟨hx0, hx1⟩ := id hX
          obtain ⟨hy0, hy1⟩ := id hY
          have hD2 := hidden (Int.not_lt.1 hD)
          have SX1 := hidden (SX.out hD2.out true (by simp; omega))
          have SY1 := hidden (SY.out hD2.out true (by simp; omega))
          go_wp2_with ((first | (go_at_call 26; ((with_reducible refine (SX1.out _).mono ?_); rintro e w' ⟨rfl, hb⟩); have nm0 := trivial) | (go_at_call 26; ((with_reducible refine (SY1.out _).mono ?_); rintro e w' ⟨rfl, hb⟩); have nm1 := trivial)); (try replace hb := below_undrew hb); (try replace hb := below_undrewN hb); obtain ⟨hcell, hfroz⟩ := bcell hb; have hz := hb.size; (try simp at hz); (try (have z6 := Nat.lt_of_lt_of_le z7 hz)); (try (have z7 := Nat.lt_of_lt_of_le z8 hz)); (try (have z8 := Nat.lt_of_lt_of_le z9 hz)); (try (have z9 := Nat.lt_of_lt_of_le (Nat.lt_succ_self _) hz)); (try (have z0 : w.heap.size < w'.heap.size := by omega)); (try (have z1 : w.heap.size + 1 < w'.heap.size := by omega)); (try (have z2 : w.heap.size + 1 + 1 < w'.heap.size := by omega)); (try (have z3 : w.heap.size + 1 + 1 + 1 < w'.heap.size := by omega)); (try (have y2 : w2.heap.size < w'.heap.size := by omega)); (try (have x2 : w2.heap.size + 1 < w'.heap.size := by omega)); (try (have z20 : w2.heap.size < w'.heap.size + 1 := by omega)); (first | (clear nm0; (have e1 : B < w'.heap.size := by omega); (have e2 : w.heap.size < w'.heap.size := by omega); obtain ⟨w2, rfl⟩ : ∃ v, v = w' := ⟨_, rfl⟩) | (clear nm1; (have e1 : B < w'.heap.size := by omega); (have e2 : w.heap.size < w'.heap.size := by omega); obtain ⟨w3, rfl⟩ : ∃ v, v = w' := ⟨_, rfl⟩)))
          refine name_code ?_
          intro w' hb
          (try replace hb := below_undrew hb); (try replace hb := below_undrewN hb); obtain ⟨hcell, hfroz⟩ := bcell hb; have hz := hb.size; (try simp at hz); (try (have z6 := Nat.lt_of_lt_of_le z7 hz)); (try (have z7 := Nat.lt_of_lt_of_le z8 hz)); (try (have z8 := Nat.lt_of_lt_of_le z9 hz)); (try (have z9 := Nat.lt_of_lt_of_le (Nat.lt_succ_self _) hz)); (try (have z0 : w.heap.size < w'.heap.size := by omega)); (try (have z1 : w.heap.size + 1 < w'.heap.size := by omega)); (try (have z2 : w.heap.size + 1 + 1 < w'.heap.size := by omega)); (try (have z3 : w.heap.size + 1 + 1 + 1 < w'.heap.size := by omega)); (try (have y2 : w2.heap.size < w'.heap.size := by omega)); (try (have y3 : w3.heap.size < w'.heap.size := by omega)); (try (have y4 : w4.heap.size < w'.heap.size := by omega)); (try (have y5 : w5.heap.size < w'.heap.size := by omega)); (try (have y6 : w6.heap.size < w'.heap.size := by omega)); (try (have x2 : w2.heap.size + 1 < w'.heap.size := by omega)); (try (have x3 : w3.heap.size + 1 < w'.heap.size := by omega)); (try (have x4 : w4.heap.size + 1 < w'.heap.size := by omega)); (try (have x5 : w5.heap.size + 1 < w'.heap.size := by omega)); (try (have x6 : w6.heap.size + 1 < w'.heap.size := by omega)); (try (have z20 : w2.heap.size < w'.heap.size + 1 := by omega)); (try (have z30 : w3.heap.size < w'.heap.size + 1 := by omega)); (try (have z40 : w4.heap.size < w'.heap.size + 1 := by omega)); (try (have z50 : w5.heap.size < w'.heap.size + 1 := by omega)); (try (have z60 : w6.heap.size < w'.heap.size + 1 := by omega))
          have hZ : Below wr.heap.size wr w' := by (repeat (first | (with_reducible exact Below.refl _ _) | (with_reducible refine Below.setCell ?_ (by (first | (simp; done) | (simp; omega) | omega)) _) | (with_reducible refine bl_alloc ?_ _) | (with_reducible refine bl_drewN ?_) | (with_reducible refine bl_drew ?_) | (with_reducible refine bl_step (by assumption) ?_)))
          have n0 : w'.cell? ⟨w3.heap.size, 0, none⟩ = some (.int .i64 (f 0 0)) := by simp [go_sem, *]
          have n1 : w'.cell? ⟨w3.heap.size, 1, none⟩ = some (.int .i64 (f 0 1)) := by simp [go_sem, *]
          have HSZ := hidden (own_later2 hZ HS.out)
          have HDZ := hidden (own_later2 hZ HD.out)
          have HZL := hidden (HL.out.later (bl_step hZ HV.out))
          have zq0 := cell_later hZ rq0
          have zq1 := cell_later hZ rq1
          have zcf : ∀ o, w'.frozen? ⟨w.heap.size, o, none⟩ = false := fun o => (hZ.frozen (p := ⟨w.heap.size, o, none⟩) lww).trans (rcf o)
          have hwZ : Below w.heap.size w w' := bl_step hZ rwX
          have BZ : B < w'.heap.size := Nat.lt_of_lt_of_le LB2 hZ.size
          have lZ : w.heap.size < w'.heap.size := Nat.lt_of_lt_of_le lww hZ.size
          have gSZ : gS < w'.heap.size := (HSZ.out.lt gS rfl).2
          have gDZ : gD < w'.heap.size := (HDZ.out.lt gD rfl).2
          have nw3 : w3.heap.size ≠ w.heap.size := by omega
          clear hcell hfroz hz hb zz0 zz1 rq0 rq1 rcf hZ
          obtain ⟨Z0, rfl⟩ : ∃ v, v = w' := ⟨_, rfl⟩
          have nZ : w3.heap.size < Z0.heap.size := World.block_lt_of_cell? _ _ n0
          go_loopw [24, 25] (fun ov iv wv => ∃ k : Nat, iv = .int .i64 k ∧ k ≤ n ∧ wv.ownsRow Z0.heap.size 3 1 ov k (outL (fun i => p i - (s i * x + d i * y) / 8192) k) ∧ Below Z0.heap.size Z0 wv) (fun _ iv _ => 40 - (intOf iv).toNat)
          case atStart => exact ⟨0, rfl, Nat.zero_le _, World.ownsRow_nil _ _ _ _, Below.refl _ _⟩
          case round =>
            obtain ⟨k, rfl, hk, hown, hX⟩ := hrel
            have hzX := hX.size
            by_cases hkn : k < n
            · have q5 : decide (k < n) = true := by simp; omega
              have c4 : wr.cell? ⟨B, oo + k * 6 + 4, none⟩ = some (.int .i64 (f k 4)) := cell_later hX (HZL.out k 4 hkn (by omega))
              have c5 : wr.cell? ⟨B, oo + k * 6 + 5, none⟩ = some (.int .i64 (f k 5)) := cell_later hX (HZL.out k 5 hkn (by omega))
              have rS : wr.cell? ⟨gS, k, none⟩ = some (.int .i64 (s k)) := cell_later hX ((HSZ.out.cellAt k (by omega)).trans (outL_get s hkn))
              have rD : wr.cell? ⟨gD, k, none⟩ = some (.int .i64 (d k)) := cell_later hX ((HDZ.out.cellAt k (by omega)).trans (outL_get d hkn))
              have hneB : some B ≠ u24.ownBlock := fun e => by have := (hown.lt _ e.symm).1; omega
              have hneS : some gS ≠ u24.ownBlock := fun e => by have := (hown.lt _ e.symm).1; omega
              have hneD : some gD ≠ u24.ownBlock := fun e => by have := (hown.lt _ e.symm).1; omega
              have lB3 : B < wr.heap.size := by omega
              have lS3 : gS < wr.heap.size := by omega
              have lD3 : gD < wr.heap.size := by omega
              go_wp2
              refine name_below ?_
              intro w' hb
              (try replace hb := below_undrew hb); (try replace hb := below_undrewN hb); obtain ⟨hcell, hfroz⟩ := bcell hb; have hz := hb.size; (try simp at hz); (try (have z6 := Nat.lt_of_lt_of_le z7 hz)); (try (have z7 := Nat.lt_of_lt_of_le z8 hz)); (try (have z8 := Nat.lt_of_lt_of_le z9 hz)); (try (have z9 := Nat.lt_of_lt_of_le (Nat.lt_succ_self _) hz)); (try (have z0 : w.heap.size < w'.heap.size := by omega)); (try (have z1 : w.heap.size + 1 < w'.heap.size := by omega)); (try (have z2 : w.heap.size + 1 + 1 < w'.heap.size := by omega)); (try (have z3 : w.heap.size + 1 + 1 + 1 < w'.heap.size := by omega)); (try (have y2 : w2.heap.size < w'.heap.size := by omega)); (try (have y3 : w3.heap.size < w'.heap.size := by omega)); (try (have y4 : w4.heap.size < w'.heap.size := by omega)); (try (have y5 : w5.heap.size < w'.heap.size := by omega)); (try (have y6 : w6.heap.size < w'.heap.size := by omega)); (try (have x2 : w2.heap.size + 1 < w'.heap.size := by omega)); (try (have x3 : w3.heap.size + 1 < w'.heap.size := by omega)); (try (have x4 : w4.heap.size + 1 < w'.heap.size := by omega)); (try (have x5 : w5.heap.size + 1 < w'.heap.size := by omega)); (try (have x6 : w6.heap.size + 1 < w'.heap.size := by omega)); (try (have z20 : w2.heap.size < w'.heap.size + 1 := by omega)); (try (have z30 : w3.heap.size < w'.heap.size + 1 := by omega)); (try (have z40 : w4.heap.size < w'.heap.size + 1 := by omega)); (try (have z50 : w5.heap.size < w'.heap.size + 1 := by omega)); (try (have z60 : w6.heap.size < w'.heap.size + 1 := by omega))
              have hu : Below wr.heap.size wr w' := by (repeat (first | (with_reducible exact Below.refl _ _) | (with_reducible refine Below.setCell ?_ (by (first | (simp; done) | (simp; omega) | omega)) _) | (with_reducible refine bl_alloc ?_ _) | (with_reducible refine bl_drewN ?_) | (with_reducible refine bl_drew ?_) | (with_reducible refine bl_step (by assumption) ?_)))
              have d4 := cell_later hu c4
              have d5 := cell_later hu c5
              have dS := cell_later hu rS
              have dD := cell_later hu rD
              clear hcell hfroz hz c4 c5 rS rD
              obtain ⟨T1, rfl⟩ : ∃ v, v = w' := ⟨_, rfl⟩
              have hbZ : Below Z0.heap.size Z0 T1 := bl_step hu hX
              replace hown := own_later2 hu hown
              clear hu
              obtain ⟨⟨z0, z1⟩, ⟨z2, z3⟩, z4, z5⟩ := BR2.out k hkn
              have FK := hidden (FR.out k hkn)
              have M7 := hidden (MP.out k hkn)
              have wm1 : IntKind.i64.wrap (s k * x) = s k * x := by rw [IntKind.wrap_i64]; omega
              have wm2 : IntKind.i64.wrap (d k * y) = d k * y := by rw [IntKind.wrap_i64]; omega
              have wm3 : IntKind.i64.wrap (s k * x + d k * y) = s k * x + d k * y := by rw [IntKind.wrap_i64]; omega
              have wm4 : IntKind.i64.wrap (p k - (s k * x + d k * y) / 8192) = p k - (s k * x + d k * y) / 8192 := by rw [IntKind.wrap_i64]; omega
              refine wp_region_inv (fun a0 LL aa X1 => ∃ (l0 l1 l2 l3 l4 l5 l6 l7 l8 l9 l10 l11 l12 l13 l14 l15 l16 l17 l18 l19 l20 l21 l22 l23 l24 : Bool) (F1_ : Nat) (vN1 : Value), LL = #[l0, l1, l2, l3, l4, l5, l6, l7, l8, l9, l10, l11, l12, l13, l14, l15, l16, l17, l18, l19, l20, l21, l22, l23, l24] ∧ aa = { a0 with tmps := (((((((((((((((((((((((((a0.tmps.setIfInBounds 177 (cond l0 (u24) (u177))).setIfInBounds 178 (cond l1 (.slice (some ⟨B, oo, none⟩) n c) (u178))).setIfInBounds 179 (cond l2 (.int .i64 k) (u179))).setIfInBounds 180 (cond l3 (.pointer (some ⟨B, oo + k * 6, none⟩)) (u180))).setIfInBounds 181 (cond l4 (.pointer (some ⟨B, oo + k * 6 + 4, none⟩)) (u181))).setIfInBounds 182 (cond l5 (.agg #[.int .i64 (f k 4), .int .i64 (f k 5)]) (u182))).setIfInBounds 183 (cond l6 (.int .i64 (p k)) (u183))).setIfInBounds 184 (cond l7 (.slice (some ⟨gS, 0, none⟩) n capS) (u184))).setIfInBounds 185 (cond l8 (.int .i64 k) (u185))).setIfInBounds 186 (cond l9 (.pointer (some ⟨gS, k, none⟩)) (u186))).setIfInBounds 187 (cond l10 (.int .i64 (s k)) (u187))).setIfInBounds 188 (cond l11 (.int .i64 (x)) (u188))).setIfInBounds 189 (cond l12 (.int .i64 (s k * x)) (u189))).setIfInBounds 190 (cond l13 (.slice (some ⟨gD, 0, none⟩) n capD) (u190))).setIfInBounds 191 (cond l14 (.int .i64 k) (u191))).setIfInBounds 192 (cond l15 (.pointer (some ⟨gD, k, none⟩)) (u192))).setIfInBounds 193 (cond l16 (.int .i64 (d k)) (u193))).setIfInBounds 194 (cond l17 (.int .i64 (y)) (u194))).setIfInBounds 195 (cond l18 (.int .i64 (d k * y)) (u195))).setIfInBounds 196 (cond l19 (.int .i64 (s k * x + d k * y)) (u196))).setIfInBounds 197 (cond l20 (.int .i64 ((s k * x + d k * y) / 8192)) (u197))).setIfInBounds 198 (cond l21 (.int .i64 (p k - (s k * x + d k * y) / 8192)) (u198))).setIfInBounds 199 (cond l22 (.slice (some ⟨F1_, 0, none⟩) 1 1) (u199))).setIfInBounds 200 (cond l23 (vN1) (u200))).setIfInBounds 24 (cond l24 (vN1) (u24))) } ∧ Below Z0.heap.size Z0 X1 ∧ Kept T1 X1 (u24 : Value).ownBlock ∧ (l23 = true → l0 = true) ∧ (l23 = true → l22 = true) ∧ (l24 = true → l23 = true) ∧ (l22 = true → l23 = false → X1.cell? ⟨F1_, 0, none⟩ = some (.int .i64 (p k - (s k * x + d k * y) / 8192))) ∧ (l23 = false → X1.ownsRow Z0.heap.size 3 1 (u24) k (outL (fun i => p i - (s i * x + d i * y) / 8192) k)) ∧ (l23 = true → X1.ownsRow Z0.heap.size 3 1 vN1 (k + 1) ((outL (fun i => p i - (s i * x + d i * y) / 8192) k) ++ [.int .i64 (p k - (s k * x + d k * y) / 8192)]))) (by kernel_rfl) (by kernel_rfl) ?h0 ?hsize ?hdone ?hstep
              case h0 =>
                refine ⟨false, false, false, false, false, false, false, false, false, false, false, false, false, false, false, false, false, false, false, false, false, false, false, false, false, 0, .bool false, rfl, ?_, by (repeat (first | exact Below.refl _ _ | refine bl_drewN ?_ | refine bl_drew ?_ | refine bl_alloc ?_ _ | refine Below.setCell ?_ (by (first | (simp; done) | (simp; omega) | omega)) _ | refine bl_step (by assumption) ?_)), Kept.below (by (repeat (first | exact Below.refl _ _ | refine bl_drewN ?_ | refine bl_drew ?_ | refine bl_alloc ?_ _ | refine Below.setCell ?_ (by (first | (simp; done) | (simp; omega) | omega)) _ | refine bl_step (by assumption) ?_))) (Kept.refl _ _), (fun h => by cases h), (fun h => by cases h), (fun h => by cases h), (fun h => by cases h), (fun _ => own_later2 (by (repeat (first | exact Below.refl _ _ | refine bl_drewN ?_ | refine bl_drew ?_ | refine bl_alloc ?_ _ | refine Below.setCell ?_ (by (first | (simp; done) | (simp; omega) | omega)) _ | refine bl_step (by assumption) ?_))) hown), (fun h => by cases h)⟩
                simp only [cond_false, List.setIfInBounds_toArray, List.set_cons_zero, List.set_cons_succ]
              case hsize =>
                intro LL aa X1 h
                obtain ⟨l0, l1, l2, l3, l4, l5, l6, l7, l8, l9, l10, l11, l12, l13, l14, l15, l16, l17, l18, l19, l20, l21, l22, l23, l24, F1_, vN1, hL, _⟩ := h
                rw [hL]
                rfl
              case hstep =>
                intro LL aa X1 h
                obtain ⟨l0, l1, l2, l3, l4, l5, l6, l7, l8, l9, l10, l11, l12, l13, l14, l15, l16, l17, l18, l19, l20, l21, l22, l23, l24, F1_, vN1, hL, ha, hb0, hk, q3, q1, q2, he, ho0, ho1⟩ := h
                simp only [List.setIfInBounds_toArray, List.set_cons_zero, List.set_cons_succ] at ha
                subst hL
                subst ha
                refine ⟨?s0, ?s1, ?s2, ?s3, ?s4, ?s5, ?s6, ?s7, ?s8, ?s9, ?s10, ?s11, ?s12, ?s13, ?s14, ?s15, ?s16, ?s17, ?s18, ?s19, ?s20, ?s21, ?s22, ?s23, ?s24, trivial⟩
                case s0 =>
                  intro ff gg KK hK
                  have f0 : l0 = false := ff
                  clear ff gg
                  subst f0
                  have f1 : l23 = false := by cases hl : l23; rfl; exact absurd (q3 hl) (by simp)
                  subst f1
                  have f2 : l24 = false := by cases hl : l24; rfl; exact absurd (q2 hl) (by simp)
                  subst f2
                  simp only [cond_false]
                  go_simp
                  exact hK _ _ ⟨true, l1, l2, l3, l4, l5, l6, l7, l8, l9, l10, l11, l12, l13, l14, l15, l16, l17, l18, l19, l20, l21, l22, false, false, F1_, vN1, rfl, (by simp only [cond_true, cond_false, List.setIfInBounds_toArray, List.set_cons_zero, List.set_cons_succ]), hb0, hk, (fun _ => rfl), q1, q2, he, ho0, ho1⟩
                case s1 =>
                  intro ff gg KK hK
                  have f0 : l1 = false := ff
                  clear ff gg
                  subst f0
                  simp only [cond_false]
                  go_simp
                  exact hK _ _ ⟨l0, true, l2, l3, l4, l5, l6, l7, l8, l9, l10, l11, l12, l13, l14, l15, l16, l17, l18, l19, l20, l21, l22, l23, l24, F1_, vN1, rfl, (by simp only [cond_true, List.setIfInBounds_toArray, List.set_cons_zero, List.set_cons_succ]), hb0, hk, q3, q1, q2, he, ho0, ho1⟩
                case s2 =>
                  intro ff gg KK hK
                  have f0 : l2 = false := ff
                  clear ff gg
                  subst f0
                  simp only [cond_false]
                  go_simp
                  exact hK _ _ ⟨l0, l1, true, l3, l4, l5, l6, l7, l8, l9, l10, l11, l12, l13, l14, l15, l16, l17, l18, l19, l20, l21, l22, l23, l24, F1_, vN1, rfl, (by simp only [cond_true, List.setIfInBounds_toArray, List.set_cons_zero, List.set_cons_succ]), hb0, hk, q3, q1, q2, he, ho0, ho1⟩
                case s3 =>
                  intro ff gg KK hK
                  have t1 : l1 = true := gg ⟨1, .data⟩ (by simp) (by rfl)
                  have t2 : l2 = true := gg ⟨2, .data⟩ (by simp) (by rfl)
                  have f0 : l3 = false := ff
                  clear ff gg
                  subst t1 t2
                  subst f0
                  simp only [cond_true, cond_false]
                  go_simp
                  exact hK _ _ ⟨l0, true, true, true, l4, l5, l6, l7, l8, l9, l10, l11, l12, l13, l14, l15, l16, l17, l18, l19, l20, l21, l22, l23, l24, F1_, vN1, rfl, (by simp only [cond_true, List.setIfInBounds_toArray, List.set_cons_zero, List.set_cons_succ]), hb0, hk, q3, q1, q2, he, ho0, ho1⟩
                case s4 =>
                  intro ff gg KK hK
                  have t3 : l3 = true := gg ⟨3, .data⟩ (by simp) (by rfl)
                  have f0 : l4 = false := ff
                  clear ff gg
                  subst t3
                  subst f0
                  simp only [cond_true, cond_false]
                  go_simp
                  exact hK _ _ ⟨l0, l1, l2, true, true, l5, l6, l7, l8, l9, l10, l11, l12, l13, l14, l15, l16, l17, l18, l19, l20, l21, l22, l23, l24, F1_, vN1, rfl, (by simp only [cond_true, List.setIfInBounds_toArray, List.set_cons_zero, List.set_cons_succ]), hb0, hk, q3, q1, q2, he, ho0, ho1⟩
                case s5 =>
                  intro ff gg KK hK
                  have t4 : l4 = true := gg ⟨4, .data⟩ (by simp) (by rfl)
                  have f0 : l5 = false := ff
                  clear ff gg
                  subst t4
                  subst f0
                  simp only [cond_true, cond_false]
                  have j0 := hk.cell hneB d4
                  have j1 := hk.cell hneB d5
                  go_simp
                  exact hK _ _ ⟨l0, l1, l2, l3, true, true, l6, l7, l8, l9, l10, l11, l12, l13, l14, l15, l16, l17, l18, l19, l20, l21, l22, l23, l24, F1_, vN1, rfl, (by simp only [cond_true, List.setIfInBounds_toArray, List.set_cons_zero, List.set_cons_succ]), hb0, hk, q3, q1, q2, he, ho0, ho1⟩
                case s6 =>
                  intro ff gg KK hK
                  have t5 : l5 = true := gg ⟨5, .data⟩ (by simp) (by rfl)
                  have f0 : l6 = false := ff
                  clear ff gg
                  subst t5
                  subst f0
                  simp only [cond_true, cond_false]
                  go_simp
                  go_at_call 22
                  with_reducible refine (M7.out _).mono ?_
                  rintro e w' ⟨rfl, hb⟩
                  exact hK _ _ ⟨l0, l1, l2, l3, l4, true, true, l7, l8, l9, l10, l11, l12, l13, l14, l15, l16, l17, l18, l19, l20, l21, l22, l23, l24, F1_, vN1, rfl, (by simp only [cond_true, List.setIfInBounds_toArray, List.set_cons_zero, List.set_cons_succ]), bl_step hb hb0, Kept.below hb hk, q3, q1, q2, (fun a b => cell_later hb (he a b)), (fun a => own_later2 hb (ho0 a)), (fun a => own_later2 hb (ho1 a))⟩
                case s7 =>
                  intro ff gg KK hK
                  have f0 : l7 = false := ff
                  clear ff gg
                  subst f0
                  simp only [cond_false]
                  go_simp
                  exact hK _ _ ⟨l0, l1, l2, l3, l4, l5, l6, true, l8, l9, l10, l11, l12, l13, l14, l15, l16, l17, l18, l19, l20, l21, l22, l23, l24, F1_, vN1, rfl, (by simp only [cond_true, List.setIfInBounds_toArray, List.set_cons_zero, List.set_cons_succ]), hb0, hk, q3, q1, q2, he, ho0, ho1⟩
                case s8 =>
                  intro ff gg KK hK
                  have f0 : l8 = false := ff
                  clear ff gg
                  subst f0
                  simp only [cond_false]
                  go_simp
                  exact hK _ _ ⟨l0, l1, l2, l3, l4, l5, l6, l7, true, l9, l10, l11, l12, l13, l14, l15, l16, l17, l18, l19, l20, l21, l22, l23, l24, F1_, vN1, rfl, (by simp only [cond_true, List.setIfInBounds_toArray, List.set_cons_zero, List.set_cons_succ]), hb0, hk, q3, q1, q2, he, ho0, ho1⟩
                case s9 =>
                  intro ff gg KK hK
                  have t7 : l7 = true := gg ⟨7, .data⟩ (by simp) (by rfl)
                  have t8 : l8 = true := gg ⟨8, .data⟩ (by simp) (by rfl)
                  have f0 : l9 = false := ff
                  clear ff gg
                  subst t7 t8
                  subst f0
                  simp only [cond_true, cond_false]
                  go_simp
                  exact hK _ _ ⟨l0, l1, l2, l3, l4, l5, l6, true, true, true, l10, l11, l12, l13, l14, l15, l16, l17, l18, l19, l20, l21, l22, l23, l24, F1_, vN1, rfl, (by simp only [cond_true, List.setIfInBounds_toArray, List.set_cons_zero, List.set_cons_succ]), hb0, hk, q3, q1, q2, he, ho0, ho1⟩
                case s10 =>
                  intro ff gg KK hK
                  have t9 : l9 = true := gg ⟨9, .data⟩ (by simp) (by rfl)
                  have f0 : l10 = false := ff
                  clear ff gg
                  subst t9
                  subst f0
                  simp only [cond_true, cond_false]
                  have j0 := hk.cell hneS dS
                  go_simp
                  exact hK _ _ ⟨l0, l1, l2, l3, l4, l5, l6, l7, l8, true, true, l11, l12, l13, l14, l15, l16, l17, l18, l19, l20, l21, l22, l23, l24, F1_, vN1, rfl, (by simp only [cond_true, List.setIfInBounds_toArray, List.set_cons_zero, List.set_cons_succ]), hb0, hk, q3, q1, q2, he, ho0, ho1⟩
                case s11 =>
                  intro ff gg KK hK
                  have f0 : l11 = false := ff
                  clear ff gg
                  subst f0
                  simp only [cond_false]
                  go_simp
                  exact hK _ _ ⟨l0, l1, l2, l3, l4, l5, l6, l7, l8, l9, l10, true, l12, l13, l14, l15, l16, l17, l18, l19, l20, l21, l22, l23, l24, F1_, vN1, rfl, (by simp only [cond_true, List.setIfInBounds_toArray, List.set_cons_zero, List.set_cons_succ]), hb0, hk, q3, q1, q2, he, ho0, ho1⟩
                case s12 =>
                  intro ff gg KK hK
                  have t10 : l10 = true := gg ⟨10, .data⟩ (by simp) (by rfl)
                  have t11 : l11 = true := gg ⟨11, .data⟩ (by simp) (by rfl)
                  have f0 : l12 = false := ff
                  clear ff gg
                  subst t10 t11
                  subst f0
                  simp only [cond_true, cond_false]
                  go_simp
                  exact hK _ _ ⟨l0, l1, l2, l3, l4, l5, l6, l7, l8, l9, true, true, true, l13, l14, l15, l16, l17, l18, l19, l20, l21, l22, l23, l24, F1_, vN1, rfl, (by first | (simp only [cond_true, List.setIfInBounds_toArray, List.set_cons_zero, List.set_cons_succ]; done) | (simp only [wm1, wm2, wm3, wm4, cond_true, cond_false, List.setIfInBounds_toArray, List.set_cons_zero, List.set_cons_succ]; done) | (simp [cond_true, List.setIfInBounds_toArray, List.set_cons_zero, List.set_cons_succ, IntKind.wrap_i64]; done) | (simp [cond_true, List.setIfInBounds_toArray, List.set_cons_zero, List.set_cons_succ]; decide)), hb0, hk, q3, q1, q2, he, ho0, ho1⟩
                case s13 =>
                  intro ff gg KK hK
                  have f0 : l13 = false := ff
                  clear ff gg
                  subst f0
                  simp only [cond_false]
                  go_simp
                  exact hK _ _ ⟨l0, l1, l2, l3, l4, l5, l6, l7, l8, l9, l10, l11, l12, true, l14, l15, l16, l17, l18, l19, l20, l21, l22, l23, l24, F1_, vN1, rfl, (by simp only [cond_true, List.setIfInBounds_toArray, List.set_cons_zero, List.set_cons_succ]), hb0, hk, q3, q1, q2, he, ho0, ho1⟩
                case s14 =>
                  intro ff gg KK hK
                  have f0 : l14 = false := ff
                  clear ff gg
                  subst f0
                  simp only [cond_false]
                  go_simp
                  exact hK _ _ ⟨l0, l1, l2, l3, l4, l5, l6, l7, l8, l9, l10, l11, l12, l13, true, l15, l16, l17, l18, l19, l20, l21, l22, l23, l24, F1_, vN1, rfl, (by simp only [cond_true, List.setIfInBounds_toArray, List.set_cons_zero, List.set_cons_succ]), hb0, hk, q3, q1, q2, he, ho0, ho1⟩
                case s15 =>
                  intro ff gg KK hK
                  have t13 : l13 = true := gg ⟨13, .data⟩ (by simp) (by rfl)
                  have t14 : l14 = true := gg ⟨14, .data⟩ (by simp) (by rfl)
                  have f0 : l15 = false := ff
                  clear ff gg
                  subst t13 t14
                  subst f0
                  simp only [cond_true, cond_false]
                  go_simp
                  exact hK _ _ ⟨l0, l1, l2, l3, l4, l5, l6, l7, l8, l9, l10, l11, l12, true, true, true, l16, l17, l18, l19, l20, l21, l22, l23, l24, F1_, vN1, rfl, (by simp only [cond_true, List.setIfInBounds_toArray, List.set_cons_zero, List.set_cons_succ]), hb0, hk, q3, q1, q2, he, ho0, ho1⟩
                case s16 =>
                  intro ff gg KK hK
                  have t15 : l15 = true := gg ⟨15, .data⟩ (by simp) (by rfl)
                  have f0 : l16 = false := ff
                  clear ff gg
                  subst t15
                  subst f0
                  simp only [cond_true, cond_false]
                  have j0 := hk.cell hneD dD
                  go_simp
                  exact hK _ _ ⟨l0, l1, l2, l3, l4, l5, l6, l7, l8, l9, l10, l11, l12, l13, l14, true, true, l17, l18, l19, l20, l21, l22, l23, l24, F1_, vN1, rfl, (by simp only [cond_true, List.setIfInBounds_toArray, List.set_cons_zero, List.set_cons_succ]), hb0, hk, q3, q1, q2, he, ho0, ho1⟩
                case s17 =>
                  intro ff gg KK hK
                  have f0 : l17 = false := ff
                  clear ff gg
                  subst f0
                  simp only [cond_false]
                  go_simp
                  exact hK _ _ ⟨l0, l1, l2, l3, l4, l5, l6, l7, l8, l9, l10, l11, l12, l13, l14, l15, l16, true, l18, l19, l20, l21, l22, l23, l24, F1_, vN1, rfl, (by simp only [cond_true, List.setIfInBounds_toArray, List.set_cons_zero, List.set_cons_succ]), hb0, hk, q3, q1, q2, he, ho0, ho1⟩
                case s18 =>
                  intro ff gg KK hK
                  have t16 : l16 = true := gg ⟨16, .data⟩ (by simp) (by rfl)
                  have t17 : l17 = true := gg ⟨17, .data⟩ (by simp) (by rfl)
                  have f0 : l18 = false := ff
                  clear ff gg
                  subst t16 t17
                  subst f0
                  simp only [cond_true, cond_false]
                  go_simp
                  exact hK _ _ ⟨l0, l1, l2, l3, l4, l5, l6, l7, l8, l9, l10, l11, l12, l13, l14, l15, true, true, true, l19, l20, l21, l22, l23, l24, F1_, vN1, rfl, (by first | (simp only [cond_true, List.setIfInBounds_toArray, List.set_cons_zero, List.set_cons_succ]; done) | (simp only [wm1, wm2, wm3, wm4, cond_true, cond_false, List.setIfInBounds_toArray, List.set_cons_zero, List.set_cons_succ]; done) | (simp [cond_true, List.setIfInBounds_toArray, List.set_cons_zero, List.set_cons_succ, IntKind.wrap_i64]; done) | (simp [cond_true, List.setIfInBounds_toArray, List.set_cons_zero, List.set_cons_succ]; decide)), hb0, hk, q3, q1, q2, he, ho0, ho1⟩
                case s19 =>
                  intro ff gg KK hK
                  have t12 : l12 = true := gg ⟨12, .data⟩ (by simp) (by rfl)
                  have t18 : l18 = true := gg ⟨18, .data⟩ (by simp) (by rfl)
                  have f0 : l19 = false := ff
                  clear ff gg
                  subst t12 t18
                  subst f0
                  simp only [cond_true, cond_false]
                  go_simp
                  exact hK _ _ ⟨l0, l1, l2, l3, l4, l5, l6, l7, l8, l9, l10, l11, true, l13, l14, l15, l16, l17, true, true, l20, l21, l22, l23, l24, F1_, vN1, rfl, (by first | (simp only [cond_true, List.setIfInBounds_toArray, List.set_cons_zero, List.set_cons_succ]; done) | (simp only [wm1, wm2, wm3, wm4, cond_true, cond_false, List.setIfInBounds_toArray, List.set_cons_zero, List.set_cons_succ]; done) | (simp [cond_true, List.setIfInBounds_toArray, List.set_cons_zero, List.set_cons_succ, IntKind.wrap_i64]; done) | (simp [cond_true, List.setIfInBounds_toArray, List.set_cons_zero, List.set_cons_succ]; decide)), hb0, hk, q3, q1, q2, he, ho0, ho1⟩
                case s20 =>
                  intro ff gg KK hK
                  have t19 : l19 = true := gg ⟨19, .data⟩ (by simp) (by rfl)
                  have t6 : l6 = true := gg ⟨6, .chain⟩ (by simp) (by rfl)
                  have f0 : l20 = false := ff
                  clear ff gg
                  subst t19 t6
                  subst f0
                  simp only [cond_true, cond_false]
                  go_simp
                  go_at_call 27
                  with_reducible refine (FK.out _).mono ?_
                  rintro e w' ⟨rfl, rfl⟩
                  exact hK _ _ ⟨l0, l1, l2, l3, l4, l5, true, l7, l8, l9, l10, l11, l12, l13, l14, l15, l16, l17, l18, true, true, l21, l22, l23, l24, F1_, vN1, rfl, (by simp only [cond_true, List.setIfInBounds_toArray, List.set_cons_zero, List.set_cons_succ]), hb0, hk, q3, q1, q2, he, ho0, ho1⟩
                case s21 =>
                  intro ff gg KK hK
                  have t6 : l6 = true := gg ⟨6, .data⟩ (by simp) (by rfl)
                  have t20 : l20 = true := gg ⟨20, .data⟩ (by simp) (by rfl)
                  have f0 : l21 = false := ff
                  clear ff gg
                  subst t6 t20
                  subst f0
                  simp only [cond_true, cond_false]
                  go_simp
                  exact hK _ _ ⟨l0, l1, l2, l3, l4, l5, true, l7, l8, l9, l10, l11, l12, l13, l14, l15, l16, l17, l18, l19, true, true, l22, l23, l24, F1_, vN1, rfl, (by first | (simp only [cond_true, List.setIfInBounds_toArray, List.set_cons_zero, List.set_cons_succ]; done) | (simp only [wm1, wm2, wm3, wm4, cond_true, cond_false, List.setIfInBounds_toArray, List.set_cons_zero, List.set_cons_succ]; done) | (simp [cond_true, List.setIfInBounds_toArray, List.set_cons_zero, List.set_cons_succ, IntKind.wrap_i64]; done) | (simp [cond_true, List.setIfInBounds_toArray, List.set_cons_zero, List.set_cons_succ]; decide)), hb0, hk, q3, q1, q2, he, ho0, ho1⟩
                case s22 =>
                  intro ff gg KK hK
                  have t21 : l21 = true := gg ⟨21, .data⟩ (by simp) (by rfl)
                  have f0 : l22 = false := ff
                  clear ff gg
                  subst t21
                  subst f0
                  have f1 : l23 = false := by cases hl : l23; rfl; exact absurd (q1 hl) (by simp)
                  subst f1
                  simp only [cond_true, cond_false]
                  go_simp
                  have hb : Below X1.heap.size X1 (X1.alloc (Obj.cells #[.int .i64 (p k - (s k * x + d k * y) / 8192)] 3)) := by (repeat (first | exact Below.refl _ _ | refine bl_drewN ?_ | refine bl_drew ?_ | refine bl_alloc ?_ _ | refine Below.setCell ?_ (by (first | (simp; done) | (simp; omega) | omega)) _ | refine bl_step (by assumption) ?_))
                  exact hK _ _ ⟨l0, l1, l2, l3, l4, l5, l6, l7, l8, l9, l10, l11, l12, l13, l14, l15, l16, l17, l18, l19, l20, true, true, false, l24, X1.heap.size, vN1, rfl, (by simp only [cond_true, cond_false, List.setIfInBounds_toArray, List.set_cons_zero, List.set_cons_succ]), bl_alloc hb0 _, Kept.below hb hk, (fun h => by cases h), (fun h => by cases h), q2, (fun _ _ => by simp [go_sem]), (fun _ => own_later2 hb (ho0 rfl)), (fun h => by cases h)⟩
                case s23 =>
                  intro ff gg KK hK
                  have t0 : l0 = true := gg ⟨0, .data⟩ (by simp) (by rfl)
                  have t22 : l22 = true := gg ⟨22, .data⟩ (by simp) (by rfl)
                  have t20 : l20 = true := gg ⟨20, .chain⟩ (by simp) (by rfl)
                  have f0 : l23 = false := ff
                  clear ff gg
                  subst t0 t22 t20
                  subst f0
                  have f1 : l24 = false := by cases hl : l24; rfl; exact absurd (q2 hl) (by simp)
                  subst f1
                  simp only [cond_true, cond_false]
                  rw [if_pos (by rfl)]
                  apply step_append_own (s := .tmp 177) (x := .tmp 199) (t := 26) (base := Z0.heap.size) (e := 3) (i := i1) (z := .int .i64 0) (size := 1) (bytes := 8) (v := u24) (n := k) (xs := (outL (fun i => p i - (s i * x + d i * y) / 8192) k)) (ad := ⟨F1_, 0, none⟩) (m := 1) (c := 1) (news := [.int .i64 (p k - (s k * x + d k * y) / 8192)])
                  case ho => rfl
                  case ht => exact Tryz.underlying26
                  case hi => exact hj
                  case hz => exact hj0
                  case hsize => exact hj1
                  case hby => exact hj2
                  case hzs => rfl
                  case hsz => decide
                  case hs => rfl
                  case hown => exact ho0 rfl
                  case hx => rfl
                  case hl => rfl
                  case hnews => exact newsAt (he rfl rfl)
                  case h1 => exact cell_one1 _
                  case h63 => (unfold maxLen; omega)
                  case hbytes => omega
                  case hbase => exact hb0.size
                  intro vx w' hn hg
                  exact hK _ _ ⟨true, l1, l2, l3, l4, l5, l6, l7, l8, l9, l10, l11, l12, l13, l14, l15, l16, l17, l18, l19, true, l21, true, true, false, F1_, vx, rfl, (by simp only [Act.put, cond_true, cond_false, List.setIfInBounds_toArray, List.set_cons_zero, List.set_cons_succ]), Below.grown hb0 hg hb0.size (fun k hk => ((ho0 rfl).lt k hk).1), Kept.grown hg hk, (fun _ => rfl), (fun _ => rfl), (fun h => by cases h), (fun _ h => by cases h), (fun h => by cases h), (fun _ => hn)⟩
                case s24 =>
                  intro ff gg KK hK
                  have t23 : l23 = true := gg ⟨23, .data⟩ (by simp) (by rfl)
                  have f0 : l24 = false := ff
                  clear ff gg
                  subst t23
                  subst f0
                  have f1 : l0 = true := q3 rfl
                  subst f1
                  have f2 : l22 = true := q1 rfl
                  subst f2
                  simp only [cond_true, cond_false]
                  go_simp
                  exact hK _ _ ⟨true, l1, l2, l3, l4, l5, l6, l7, l8, l9, l10, l11, l12, l13, l14, l15, l16, l17, l18, l19, l20, l21, true, true, true, F1_, vN1, rfl, (by simp only [cond_true, List.setIfInBounds_toArray, List.set_cons_zero, List.set_cons_succ]), hb0, hk, q3, q1, (fun _ => rfl), he, ho0, ho1⟩
              case hdone =>
                intro LL aa X1 h hd
                obtain ⟨l0, l1, l2, l3, l4, l5, l6, l7, l8, l9, l10, l11, l12, l13, l14, l15, l16, l17, l18, l19, l20, l21, l22, l23, l24, F1_, vN1, hL, ha, hb0, hk, q3, q1, q2, he, ho0, ho1⟩ := h
                rw [hL] at hd
                have t0 : l0 = true := hd 0 (by decide)
                have t1 : l1 = true := hd 1 (by decide)
                have t2 : l2 = true := hd 2 (by decide)
                have t3 : l3 = true := hd 3 (by decide)
                have t4 : l4 = true := hd 4 (by decide)
                have t5 : l5 = true := hd 5 (by decide)
                have t6 : l6 = true := hd 6 (by decide)
                have t7 : l7 = true := hd 7 (by decide)
                have t8 : l8 = true := hd 8 (by decide)
                have t9 : l9 = true := hd 9 (by decide)
                have t10 : l10 = true := hd 10 (by decide)
                have t11 : l11 = true := hd 11 (by decide)
                have t12 : l12 = true := hd 12 (by decide)
                have t13 : l13 = true := hd 13 (by decide)
                have t14 : l14 = true := hd 14 (by decide)
                have t15 : l15 = true := hd 15 (by decide)
                have t16 : l16 = true := hd 16 (by decide)
                have t17 : l17 = true := hd 17 (by decide)
                have t18 : l18 = true := hd 18 (by decide)
                have t19 : l19 = true := hd 19 (by decide)
                have t20 : l20 = true := hd 20 (by decide)
                have t21 : l21 = true := hd 21 (by decide)
                have t22 : l22 = true := hd 22 (by decide)
                have t23 : l23 = true := hd 23 (by decide)
                have t24 : l24 = true := hd 24 (by decide)
                clear hd hL q1 q2 he ho0
                subst t0 t1 t2 t3 t4 t5 t6 t7 t8 t9 t10 t11 t12 t13 t14 t15 t16 t17 t18 t19 t20 t21 t22 t23 t24
                simp only [cond_true, List.setIfInBounds_toArray, List.set_cons_zero, List.set_cons_succ] at ha
                subst ha
                replace hown := ho1 rfl
                clear ho1 hk
                go_wp2
                exact ⟨⟨k + 1, by go_num, by omega, hown, hb0⟩, by simp [intOf]; omega⟩
            · have q5 : decide (k < n) = false := by simp; omega
              have e : n = k := by omega
              subst e
              rcases hown.2 with ⟨_, hn0⟩ | ⟨g2_, cap2, cur2, rfl, hg2, _⟩
              · omega
              have Y := hidden (fun i (hi : i < n) => (hown.cellAt i (by omega : i < n * 1)).trans (outL_get (fun i => p i - (s i * x + d i * y) / 8192) hi))
              have p0 := cell_later hX n0
              have p1 := cell_later hX n1
              have q0 := cell_later hX zq0
              have q1 := cell_later hX zq1
              have cf : ∀ o, wr.frozen? ⟨w.heap.size, o, none⟩ = false := fun o => (hX.frozen (p := ⟨w.heap.size, o, none⟩) lZ).trans (zcf o)
              have hwX : Below w.heap.size w wr := bl_step hX hwZ
              have ng : g2_ ≠ w.heap.size := by have := (hown.lt g2_ rfl).1; omega
              have lg2 : g2_ < wr.heap.size := (hown.lt g2_ rfl).2
              have lw : w.heap.size < wr.heap.size := by omega
              have ln3 : w3.heap.size < wr.heap.size := by omega
              have fl69 : ∀ w, (Instr.field 54 (.agg #[.int .i64 K1, .int .i64 K2]) 0).run Tryz.prog w = .ok (.int .i64 K1) w := fun w => by first | rfl | (simp [Instr.field, go_sem])
              clear hown hX zq0 zq1 zcf n0 n1
              go_wp2_with ((first | (go_at_call 21; ((with_reducible refine (AL.out _).mono ?_); rintro e w' ⟨rfl, hb⟩); have nm0 := trivial) | (go_at_call 25; ((with_reducible refine (CL.out _).mono ?_); rintro e w' ⟨rfl, hb⟩); have nm1 := trivial) | (go_at_call 27; ((with_reducible refine (FL2.out _).mono ?_); rintro e w' ⟨rfl, hb⟩); have nm2 := trivial)); (try replace hb := below_undrew hb); (try replace hb := below_undrewN hb); obtain ⟨hcell, hfroz⟩ := bcell hb; have hz := hb.size; (try simp at hz); (try (have z6 := Nat.lt_of_lt_of_le z7 hz)); (try (have z7 := Nat.lt_of_lt_of_le z8 hz)); (try (have z8 := Nat.lt_of_lt_of_le z9 hz)); (try (have z9 := Nat.lt_of_lt_of_le (Nat.lt_succ_self _) hz)); (try (have z0 : w.heap.size < w'.heap.size := by omega)); (try (have z1 : w.heap.size + 1 < w'.heap.size := by omega)); (try (have z2 : w.heap.size + 1 + 1 < w'.heap.size := by omega)); (try (have z3 : w.heap.size + 1 + 1 + 1 < w'.heap.size := by omega)); (try (have y2 : w2.heap.size < w'.heap.size := by omega)); (try (have y3 : w3.heap.size < w'.heap.size := by omega)); (try (have y4 : w4.heap.size < w'.heap.size := by omega)); (try (have y5 : w5.heap.size < w'.heap.size := by omega)); (try (have x2 : w2.heap.size + 1 < w'.heap.size := by omega)); (try (have x3 : w3.heap.size + 1 < w'.heap.size := by omega)); (try (have x4 : w4.heap.size + 1 < w'.heap.size := by omega)); (try (have x5 : w5.heap.size + 1 < w'.heap.size := by omega)); (try (have z20 : w2.heap.size < w'.heap.size + 1 := by omega)); (try (have z30 : w3.heap.size < w'.heap.size + 1 := by omega)); (try (have z40 : w4.heap.size < w'.heap.size + 1 := by omega)); (try (have z50 : w5.heap.size < w'.heap.size + 1 := by omega)); (first | (clear nm0; (have e5 : w3.heap.size < w'.heap.size := by omega); obtain ⟨w4, rfl⟩ : ∃ v, v = w' := ⟨_, rfl⟩) | (clear nm1; (have e5 : w3.heap.size < w'.heap.size := by omega); obtain ⟨w5, rfl⟩ : ∃ v, v = w' := ⟨_, rfl⟩) | (clear nm2; (have e5 : w3.heap.size < w'.heap.size := by omega); obtain ⟨w6, rfl⟩ : ∃ v, v = w' := ⟨_, rfl⟩)))
              refine name_below ?_
              intro w' hb
              (try replace hb := below_undrew hb); (try replace hb := below_undrewN hb); obtain ⟨hcell, hfroz⟩ := bcell hb; have hz := hb.size; (try simp at hz); (try (have z6 := Nat.lt_of_lt_of_le z7 hz)); (try (have z7 := Nat.lt_of_lt_of_le z8 hz)); (try (have z8 := Nat.lt_of_lt_of_le z9 hz)); (try (have z9 := Nat.lt_of_lt_of_le (Nat.lt_succ_self _) hz)); (try (have z0 : w.heap.size < w'.heap.size := by omega)); (try (have z1 : w.heap.size + 1 < w'.heap.size := by omega)); (try (have z2 : w.heap.size + 1 + 1 < w'.heap.size := by omega)); (try (have z3 : w.heap.size + 1 + 1 + 1 < w'.heap.size := by omega)); (try (have y2 : w2.heap.size < w'.heap.size := by omega)); (try (have y3 : w3.heap.size < w'.heap.size := by omega)); (try (have y4 : w4.heap.size < w'.heap.size := by omega)); (try (have y5 : w5.heap.size < w'.heap.size := by omega)); (try (have y6 : w6.heap.size < w'.heap.size := by omega)); (try (have x2 : w2.heap.size + 1 < w'.heap.size := by omega)); (try (have x3 : w3.heap.size + 1 < w'.heap.size := by omega)); (try (have x4 : w4.heap.size + 1 < w'.heap.size := by omega)); (try (have x5 : w5.heap.size + 1 < w'.heap.size := by omega)); (try (have x6 : w6.heap.size + 1 < w'.heap.size := by omega)); (try (have z20 : w2.heap.size < w'.heap.size + 1 := by omega)); (try (have z30 : w3.heap.size < w'.heap.size + 1 := by omega)); (try (have z40 : w4.heap.size < w'.heap.size + 1 := by omega)); (try (have z50 : w5.heap.size < w'.heap.size + 1 := by omega)); (try (have z60 : w6.heap.size < w'.heap.size + 1 := by omega))
              have hu0 : Below wr.heap.size wr w' := by (repeat (first | (with_reducible exact Below.refl _ _) | (with_reducible refine Below.setCell ?_ (by (first | (simp; done) | (simp; omega) | omega)) _) | (with_reducible refine bl_alloc ?_ _) | (with_reducible refine bl_drewN ?_) | (with_reducible refine bl_drew ?_) | (with_reducible refine bl_step (by assumption) ?_)))
              have t0 := cell_later hu0 p0
              have t1 := cell_later hu0 p1
              have t2 := cell_later hu0 q0
              have t3 := cell_later hu0 q1
              have tcf : ∀ o, w'.frozen? ⟨w.heap.size, o, none⟩ = false := fun o => (hu0.frozen (p := ⟨w.heap.size, o, none⟩) lw).trans (cf o)
              have hwT : Below w.heap.size w w' := bl_step hu0 hwX
              have YT := hidden (fun i (hi : i < n) => cell_later hu0 (Y.out i hi))
              have lwT : w.heap.size < w'.heap.size := Nat.lt_of_lt_of_le lw hu0.size
              clear hcell hfroz hz hb p0 p1 q0 q1 cf hu0 Y
              obtain ⟨T2, rfl⟩ : ∃ v, v = w' := ⟨_, rfl⟩
              have wn3 : IntKind.i64.wrap (f 0 0 + y) = f 0 0 + y := by rw [IntKind.wrap_i64]; omega
              have wn2 : IntKind.i64.wrap (f 0 1 + F1) = f 0 1 + F1 := by rw [IntKind.wrap_i64]; omega
              refine wp_region_inv (fun a0 LL aa vv => ∃ (l0 l1 l2 l3 l4 l5 l6 l7 l8 l9 l10 l11 l12 l13 : Bool) (uu : World), LL = #[l0, l1, l2, l3, l4, l5, l6, l7, l8, l9, l10, l11, l12, l13] ∧ aa = { a0 with tmps := (((a0.tmps.toList.set 3 (cond l12 (.slice (some ⟨g2_, 0, none⟩) n cap2) (u3))).set 4 (cond l13 (.int .i64 0) (u4))).take 209 ++ ([cond l0 (.pointer (some ⟨w3.heap.size, 0, none⟩)) (undef), cond l1 (.int .i64 (f 0 0)) (undef), cond l2 (.int .i64 (y)) (undef), cond l3 (.int .i64 (f 0 0 + y)) (undef), cond l4 (.pointer (some ⟨w3.heap.size, 1, none⟩)) (undef), cond l5 (.int .i64 (f 0 1)) (undef), cond l6 (.int .i64 (F1)) (undef), cond l7 (.int .i64 (f 0 1 + F1)) (undef), cond l8 (.int .i64 (F2)) (undef), cond l9 (.agg #[.int .i64 (f 0 0 + y), .int .i64 (F2)]) (undef), cond l10 (.slice (some ⟨g2_, 0, none⟩) n cap2) (undef)] ++ a0.tmps.toList.drop 220)).toArray } ∧ (l11 = true → l0 = true ∧ l1 = true ∧ l2 = true ∧ l3 = true ∧ l4 = true ∧ l5 = true ∧ l6 = true ∧ l7 = true ∧ l8 = true ∧ l9 = true) ∧ Below T2.heap.size T2 uu ∧ vv = cond l11 ((uu.setCell ⟨w.heap.size, 0, none⟩ (.int .i64 (f 0 0 + y))).setCell ⟨w.heap.size, 1, none⟩ (.int .i64 (F2))) uu) (by kernel_rfl) (by kernel_rfl) ?h0 ?hsize ?hdone ?hstep
              case h0 =>
                refine ⟨false, false, false, false, false, false, false, false, false, false, false, false, false, false, _, rfl, ?_, (fun h => by cases h), by (repeat (first | exact Below.refl _ _ | refine bl_drewN ?_ | refine bl_drew ?_ | refine bl_alloc ?_ _ | refine Below.setCell ?_ (by (first | (simp; done) | (simp; omega) | omega)) _ | refine bl_step (by assumption) ?_)), rfl⟩
                kernel_rfl
              case hsize =>
                intro LL aa vv h
                obtain ⟨l0, h⟩ := h
                obtain ⟨l1, h⟩ := h
                obtain ⟨l2, h⟩ := h
                obtain ⟨l3, h⟩ := h
                obtain ⟨l4, h⟩ := h
                obtain ⟨l5, h⟩ := h
                obtain ⟨l6, h⟩ := h
                obtain ⟨l7, h⟩ := h
                obtain ⟨l8, h⟩ := h
                obtain ⟨l9, h⟩ := h
                obtain ⟨l10, h⟩ := h
                obtain ⟨l11, h⟩ := h
                obtain ⟨l12, h⟩ := h
                obtain ⟨l13, h⟩ := h
                obtain ⟨uu, h⟩ := h
                obtain ⟨hL, _⟩ := h
                rw [hL]
                rfl
              case hstep =>
                intro LL aa vv h
                obtain ⟨l0, h⟩ := h
                obtain ⟨l1, h⟩ := h
                obtain ⟨l2, h⟩ := h
                obtain ⟨l3, h⟩ := h
                obtain ⟨l4, h⟩ := h
                obtain ⟨l5, h⟩ := h
                obtain ⟨l6, h⟩ := h
                obtain ⟨l7, h⟩ := h
                obtain ⟨l8, h⟩ := h
                obtain ⟨l9, h⟩ := h
                obtain ⟨l10, h⟩ := h
                obtain ⟨l11, h⟩ := h
                obtain ⟨l12, h⟩ := h
                obtain ⟨l13, h⟩ := h
                obtain ⟨uu, h⟩ := h
                obtain ⟨hL, h⟩ := h
                obtain ⟨ha, h⟩ := h
                obtain ⟨hall, h⟩ := h
                obtain ⟨hu, hv⟩ := h
                simp only [List.take_succ_cons, List.take_zero, List.cons_append, List.nil_append, List.drop_succ_cons, List.drop_zero, List.set_cons_zero, List.set_cons_succ] at ha
                subst hL
                subst ha
                refine ⟨?s0, ?s1, ?s2, ?s3, ?s4, ?s5, ?s6, ?s7, ?s8, ?s9, ?s10, ?s11, ?s12, ?s13, trivial⟩
                case s0 =>
                  intro ff gg KK hK
                  have f0 : l0 = false := ff
                  cases hl : l11
                  case true =>
                    have := (hall hl).1
                    rw [f0] at this
                    cases this
                  rw [hl] at hv
                  simp only [cond_false] at hv
                  subst hv
                  clear ff gg
                  subst hl
                  subst f0
                  simp only [cond_false]
                  go_simp
                  exact hK _ _ ⟨true, l1, l2, l3, l4, l5, l6, l7, l8, l9, l10, false, l12, l13, _, rfl, (by kernel_rfl), (fun h => by cases h), hu, rfl⟩
                case s1 =>
                  intro ff gg KK hK
                  have f0 : l1 = false := ff
                  cases hl : l11
                  case true =>
                    have := (hall hl).2.1
                    rw [f0] at this
                    cases this
                  rw [hl] at hv
                  simp only [cond_false] at hv
                  subst hv
                  have t0 : l0 = true := gg ⟨0, .data⟩ (by simp) (by rfl)
                  clear ff gg
                  subst t0
                  subst hl
                  subst f0
                  simp only [cond_true, cond_false]
                  have j0 := cell_later hu t0
                  go_simp
                  exact hK _ _ ⟨true, true, l2, l3, l4, l5, l6, l7, l8, l9, l10, false, l12, l13, _, rfl, (by kernel_rfl), (fun h => by cases h), hu, rfl⟩
                case s2 =>
                  intro ff gg KK hK
                  have f0 : l2 = false := ff
                  cases hl : l11
                  case true =>
                    have := (hall hl).2.2.1
                    rw [f0] at this
                    cases this
                  rw [hl] at hv
                  simp only [cond_false] at hv
                  subst hv
                  clear ff gg
                  subst hl
                  subst f0
                  simp only [cond_false]
                  go_simp
                  exact hK _ _ ⟨l0, l1, true, l3, l4, l5, l6, l7, l8, l9, l10, false, l12, l13, _, rfl, (by kernel_rfl), (fun h => by cases h), hu, rfl⟩
                case s3 =>
                  intro ff gg KK hK
                  have f0 : l3 = false := ff
                  cases hl : l11
                  case true =>
                    have := (hall hl).2.2.2.1
                    rw [f0] at this
                    cases this
                  rw [hl] at hv
                  simp only [cond_false] at hv
                  subst hv
                  have t1 : l1 = true := gg ⟨1, .data⟩ (by simp) (by rfl)
                  have t2 : l2 = true := gg ⟨2, .data⟩ (by simp) (by rfl)
                  clear ff gg
                  subst t1 t2
                  subst hl
                  subst f0
                  simp only [cond_true, cond_false]
                  go_simp
                  exact hK _ _ ⟨l0, true, true, true, l4, l5, l6, l7, l8, l9, l10, false, l12, l13, _, rfl, (by first | (rw [wn3]; kernel_rfl) | kernel_rfl), (fun h => by cases h), hu, rfl⟩
                case s4 =>
                  intro ff gg KK hK
                  have f0 : l4 = false := ff
                  cases hl : l11
                  case true =>
                    have := (hall hl).2.2.2.2.1
                    rw [f0] at this
                    cases this
                  rw [hl] at hv
                  simp only [cond_false] at hv
                  subst hv
                  clear ff gg
                  subst hl
                  subst f0
                  simp only [cond_false]
                  go_simp
                  exact hK _ _ ⟨l0, l1, l2, l3, true, l5, l6, l7, l8, l9, l10, false, l12, l13, _, rfl, (by kernel_rfl), (fun h => by cases h), hu, rfl⟩
                case s5 =>
                  intro ff gg KK hK
                  have f0 : l5 = false := ff
                  cases hl : l11
                  case true =>
                    have := (hall hl).2.2.2.2.2.1
                    rw [f0] at this
                    cases this
                  rw [hl] at hv
                  simp only [cond_false] at hv
                  subst hv
                  have t4 : l4 = true := gg ⟨4, .data⟩ (by simp) (by rfl)
                  clear ff gg
                  subst t4
                  subst hl
                  subst f0
                  simp only [cond_true, cond_false]
                  have j0 := cell_later hu t1
                  go_simp
                  exact hK _ _ ⟨l0, l1, l2, l3, true, true, l6, l7, l8, l9, l10, false, l12, l13, _, rfl, (by kernel_rfl), (fun h => by cases h), hu, rfl⟩
                case s6 =>
                  intro ff gg KK hK
                  have f0 : l6 = false := ff
                  cases hl : l11
                  case true =>
                    have := (hall hl).2.2.2.2.2.2.1
                    rw [f0] at this
                    cases this
                  rw [hl] at hv
                  simp only [cond_false] at hv
                  subst hv
                  clear ff gg
                  subst hl
                  subst f0
                  simp only [cond_false]
                  go_simp
                  exact hK _ _ ⟨l0, l1, l2, l3, l4, l5, true, l7, l8, l9, l10, false, l12, l13, _, rfl, (by kernel_rfl), (fun h => by cases h), hu, rfl⟩
                case s7 =>
                  intro ff gg KK hK
                  have f0 : l7 = false := ff
                  cases hl : l11
                  case true =>
                    have := (hall hl).2.2.2.2.2.2.2.1
                    rw [f0] at this
                    cases this
                  rw [hl] at hv
                  simp only [cond_false] at hv
                  subst hv
                  have t5 : l5 = true := gg ⟨5, .data⟩ (by simp) (by rfl)
                  have t6 : l6 = true := gg ⟨6, .data⟩ (by simp) (by rfl)
                  clear ff gg
                  subst t5 t6
                  subst hl
                  subst f0
                  simp only [cond_true, cond_false]
                  go_simp
                  exact hK _ _ ⟨l0, l1, l2, l3, l4, true, true, true, l8, l9, l10, false, l12, l13, _, rfl, (by first | (rw [wn2]; kernel_rfl) | kernel_rfl), (fun h => by cases h), hu, rfl⟩
                case s8 =>
                  intro ff gg KK hK
                  have f0 : l8 = false := ff
                  cases hl : l11
                  case true =>
                    have := (hall hl).2.2.2.2.2.2.2.2.1
                    rw [f0] at this
                    cases this
                  rw [hl] at hv
                  simp only [cond_false] at hv
                  subst hv
                  have t7 : l7 = true := gg ⟨7, .data⟩ (by simp) (by rfl)
                  clear ff gg
                  subst t7
                  subst hl
                  subst f0
                  simp only [cond_true, cond_false]
                  go_simp
                  go_at_call 28
                  with_reducible refine (SG2.out _).mono ?_
                  rintro e w' ⟨rfl, hb⟩
                  exact hK _ _ ⟨l0, l1, l2, l3, l4, l5, l6, true, true, l9, l10, false, l12, l13, _, rfl, (by kernel_rfl), (fun h => by cases h), bl_step hb hu, rfl⟩
                case s9 =>
                  intro ff gg KK hK
                  have f0 : l9 = false := ff
                  cases hl : l11
                  case true =>
                    have := (hall hl).2.2.2.2.2.2.2.2.2
                    rw [f0] at this
                    cases this
                  rw [hl] at hv
                  simp only [cond_false] at hv
                  subst hv
                  have t3 : l3 = true := gg ⟨3, .data⟩ (by simp) (by rfl)
                  have t8 : l8 = true := gg ⟨8, .data⟩ (by simp) (by rfl)
                  clear ff gg
                  subst t3 t8
                  subst hl
                  subst f0
                  simp only [cond_true, cond_false]
                  go_simp
                  exact hK _ _ ⟨l0, l1, l2, true, l4, l5, l6, l7, true, true, l10, false, l12, l13, _, rfl, (by kernel_rfl), (fun h => by cases h), hu, rfl⟩
                case s10 =>
                  intro ff gg KK hK
                  have f0 : l10 = false := ff
                  clear ff gg
                  subst f0
                  simp only [cond_false]
                  go_simp
                  exact hK _ _ ⟨l0, l1, l2, l3, l4, l5, l6, l7, l8, l9, true, l11, l12, l13, _, rfl, (by kernel_rfl), hall, hu, (by first | rfl | exact hv)⟩
                case s11 =>
                  intro ff gg KK hK
                  have f0 : l11 = false := ff
                  have t9 : l9 = true := gg ⟨9, .data⟩ (by simp) (by rfl)
                  have t8 : l8 = true := gg ⟨8, .chain⟩ (by simp) (by rfl)
                  have t0 : l0 = true := gg ⟨0, .phase⟩ (by simp) (by rfl)
                  have t1 : l1 = true := gg ⟨1, .phase⟩ (by simp) (by rfl)
                  have t2 : l2 = true := gg ⟨2, .phase⟩ (by simp) (by rfl)
                  have t3 : l3 = true := gg ⟨3, .phase⟩ (by simp) (by rfl)
                  have t4 : l4 = true := gg ⟨4, .phase⟩ (by simp) (by rfl)
                  have t5 : l5 = true := gg ⟨5, .phase⟩ (by simp) (by rfl)
                  have t6 : l6 = true := gg ⟨6, .phase⟩ (by simp) (by rfl)
                  have t7 : l7 = true := gg ⟨7, .phase⟩ (by simp) (by rfl)
                  clear ff gg
                  subst t9 t8 t0 t1 t2 t3 t4 t5 t6 t7
                  subst f0
                  simp only [cond_false] at hv
                  subst hv
                  simp only [cond_true]
                  have q0_ := cell_later hu t2
                  have q1_ := cell_later hu t3
                  have cf_ : ∀ o, vv.frozen? ⟨w.heap.size, o, none⟩ = false := fun o => (hu.frozen (p := ⟨w.heap.size, o, none⟩) lwT).trans (tcf o)
                  go_simp
                  exact hK _ _ ⟨true, true, true, true, true, true, true, true, true, true, l10, true, l12, l13, _, rfl, (by kernel_rfl), (fun _ => ⟨rfl, rfl, rfl, rfl, rfl, rfl, rfl, rfl, rfl, rfl⟩), hu, rfl⟩
                case s12 =>
                  intro ff gg KK hK
                  have f0 : l12 = false := ff
                  have t10 : l10 = true := gg ⟨10, .data⟩ (by simp) (by rfl)
                  have t11 : l11 = true := gg ⟨11, .chain⟩ (by simp) (by rfl)
                  have t0 : l0 = true := gg ⟨0, .phase⟩ (by simp) (by rfl)
                  have t1 : l1 = true := gg ⟨1, .phase⟩ (by simp) (by rfl)
                  have t2 : l2 = true := gg ⟨2, .phase⟩ (by simp) (by rfl)
                  have t3 : l3 = true := gg ⟨3, .phase⟩ (by simp) (by rfl)
                  have t4 : l4 = true := gg ⟨4, .phase⟩ (by simp) (by rfl)
                  have t5 : l5 = true := gg ⟨5, .phase⟩ (by simp) (by rfl)
                  have t6 : l6 = true := gg ⟨6, .phase⟩ (by simp) (by rfl)
                  have t7 : l7 = true := gg ⟨7, .phase⟩ (by simp) (by rfl)
                  have t8 : l8 = true := gg ⟨8, .phase⟩ (by simp) (by rfl)
                  have t9 : l9 = true := gg ⟨9, .phase⟩ (by simp) (by rfl)
                  clear ff gg
                  subst t10 t11 t0 t1 t2 t3 t4 t5 t6 t7 t8 t9
                  subst f0
                  simp only [cond_true] at hv
                  subst hv
                  simp only [cond_true, cond_false]
                  go_simp
                  exact hK _ _ ⟨true, true, true, true, true, true, true, true, true, true, true, true, true, l13, _, rfl, (by kernel_rfl), hall, hu, rfl⟩
                case s13 =>
                  intro ff gg KK hK
                  have f0 : l13 = false := ff
                  have t12 : l12 = true := gg ⟨12, .chain⟩ (by simp) (by rfl)
                  have t0 : l0 = true := gg ⟨0, .phase⟩ (by simp) (by rfl)
                  have t1 : l1 = true := gg ⟨1, .phase⟩ (by simp) (by rfl)
                  have t2 : l2 = true := gg ⟨2, .phase⟩ (by simp) (by rfl)
                  have t3 : l3 = true := gg ⟨3, .phase⟩ (by simp) (by rfl)
                  have t4 : l4 = true := gg ⟨4, .phase⟩ (by simp) (by rfl)
                  have t5 : l5 = true := gg ⟨5, .phase⟩ (by simp) (by rfl)
                  have t6 : l6 = true := gg ⟨6, .phase⟩ (by simp) (by rfl)
                  have t7 : l7 = true := gg ⟨7, .phase⟩ (by simp) (by rfl)
                  have t8 : l8 = true := gg ⟨8, .phase⟩ (by simp) (by rfl)
                  have t9 : l9 = true := gg ⟨9, .phase⟩ (by simp) (by rfl)
                  have t10 : l10 = true := gg ⟨10, .phase⟩ (by simp) (by rfl)
                  have t11 : l11 = true := gg ⟨11, .phase⟩ (by simp) (by rfl)
                  clear ff gg
                  subst t12 t0 t1 t2 t3 t4 t5 t6 t7 t8 t9 t10 t11
                  subst f0
                  simp only [cond_true] at hv
                  subst hv
                  simp only [cond_true, cond_false]
                  go_simp
                  exact hK _ _ ⟨true, true, true, true, true, true, true, true, true, true, true, true, true, true, _, rfl, (by kernel_rfl), hall, hu, rfl⟩
              case hdone =>
                intro LL aa vv h hd
                obtain ⟨l0, h⟩ := h
                obtain ⟨l1, h⟩ := h
                obtain ⟨l2, h⟩ := h
                obtain ⟨l3, h⟩ := h
                obtain ⟨l4, h⟩ := h
                obtain ⟨l5, h⟩ := h
                obtain ⟨l6, h⟩ := h
                obtain ⟨l7, h⟩ := h
                obtain ⟨l8, h⟩ := h
                obtain ⟨l9, h⟩ := h
                obtain ⟨l10, h⟩ := h
                obtain ⟨l11, h⟩ := h
                obtain ⟨l12, h⟩ := h
                obtain ⟨l13, h⟩ := h
                obtain ⟨uu, h⟩ := h
                obtain ⟨hL, h⟩ := h
                obtain ⟨ha, h⟩ := h
                obtain ⟨hall, h⟩ := h
                obtain ⟨hu, hv⟩ := h
                rw [hL] at hd
                have t0 : l0 = true := hd 0 (by decide)
                have t1 : l1 = true := hd 1 (by decide)
                have t2 : l2 = true := hd 2 (by decide)
                have t3 : l3 = true := hd 3 (by decide)
                have t4 : l4 = true := hd 4 (by decide)
                have t5 : l5 = true := hd 5 (by decide)
                have t6 : l6 = true := hd 6 (by decide)
                have t7 : l7 = true := hd 7 (by decide)
                have t8 : l8 = true := hd 8 (by decide)
                have t9 : l9 = true := hd 9 (by decide)
                have t10 : l10 = true := hd 10 (by decide)
                have t11 : l11 = true := hd 11 (by decide)
                have t12 : l12 = true := hd 12 (by decide)
                have t13 : l13 = true := hd 13 (by decide)
                clear hd hL hall
                subst t0 t1 t2 t3 t4 t5 t6 t7 t8 t9 t10 t11 t12 t13
                simp only [cond_true, List.take_succ_cons, List.take_zero, List.cons_append, List.nil_append, List.drop_succ_cons, List.drop_zero, List.set_cons_zero, List.set_cons_succ] at ha
                simp only [cond_true] at hv
                subst ha
                subst hv
                have hwU : Below w.heap.size w uu := bl_step hu hwT
                have q0u := cell_later hu t2
                have q1u := cell_later hu t3
                go_wp2
                have YU := hidden (fun i (hi : i < n) => cell_later hu (YT.out i hi))
                exact bodyPost_ret (v := .tuple #[.agg #[.int .i64 (f 0 0 + y), .int .i64 F2], .slice (some ⟨g2_, 0, none⟩) n cap2, .int .i64 0]) (by first | (simp only [results, Tryz.results6]; go_simp; done) | simp [results, Tryz.results6, go_sem, *]) rfl (rleastR_same SAME.out (leastR_fit hD2.out hFit.out (fun i hi => by rw [World.cell?_setCell_other _ _ _ _ (fun e => by injection e with e; exact ng e.symm), World.cell?_setCell_other _ _ _ _ (fun e => by injection e with e; exact ng e.symm)]; exact YU.out i hi) (by (repeat (first | (with_reducible exact Below.refl _ _) | (with_reducible refine Below.setCell ?_ (by (first | (simp; done) | (simp; omega) | omega)) _) | (with_reducible refine bl_alloc ?_ _) | (with_reducible refine bl_drewN ?_) | (with_reducible refine bl_drew ?_) | (with_reducible refine bl_step (by assumption) ?_))))))

end Go.Proofs.YtjceofmhodcefaaGreat
