/- Least of package lines for any list of lines, as a walk. -/
import Derived.Test.YtjceofmhodcefaaLs1
import Derived.Test.YtjceofmhodcefaaLin6
import Derived.Deep.DeepCutAuto
namespace Go.Proofs.Ytjceofmhodcefaa
open Go.RowKit

set_option maxRecDepth 100000 in
set_option maxHeartbeats 16000000 in
theorem least_ok (B n c : Nat) (f : Nat → Nat → Int) (z g g2 h h2 s d p A Bq Cq U V : Nat → Int) (K1 K2 x y F1 F2 : Int) (w : World) (hl : LnS w B n f) (n2 : 2 ≤ n) (n16 : n ≤ 16)
    (i0 : TypeInfo) (hi : Try.prog.info? 77 = some i0) (hz0 : i0.zero = some (.agg #[.int .i64 0, .int .i64 0, .int .i64 0])) (hz1 : i0.size = 3) (hz2 : i0.bytes = 24)
    (i1 : TypeInfo) (hj : Try.prog.info? 3 = some i1) (hj0 : i1.zero = some (.int .i64 0)) (hj1 : i1.size = 1) (hj2 : i1.bytes = 8)
    (GV : Hid (∀ w, LnS w B n f → Calls Try.prog 32 #[.slice (some ⟨B, 0, none⟩) n c] w fun e w' => e = .returned (.int .i64 0) ∧ Below w.heap.size w w'))
    (MZ : Hid (∀ i, i < n → ∀ w, Calls Try.prog 39 #[.agg #[.int .i64 (f i 2), .int .i64 (f i 3)]] w fun e w' => e = .returned (.int .i64 (z i)) ∧ Below w.heap.size w w'))
    (AZ : Hid (∀ i, i < n → ∀ w, Calls Try.prog 36 #[.int .i64 (z i)] w fun e w' => e = .returned (.agg #[.int .i64 (z i), .int .i64 (z i)]) ∧ Below w.heap.size w w'))
    (SN : Hid (∀ i, i < n → ∀ B w, okAt w B → Calls Try.prog 34 #[.pointer (some ⟨B, 0, none⟩), .agg #[.int .i64 (z i), .int .i64 (z i)]] w fun e w' => e = .returned (.agg #[.int .i64 (g i), .int .i64 (g2 i)]) ∧ Below w.heap.size w w'))
    (CN : Hid (∀ i, i < n → ∀ B w, okAt w B → Calls Try.prog 30 #[.pointer (some ⟨B, 0, none⟩), .agg #[.int .i64 (z i), .int .i64 (z i)]] w fun e w' => e = .returned (.agg #[.int .i64 (h i), .int .i64 (h2 i)]) ∧ Below w.heap.size w w'))
    (FSh : Hid (∀ i, i < n → ∀ w, Calls Try.prog 40 #[.int .i64 (g i), .int .i64 131072] w fun e w' => e = .returned (.int .i64 (s i)) ∧ Below w.heap.size w w'))
    (FC : Hid (∀ i, i < n → ∀ w, Calls Try.prog 40 #[.int .i64 (h i), .int .i64 131072] w fun e w' => e = .returned (.int .i64 (d i)) ∧ Below w.heap.size w w'))
    (MP : Hid (∀ i, i < n → ∀ w, Calls Try.prog 39 #[.agg #[.int .i64 (f i 4), .int .i64 (f i 5)]] w fun e w' => e = .returned (.int .i64 (p i)) ∧ Below w.heap.size w w'))
    (BS : Hid (∀ i, i < n → (-67108864 ≤ s i * s i ∧ s i * s i ≤ 67108864) ∧ (-67108864 ≤ s i * d i ∧ s i * d i ≤ 67108864) ∧ (-67108864 ≤ d i * d i ∧ d i * d i ≤ 67108864) ∧ (-4915200000 ≤ s i * p i ∧ s i * p i ≤ 4915200000) ∧ (-4915200000 ≤ d i * p i ∧ d i * p i ≤ 4915200000)))
    (BA : Hid (∀ k, k ≤ n → (-1073741824 ≤ A k ∧ A k ≤ 1073741824) ∧ (-1073741824 ≤ Bq k ∧ Bq k ≤ 1073741824) ∧ (-1073741824 ≤ Cq k ∧ Cq k ≤ 1073741824) ∧ (-78643200000 ≤ U k ∧ U k ≤ 78643200000) ∧ (-78643200000 ≤ V k ∧ V k ≤ 78643200000)))
    (S0 : Hid (A 0 = 0 ∧ Bq 0 = 0 ∧ Cq 0 = 0 ∧ U 0 = 0 ∧ V 0 = 0)) (S1 : Hid (∀ k, k < n → A (k + 1) = A k + s k * s k ∧ Bq (k + 1) = Bq k + s k * d k ∧ Cq (k + 1) = Cq k + d k * d k ∧ U (k + 1) = U k + s k * p k ∧ V (k + 1) = V k + d k * p k))
    (PA : Hid ((-1152921504606846976 ≤ A n * Cq n ∧ A n * Cq n ≤ 1152921504606846976) ∧ -1152921504606846976 ≤ Bq n * Bq n ∧ Bq n * Bq n ≤ 1152921504606846976))
    (AL : Hid (∀ w, Calls Try.prog 36 #[.int .i64 (f 0 0)] w fun e w' => e = .returned (.agg #[.int .i64 (f 0 0), .int .i64 (f 0 0)]) ∧ Below w.heap.size w w'))
    (CL : Hid (∀ B w, okAt w B → Calls Try.prog 30 #[.pointer (some ⟨B, 0, none⟩), .agg #[.int .i64 (f 0 0), .int .i64 (f 0 0)]] w fun e w' => e = .returned (.agg #[.int .i64 (K1), .int .i64 (K2)]) ∧ Below w.heap.size w w'))
    (hD : ¬ A n * Cq n - Bq n * Bq n < 1099511627776)
    (QX : Hid (∀ w, Calls Try.prog 41 #[.int .i64 (U n), .int .i64 (Cq n), .int .i64 (V n), .int .i64 (Bq n), .int .i64 (A n * Cq n - Bq n * Bq n)] w fun e w' => e = .returned (.tuple #[.int .i64 x, .int .i64 0]) ∧ Below w.heap.size w w'))
    (QY : Hid (∀ w, Calls Try.prog 41 #[.int .i64 (V n), .int .i64 (A n), .int .i64 (U n), .int .i64 (Bq n), .int .i64 (A n * Cq n - Bq n * Bq n)] w fun e w' => e = .returned (.tuple #[.int .i64 y, .int .i64 0]) ∧ Below w.heap.size w w'))
    (ATX : Hid (∀ w, Calls Try.prog 36 #[.int .i64 (x)] w fun e w' => e = .returned (.agg #[.int .i64 (x), .int .i64 (x)]) ∧ Below w.heap.size w w'))
    (ATY : Hid (∀ w, Calls Try.prog 36 #[.int .i64 (y)] w fun e w' => e = .returned (.agg #[.int .i64 (y), .int .i64 (y)]) ∧ Below w.heap.size w w'))
    (W1 : Hid (∀ w, Calls Try.prog 31 #[.agg #[.int .i64 (x), .int .i64 (x)], .int .i64 2000000] w fun e w' => e = .returned (.bool true) ∧ Below w.heap.size w w'))
    (W2 : Hid (∀ w, Calls Try.prog 31 #[.agg #[.int .i64 (y), .int .i64 (y)], .int .i64 2000000] w fun e w' => e = .returned (.bool true) ∧ Below w.heap.size w w'))
    (hx0 : -2000000 ≤ x) (hx1 : x ≤ 2000000) (_hy0 : -2000000 ≤ y) (_hy1 : y ≤ 2000000) (_hf0 : -5400000 ≤ f 0 0) (_hf1 : f 0 0 ≤ 5400000) (hg0 : -10800000 ≤ f 0 1) (hg1 : f 0 1 ≤ 10800000) (hl0 : ¬ f 0 0 + y < -5400000) (hl1 : ¬ 5400000 < f 0 0 + y)
    (BR : Hid (∀ i, i < n → (-17179869184 ≤ s i * x ∧ s i * x ≤ 17179869184) ∧ (-17179869184 ≤ d i * y ∧ d i * y ≤ 17179869184) ∧ -600000 ≤ p i ∧ p i ≤ 600000))
    (FR : Hid (∀ i, i < n → ∀ w, Calls Try.prog 40 #[.int .i64 (s i * x + d i * y), .int .i64 8192] w fun e w' => e = .returned (.int .i64 ((s i * x + d i * y) / 8192)) ∧ w = w'))
    (FL : Hid (∀ w, Calls Try.prog 40 #[.int .i64 (x * 1073741824), .int .i64 K1] w fun e w' => e = .returned (.int .i64 (F1)) ∧ Below w.heap.size w w'))
    (hF : -4000000000000 ≤ F1 ∧ F1 ≤ 4000000000000)
    (SG : Hid (∀ w, Calls Try.prog 42 #[.int .i64 (f 0 1 + F1)] w fun e w' => e = .returned (.int .i64 (F2)) ∧ Below w.heap.size w w'))
    :
    Calls Try.prog 13 #[.slice (some ⟨B, 0, none⟩) n c] w fun e w' => (∃ gg cap : Nat, e = .returned (.tuple #[.agg #[.int .i64 (f 0 0 + y), .int .i64 F2], .slice (some ⟨gg, 0, none⟩) n cap, .int .i64 0]) ∧ ∀ i, i < n → w'.cell? ⟨gg, i, none⟩ = some (.int .i64 (p i - (s i * x + d i * y) / 8192))) ∧ Below w.heap.size w w' := by
  have HL0 := hidden hl
  have LB0 : B < w.heap.size := hl.lt (by omega)
  clear hl
  have qa : decide (n < 2) = false := by simp; omega
  have qb : decide (16 < n) = false := by simp; omega
  go_enter Try.func13, Try.ntmps13
  go_wp2_with (go_at_call 32; ((with_reducible refine (GV.out _ ?ql).mono ?_); (case ql => exact HL0.out.later (by (repeat (first | exact Below.refl _ _ | refine bl_drewN ?_ | refine bl_drew ?_ | refine bl_alloc ?_ _ | refine Below.setCell ?_ (by (first | (simp; done) | (simp; omega) | omega)) _ | refine bl_step (by assumption) ?_)))); rintro e w' ⟨rfl, hb⟩); (try replace hb := below_undrew hb); (try replace hb := below_undrewN hb); obtain ⟨hcell, hfroz⟩ := bcell hb; have hz := hb.size; (try simp at hz); (try (have z6 := Nat.lt_of_lt_of_le z7 hz)); (try (have z7 := Nat.lt_of_lt_of_le z8 hz)); (try (have z8 := Nat.lt_of_lt_of_le z9 hz)); (try (have z9 := Nat.lt_of_lt_of_le (Nat.lt_succ_self _) hz)); (try (have z0 : w.heap.size < w'.heap.size := by omega)); (try (have z1 : w.heap.size + 1 < w'.heap.size := by omega)); (try (have z2 : w.heap.size + 1 + 1 < w'.heap.size := by omega)); (try (have z3 : w.heap.size + 1 + 1 + 1 < w'.heap.size := by omega)); (try (have y1 : w1.heap.size < w'.heap.size := by omega)); (try (have y2 : w2.heap.size < w'.heap.size := by omega)); (try (have y3 : w3.heap.size < w'.heap.size := by omega)); (try (have y4 : w4.heap.size < w'.heap.size := by omega)); (try (have y5 : w5.heap.size < w'.heap.size := by omega)); (try (have y6 : w6.heap.size < w'.heap.size := by omega)); (try (have x1 : w1.heap.size + 1 < w'.heap.size := by omega)); (try (have x2 : w2.heap.size + 1 < w'.heap.size := by omega)); (try (have x3 : w3.heap.size + 1 < w'.heap.size := by omega)); (try (have x4 : w4.heap.size + 1 < w'.heap.size := by omega)); (try (have x5 : w5.heap.size + 1 < w'.heap.size := by omega)); (try (have x6 : w6.heap.size + 1 < w'.heap.size := by omega)); (try (have y7 : w7.heap.size < w'.heap.size := by omega)); (try (have y8 : w8.heap.size < w'.heap.size := by omega)); (try (have y9 : w9.heap.size < w'.heap.size := by omega)); (try (have z10 : w1.heap.size < w'.heap.size + 1 := by omega)); (try (have z20 : w2.heap.size < w'.heap.size + 1 := by omega)); (try (have z30 : w3.heap.size < w'.heap.size + 1 := by omega)); (try (have z40 : w4.heap.size < w'.heap.size + 1 := by omega)); (try (have z50 : w5.heap.size < w'.heap.size + 1 := by omega)); (try (have z60 : w6.heap.size < w'.heap.size + 1 := by omega)); (try (have z70 : w7.heap.size < w'.heap.size + 1 := by omega)); (try (have z80 : w8.heap.size < w'.heap.size + 1 := by omega)); obtain ⟨w1, rfl⟩ : ∃ v, v = w' := ⟨_, rfl⟩)
  refine name_code ?_
  intro w' hb
  (try replace hb := below_undrew hb); (try replace hb := below_undrewN hb); obtain ⟨hcell, hfroz⟩ := bcell hb; have hz := hb.size; (try simp at hz); (try (have z6 := Nat.lt_of_lt_of_le z7 hz)); (try (have z7 := Nat.lt_of_lt_of_le z8 hz)); (try (have z8 := Nat.lt_of_lt_of_le z9 hz)); (try (have z9 := Nat.lt_of_lt_of_le (Nat.lt_succ_self _) hz)); (try (have z0 : w.heap.size < w'.heap.size := by omega)); (try (have z1 : w.heap.size + 1 < w'.heap.size := by omega)); (try (have z2 : w.heap.size + 1 + 1 < w'.heap.size := by omega)); (try (have z3 : w.heap.size + 1 + 1 + 1 < w'.heap.size := by omega)); (try (have y1 : w1.heap.size < w'.heap.size := by omega)); (try (have y2 : w2.heap.size < w'.heap.size := by omega)); (try (have y3 : w3.heap.size < w'.heap.size := by omega)); (try (have y4 : w4.heap.size < w'.heap.size := by omega)); (try (have y5 : w5.heap.size < w'.heap.size := by omega)); (try (have y6 : w6.heap.size < w'.heap.size := by omega)); (try (have x1 : w1.heap.size + 1 < w'.heap.size := by omega)); (try (have x2 : w2.heap.size + 1 < w'.heap.size := by omega)); (try (have x3 : w3.heap.size + 1 < w'.heap.size := by omega)); (try (have x4 : w4.heap.size + 1 < w'.heap.size := by omega)); (try (have x5 : w5.heap.size + 1 < w'.heap.size := by omega)); (try (have x6 : w6.heap.size + 1 < w'.heap.size := by omega)); (try (have y7 : w7.heap.size < w'.heap.size := by omega)); (try (have y8 : w8.heap.size < w'.heap.size := by omega)); (try (have y9 : w9.heap.size < w'.heap.size := by omega)); (try (have z10 : w1.heap.size < w'.heap.size + 1 := by omega)); (try (have z20 : w2.heap.size < w'.heap.size + 1 := by omega)); (try (have z30 : w3.heap.size < w'.heap.size + 1 := by omega)); (try (have z40 : w4.heap.size < w'.heap.size + 1 := by omega)); (try (have z50 : w5.heap.size < w'.heap.size + 1 := by omega)); (try (have z60 : w6.heap.size < w'.heap.size + 1 := by omega)); (try (have z70 : w7.heap.size < w'.heap.size + 1 := by omega)); (try (have z80 : w8.heap.size < w'.heap.size + 1 := by omega))
  have hw : Below w.heap.size w w' := by (repeat (first | exact Below.refl _ _ | refine bl_drewN ?_ | refine bl_drew ?_ | refine bl_alloc ?_ _ | refine Below.setCell ?_ (by (first | (simp; done) | (simp; omega) | omega)) _ | refine bl_step (by assumption) ?_))
  have HL := hidden (HL0.out.later hw)
  clear HL0
  have cr0 : w'.cell? ⟨w.heap.size, 0, none⟩ = some (.int .i64 0) := by simp [go_sem, *]
  have cr1 : w'.cell? ⟨w.heap.size, 1, none⟩ = some (.int .i64 0) := by simp [go_sem, *]
  have cg : ∀ o, w'.frozen? ⟨w.heap.size, o, none⟩ = false := by intro o; simp [go_sem, *]
  have ok : okAt w' w1.heap.size := ⟨by simp [go_sem, *], by simp [go_sem, *]⟩
  clear hcell hfroz hz
  obtain ⟨V0, rfl⟩ : ∃ v, v = w' := ⟨_, rfl⟩
  go_loopw [7, 8, 9, 10, 11, 12, 46] (fun rv av bv cv uv vv iv wr => ∃ k : Nat, iv = .int .i64 k ∧ k ≤ n ∧ av = .int .i64 (A k) ∧ bv = .int .i64 (Bq k) ∧ cv = .int .i64 (Cq k) ∧ uv = .int .i64 (U k) ∧ vv = .int .i64 (V k) ∧ wr.ownsRow V0.heap.size 77 3 rv k (rws s d p k) ∧ Below V0.heap.size V0 wr) (fun _ _ _ _ _ _ iv _ => 40 - (intOf iv).toNat)
  case atStart => exact ⟨0, rfl, Nat.zero_le _, by rw [S0.out.1], by rw [S0.out.2.1], by rw [S0.out.2.2.1], by rw [S0.out.2.2.2.1], by rw [S0.out.2.2.2.2], World.ownsRow_nil _ _ _ _, Below.refl _ _⟩
  case round =>
    obtain ⟨k, rfl, hk, rfl, rfl, rfl, rfl, rfl, hown, hV⟩ := hrel
    have hzV := hV.size
    by_cases hkn : k < n
    · have q1 : decide (k < n) = true := by simp; omega
      have M1 := hidden (MZ.out k hkn)
      have M2 := hidden (AZ.out k hkn)
      have M3 := hidden (SN.out k hkn)
      have M4 := hidden (CN.out k hkn)
      have M5 := hidden (FSh.out k hkn)
      have M6 := hidden (FC.out k hkn)
      have M7 := hidden (MP.out k hkn)
      have c0 : wr.cell? ⟨B, k * 6, none⟩ = some (.int .i64 (f k 0)) := cell_later hV (HL.out k 0 hkn (by omega))
      have c1 : wr.cell? ⟨B, k * 6 + 1, none⟩ = some (.int .i64 (f k 1)) := cell_later hV (HL.out k 1 hkn (by omega))
      have c2 : wr.cell? ⟨B, k * 6 + 2, none⟩ = some (.int .i64 (f k 2)) := cell_later hV (HL.out k 2 hkn (by omega))
      have c3 : wr.cell? ⟨B, k * 6 + 3, none⟩ = some (.int .i64 (f k 3)) := cell_later hV (HL.out k 3 hkn (by omega))
      have c4 : wr.cell? ⟨B, k * 6 + 4, none⟩ = some (.int .i64 (f k 4)) := cell_later hV (HL.out k 4 hkn (by omega))
      have c5 : wr.cell? ⟨B, k * 6 + 5, none⟩ = some (.int .i64 (f k 5)) := cell_later hV (HL.out k 5 hkn (by omega))
      have LB : B < V0.heap.size := HL.out.lt (by omega)
      have LB2 : B < wr.heap.size := by omega
      have pok := okAt_later hV ok
      obtain ⟨ok1, ok2⟩ := id pok
      go_wp2_with (first | (go_at_call 39; ((with_reducible refine (M1.out _).mono ?_); rintro e w' ⟨rfl, hb⟩); (try replace hb := below_undrew hb); (try replace hb := below_undrewN hb); obtain ⟨hcell, hfroz⟩ := bcell hb; have hz := hb.size; (try simp at hz); (try (have z6 := Nat.lt_of_lt_of_le z7 hz)); (try (have z7 := Nat.lt_of_lt_of_le z8 hz)); (try (have z8 := Nat.lt_of_lt_of_le z9 hz)); (try (have z9 := Nat.lt_of_lt_of_le (Nat.lt_succ_self _) hz)); (try (have z0 : w.heap.size < w'.heap.size := by omega)); (try (have z1 : w.heap.size + 1 < w'.heap.size := by omega)); (try (have z2 : w.heap.size + 1 + 1 < w'.heap.size := by omega)); (try (have z3 : w.heap.size + 1 + 1 + 1 < w'.heap.size := by omega)); (try (have y1 : w1.heap.size < w'.heap.size := by omega)); (try (have y2 : w2.heap.size < w'.heap.size := by omega)); (try (have y3 : w3.heap.size < w'.heap.size := by omega)); (try (have y4 : w4.heap.size < w'.heap.size := by omega)); (try (have y5 : w5.heap.size < w'.heap.size := by omega)); (try (have y6 : w6.heap.size < w'.heap.size := by omega)); (try (have x1 : w1.heap.size + 1 < w'.heap.size := by omega)); (try (have x2 : w2.heap.size + 1 < w'.heap.size := by omega)); (try (have x3 : w3.heap.size + 1 < w'.heap.size := by omega)); (try (have x4 : w4.heap.size + 1 < w'.heap.size := by omega)); (try (have x5 : w5.heap.size + 1 < w'.heap.size := by omega)); (try (have x6 : w6.heap.size + 1 < w'.heap.size := by omega)); (try (have y7 : w7.heap.size < w'.heap.size := by omega)); (try (have y8 : w8.heap.size < w'.heap.size := by omega)); (try (have y9 : w9.heap.size < w'.heap.size := by omega)); (try (have z10 : w1.heap.size < w'.heap.size + 1 := by omega)); (try (have z20 : w2.heap.size < w'.heap.size + 1 := by omega)); (try (have z30 : w3.heap.size < w'.heap.size + 1 := by omega)); (try (have z40 : w4.heap.size < w'.heap.size + 1 := by omega)); (try (have z50 : w5.heap.size < w'.heap.size + 1 := by omega)); (try (have z60 : w6.heap.size < w'.heap.size + 1 := by omega)); (try (have z70 : w7.heap.size < w'.heap.size + 1 := by omega)); (try (have z80 : w8.heap.size < w'.heap.size + 1 := by omega)); obtain ⟨w2, rfl⟩ : ∃ v, v = w' := ⟨_, rfl⟩) | (go_at_call 36; ((with_reducible refine (M2.out _).mono ?_); rintro e w' ⟨rfl, hb⟩); (try replace hb := below_undrew hb); (try replace hb := below_undrewN hb); obtain ⟨hcell, hfroz⟩ := bcell hb; have hz := hb.size; (try simp at hz); (try (have z6 := Nat.lt_of_lt_of_le z7 hz)); (try (have z7 := Nat.lt_of_lt_of_le z8 hz)); (try (have z8 := Nat.lt_of_lt_of_le z9 hz)); (try (have z9 := Nat.lt_of_lt_of_le (Nat.lt_succ_self _) hz)); (try (have z0 : w.heap.size < w'.heap.size := by omega)); (try (have z1 : w.heap.size + 1 < w'.heap.size := by omega)); (try (have z2 : w.heap.size + 1 + 1 < w'.heap.size := by omega)); (try (have z3 : w.heap.size + 1 + 1 + 1 < w'.heap.size := by omega)); (try (have y1 : w1.heap.size < w'.heap.size := by omega)); (try (have y2 : w2.heap.size < w'.heap.size := by omega)); (try (have y3 : w3.heap.size < w'.heap.size := by omega)); (try (have y4 : w4.heap.size < w'.heap.size := by omega)); (try (have y5 : w5.heap.size < w'.heap.size := by omega)); (try (have y6 : w6.heap.size < w'.heap.size := by omega)); (try (have x1 : w1.heap.size + 1 < w'.heap.size := by omega)); (try (have x2 : w2.heap.size + 1 < w'.heap.size := by omega)); (try (have x3 : w3.heap.size + 1 < w'.heap.size := by omega)); (try (have x4 : w4.heap.size + 1 < w'.heap.size := by omega)); (try (have x5 : w5.heap.size + 1 < w'.heap.size := by omega)); (try (have x6 : w6.heap.size + 1 < w'.heap.size := by omega)); (try (have y7 : w7.heap.size < w'.heap.size := by omega)); (try (have y8 : w8.heap.size < w'.heap.size := by omega)); (try (have y9 : w9.heap.size < w'.heap.size := by omega)); (try (have z10 : w1.heap.size < w'.heap.size + 1 := by omega)); (try (have z20 : w2.heap.size < w'.heap.size + 1 := by omega)); (try (have z30 : w3.heap.size < w'.heap.size + 1 := by omega)); (try (have z40 : w4.heap.size < w'.heap.size + 1 := by omega)); (try (have z50 : w5.heap.size < w'.heap.size + 1 := by omega)); (try (have z60 : w6.heap.size < w'.heap.size + 1 := by omega)); (try (have z70 : w7.heap.size < w'.heap.size + 1 := by omega)); (try (have z80 : w8.heap.size < w'.heap.size + 1 := by omega)); obtain ⟨w3, rfl⟩ : ∃ v, v = w' := ⟨_, rfl⟩))
      clear c0 c1 c2 c3 c4 c5 ok1 ok2 pok
      refine name_below ?_
      intro w' hb
      (try replace hb := below_undrew hb); (try replace hb := below_undrewN hb); obtain ⟨hcell, hfroz⟩ := bcell hb; have hz := hb.size; (try simp at hz); (try (have z6 := Nat.lt_of_lt_of_le z7 hz)); (try (have z7 := Nat.lt_of_lt_of_le z8 hz)); (try (have z8 := Nat.lt_of_lt_of_le z9 hz)); (try (have z9 := Nat.lt_of_lt_of_le (Nat.lt_succ_self _) hz)); (try (have z0 : w.heap.size < w'.heap.size := by omega)); (try (have z1 : w.heap.size + 1 < w'.heap.size := by omega)); (try (have z2 : w.heap.size + 1 + 1 < w'.heap.size := by omega)); (try (have z3 : w.heap.size + 1 + 1 + 1 < w'.heap.size := by omega)); (try (have y1 : w1.heap.size < w'.heap.size := by omega)); (try (have y2 : w2.heap.size < w'.heap.size := by omega)); (try (have y3 : w3.heap.size < w'.heap.size := by omega)); (try (have y4 : w4.heap.size < w'.heap.size := by omega)); (try (have y5 : w5.heap.size < w'.heap.size := by omega)); (try (have y6 : w6.heap.size < w'.heap.size := by omega)); (try (have x1 : w1.heap.size + 1 < w'.heap.size := by omega)); (try (have x2 : w2.heap.size + 1 < w'.heap.size := by omega)); (try (have x3 : w3.heap.size + 1 < w'.heap.size := by omega)); (try (have x4 : w4.heap.size + 1 < w'.heap.size := by omega)); (try (have x5 : w5.heap.size + 1 < w'.heap.size := by omega)); (try (have x6 : w6.heap.size + 1 < w'.heap.size := by omega)); (try (have y7 : w7.heap.size < w'.heap.size := by omega)); (try (have y8 : w8.heap.size < w'.heap.size := by omega)); (try (have y9 : w9.heap.size < w'.heap.size := by omega)); (try (have z10 : w1.heap.size < w'.heap.size + 1 := by omega)); (try (have z20 : w2.heap.size < w'.heap.size + 1 := by omega)); (try (have z30 : w3.heap.size < w'.heap.size + 1 := by omega)); (try (have z40 : w4.heap.size < w'.heap.size + 1 := by omega)); (try (have z50 : w5.heap.size < w'.heap.size + 1 := by omega)); (try (have z60 : w6.heap.size < w'.heap.size + 1 := by omega)); (try (have z70 : w7.heap.size < w'.heap.size + 1 := by omega)); (try (have z80 : w8.heap.size < w'.heap.size + 1 := by omega))
      have hu : Below wr.heap.size wr w' := by (repeat (first | exact Below.refl _ _ | refine bl_drewN ?_ | refine bl_drew ?_ | refine bl_alloc ?_ _ | refine Below.setCell ?_ (by (first | (simp; done) | (simp; omega) | omega)) _ | refine bl_step (by assumption) ?_))
      have x4 : w'.cell? ⟨wr.heap.size, 4, none⟩ = some (.int .i64 (f k 4)) := by simp [go_sem, *]
      have x5 : w'.cell? ⟨wr.heap.size, 5, none⟩ = some (.int .i64 (f k 5)) := by simp [go_sem, *]
      have z0 : w'.cell? ⟨w3.heap.size, 0, none⟩ = some (.int .i64 (z k)) := by simp [go_sem, *]
      have z1 : w'.cell? ⟨w3.heap.size, 1, none⟩ = some (.int .i64 (z k)) := by simp [go_sem, *]
      clear hcell hfroz hz
      obtain ⟨U1, rfl⟩ : ∃ v, v = w' := ⟨_, rfl⟩
      have hVU : Below V0.heap.size V0 U1 := bl_step hu hV
      have hownU := ownsRow_later hu hown
      have okU := okAt_later hVU ok
      refine wp_region_inv (fun a0 LL aa Q1 => ∃ (l0 l1 l2 l3 l4 l5 l6 l7 l8 l9 l10 l11 l12 l13 l14 l15 : Bool) (E1 : Nat), LL = #[l0, l1, l2, l3, l4, l5, l6, l7, l8, l9, l10, l11, l12, l13, l14, l15] ∧ aa = { a0 with tmps := (((((((((((((((a0.tmps.setIfInBounds 54 (cond l0 (.pointer (some ⟨w1.heap.size, 0, none⟩)) (u54))).setIfInBounds 55 (cond l1 (.agg #[.int .i64 (z k), .int .i64 (z k)]) (u55))).setIfInBounds 56 (cond l2 (.agg #[.int .i64 (g k), .int .i64 (g2 k)]) (u56))).setIfInBounds 57 (cond l3 (.int .i64 (g k)) (u57))).setIfInBounds 58 (cond l4 (.int .i64 (s k)) (u58))).setIfInBounds 59 (cond l5 (.pointer (some ⟨w1.heap.size, 0, none⟩)) (u59))).setIfInBounds 60 (cond l6 (.agg #[.int .i64 (z k), .int .i64 (z k)]) (u60))).setIfInBounds 61 (cond l7 (.agg #[.int .i64 (h k), .int .i64 (h2 k)]) (u61))).setIfInBounds 62 (cond l8 (.int .i64 (h k)) (u62))).setIfInBounds 63 (cond l9 (.int .i64 (d k)) (u63))).setIfInBounds 64 (cond l10 (.pointer (some ⟨wr.heap.size, 4, none⟩)) (u64))).setIfInBounds 65 (cond l11 (.agg #[.int .i64 (f k 4), .int .i64 (f k 5)]) (u65))).setIfInBounds 66 (cond l12 (.int .i64 (p k)) (u66))).setIfInBounds 67 (cond l13 (.agg #[.int .i64 (s k), .int .i64 (d k), .int .i64 (p k)]) (u67))).setIfInBounds 16 (cond l14 (.pointer (some ⟨E1, 0, none⟩)) (u16))) } ∧ Below U1.heap.size U1 Q1 ∧ (l15 = true → l14 = true) ∧ (l14 = true → Room3 U1 Q1 E1 l15 (s k) (d k) (p k))) (by kernel_rfl) (by kernel_rfl) ?h0 ?hsize ?hdone ?hstep
      case h0 =>
        refine ⟨false, false, false, false, false, false, false, false, false, false, false, false, false, false, false, false, 0, rfl, ?_, by (repeat (first | exact Below.refl _ _ | refine bl_drewN ?_ | refine bl_drew ?_ | refine bl_alloc ?_ _ | refine Below.setCell ?_ (by (first | (simp; done) | (simp; omega) | omega)) _ | refine bl_step (by assumption) ?_)), (fun h => by cases h), (fun h => by cases h)⟩
        simp only [cond_false, List.setIfInBounds_toArray, List.set_cons_zero, List.set_cons_succ]
      case hsize =>
        intro LL aa Q1 h
        obtain ⟨l0, l1, l2, l3, l4, l5, l6, l7, l8, l9, l10, l11, l12, l13, l14, l15, E1, hL, _⟩ := h
        rw [hL]
        rfl
      case hstep =>
        intro LL aa Q1 h
        obtain ⟨l0, l1, l2, l3, l4, l5, l6, l7, l8, l9, l10, l11, l12, l13, l14, l15, E1, hL, ha, hb0, hq, hr⟩ := h
        simp only [List.setIfInBounds_toArray, List.set_cons_zero, List.set_cons_succ] at ha
        subst hL
        subst ha
        refine ⟨?s0, ?s1, ?s2, ?s3, ?s4, ?s5, ?s6, ?s7, ?s8, ?s9, ?s10, ?s11, ?s12, ?s13, ?s14, ?s15, trivial⟩
        case s0 =>
          intro ff gg KK hK
          have f0 : l0 = false := ff
          clear ff gg
          subst f0
          simp only [cond_false]
          go_simp
          exact hK _ _ ⟨true, l1, l2, l3, l4, l5, l6, l7, l8, l9, l10, l11, l12, l13, l14, l15, E1, rfl, (by simp only [cond_true, List.setIfInBounds_toArray, List.set_cons_zero, List.set_cons_succ]), hb0, hq, hr⟩
        case s1 =>
          intro ff gg KK hK
          have f0 : l1 = false := ff
          clear ff gg
          subst f0
          simp only [cond_false]
          have j0 := cell_later hb0 z0
          have j1 := cell_later hb0 z1
          go_simp
          exact hK _ _ ⟨l0, true, l2, l3, l4, l5, l6, l7, l8, l9, l10, l11, l12, l13, l14, l15, E1, rfl, (by simp only [cond_true, List.setIfInBounds_toArray, List.set_cons_zero, List.set_cons_succ]), hb0, hq, hr⟩
        case s2 =>
          intro ff gg KK hK
          have t0 : l0 = true := gg ⟨0, .data⟩ (by simp) (by rfl)
          have t1 : l1 = true := gg ⟨1, .data⟩ (by simp) (by rfl)
          have f0 : l2 = false := ff
          clear ff gg
          subst t0 t1
          subst f0
          simp only [cond_true, cond_false]
          go_simp
          go_at_call 34
          with_reducible refine (M3.out _ _ (okAt_later hb0 okU)).mono ?_
          rintro e w' ⟨rfl, hb⟩
          exact hK _ _ ⟨true, true, true, l3, l4, l5, l6, l7, l8, l9, l10, l11, l12, l13, l14, l15, E1, rfl, (by simp only [cond_true, List.setIfInBounds_toArray, List.set_cons_zero, List.set_cons_succ]), bl_step hb hb0, hq, (fun t => (hr t).later hb)⟩
        case s3 =>
          intro ff gg KK hK
          have t2 : l2 = true := gg ⟨2, .data⟩ (by simp) (by rfl)
          have f0 : l3 = false := ff
          clear ff gg
          subst t2
          subst f0
          simp only [cond_true, cond_false]
          go_simp
          exact hK _ _ ⟨l0, l1, true, true, l4, l5, l6, l7, l8, l9, l10, l11, l12, l13, l14, l15, E1, rfl, (by simp only [Act.put, cond_true, List.setIfInBounds_toArray, List.set_cons_zero, List.set_cons_succ, List.getElem_toArray, List.getElem_cons_zero]), hb0, hq, hr⟩
        case s4 =>
          intro ff gg KK hK
          have t3 : l3 = true := gg ⟨3, .data⟩ (by simp) (by rfl)
          have f0 : l4 = false := ff
          clear ff gg
          subst t3
          subst f0
          simp only [cond_true, cond_false]
          go_simp
          go_at_call 40
          with_reducible refine (M5.out _).mono ?_
          rintro e w' ⟨rfl, hb⟩
          exact hK _ _ ⟨l0, l1, l2, true, true, l5, l6, l7, l8, l9, l10, l11, l12, l13, l14, l15, E1, rfl, (by simp only [cond_true, List.setIfInBounds_toArray, List.set_cons_zero, List.set_cons_succ]), bl_step hb hb0, hq, (fun t => (hr t).later hb)⟩
        case s5 =>
          intro ff gg KK hK
          have f0 : l5 = false := ff
          clear ff gg
          subst f0
          simp only [cond_false]
          go_simp
          exact hK _ _ ⟨l0, l1, l2, l3, l4, true, l6, l7, l8, l9, l10, l11, l12, l13, l14, l15, E1, rfl, (by simp only [cond_true, List.setIfInBounds_toArray, List.set_cons_zero, List.set_cons_succ]), hb0, hq, hr⟩
        case s6 =>
          intro ff gg KK hK
          have f0 : l6 = false := ff
          clear ff gg
          subst f0
          simp only [cond_false]
          have j0 := cell_later hb0 z0
          have j1 := cell_later hb0 z1
          go_simp
          exact hK _ _ ⟨l0, l1, l2, l3, l4, l5, true, l7, l8, l9, l10, l11, l12, l13, l14, l15, E1, rfl, (by simp only [cond_true, List.setIfInBounds_toArray, List.set_cons_zero, List.set_cons_succ]), hb0, hq, hr⟩
        case s7 =>
          intro ff gg KK hK
          have t5 : l5 = true := gg ⟨5, .data⟩ (by simp) (by rfl)
          have t6 : l6 = true := gg ⟨6, .data⟩ (by simp) (by rfl)
          have t4 : l4 = true := gg ⟨4, .chain⟩ (by simp) (by rfl)
          have f0 : l7 = false := ff
          clear ff gg
          subst t5 t6 t4
          subst f0
          simp only [cond_true, cond_false]
          go_simp
          go_at_call 30
          with_reducible refine (M4.out _ _ (okAt_later hb0 okU)).mono ?_
          rintro e w' ⟨rfl, hb⟩
          exact hK _ _ ⟨l0, l1, l2, l3, true, true, true, true, l8, l9, l10, l11, l12, l13, l14, l15, E1, rfl, (by simp only [cond_true, List.setIfInBounds_toArray, List.set_cons_zero, List.set_cons_succ]), bl_step hb hb0, hq, (fun t => (hr t).later hb)⟩
        case s8 =>
          intro ff gg KK hK
          have t7 : l7 = true := gg ⟨7, .data⟩ (by simp) (by rfl)
          have f0 : l8 = false := ff
          clear ff gg
          subst t7
          subst f0
          simp only [cond_true, cond_false]
          go_simp
          exact hK _ _ ⟨l0, l1, l2, l3, l4, l5, l6, true, true, l9, l10, l11, l12, l13, l14, l15, E1, rfl, (by simp only [Act.put, cond_true, List.setIfInBounds_toArray, List.set_cons_zero, List.set_cons_succ, List.getElem_toArray, List.getElem_cons_zero]), hb0, hq, hr⟩
        case s9 =>
          intro ff gg KK hK
          have t8 : l8 = true := gg ⟨8, .data⟩ (by simp) (by rfl)
          have f0 : l9 = false := ff
          clear ff gg
          subst t8
          subst f0
          simp only [cond_true, cond_false]
          go_simp
          go_at_call 40
          with_reducible refine (M6.out _).mono ?_
          rintro e w' ⟨rfl, hb⟩
          exact hK _ _ ⟨l0, l1, l2, l3, l4, l5, l6, l7, true, true, l10, l11, l12, l13, l14, l15, E1, rfl, (by simp only [cond_true, List.setIfInBounds_toArray, List.set_cons_zero, List.set_cons_succ]), bl_step hb hb0, hq, (fun t => (hr t).later hb)⟩
        case s10 =>
          intro ff gg KK hK
          have f0 : l10 = false := ff
          clear ff gg
          subst f0
          simp only [cond_false]
          go_simp
          exact hK _ _ ⟨l0, l1, l2, l3, l4, l5, l6, l7, l8, l9, true, l11, l12, l13, l14, l15, E1, rfl, (by simp only [cond_true, List.setIfInBounds_toArray, List.set_cons_zero, List.set_cons_succ]), hb0, hq, hr⟩
        case s11 =>
          intro ff gg KK hK
          have t10 : l10 = true := gg ⟨10, .data⟩ (by simp) (by rfl)
          have f0 : l11 = false := ff
          clear ff gg
          subst t10
          subst f0
          simp only [cond_true, cond_false]
          have j0 := cell_later hb0 x4
          have j1 := cell_later hb0 x5
          go_simp
          exact hK _ _ ⟨l0, l1, l2, l3, l4, l5, l6, l7, l8, l9, true, true, l12, l13, l14, l15, E1, rfl, (by simp only [cond_true, List.setIfInBounds_toArray, List.set_cons_zero, List.set_cons_succ]), hb0, hq, hr⟩
        case s12 =>
          intro ff gg KK hK
          have t11 : l11 = true := gg ⟨11, .data⟩ (by simp) (by rfl)
          have t9 : l9 = true := gg ⟨9, .chain⟩ (by simp) (by rfl)
          have f0 : l12 = false := ff
          clear ff gg
          subst t11 t9
          subst f0
          simp only [cond_true, cond_false]
          go_simp
          go_at_call 39
          with_reducible refine (M7.out _).mono ?_
          rintro e w' ⟨rfl, hb⟩
          exact hK _ _ ⟨l0, l1, l2, l3, l4, l5, l6, l7, l8, true, l10, true, true, l13, l14, l15, E1, rfl, (by simp only [cond_true, List.setIfInBounds_toArray, List.set_cons_zero, List.set_cons_succ]), bl_step hb hb0, hq, (fun t => (hr t).later hb)⟩
        case s13 =>
          intro ff gg KK hK
          have t4 : l4 = true := gg ⟨4, .data⟩ (by simp) (by rfl)
          have t9 : l9 = true := gg ⟨9, .data⟩ (by simp) (by rfl)
          have t12 : l12 = true := gg ⟨12, .data⟩ (by simp) (by rfl)
          have f0 : l13 = false := ff
          clear ff gg
          subst t4 t9 t12
          subst f0
          simp only [cond_true, cond_false]
          go_simp
          exact hK _ _ ⟨l0, l1, l2, l3, true, l5, l6, l7, l8, true, l10, l11, true, true, l14, l15, E1, rfl, (by simp only [cond_true, List.setIfInBounds_toArray, List.set_cons_zero, List.set_cons_succ]), hb0, hq, hr⟩
        case s14 =>
          intro ff gg KK hK
          have f0 : l14 = false := ff
          clear ff gg
          subst f0
          simp only [cond_false]
          go_simp
          exact hK _ _ ⟨l0, l1, l2, l3, l4, l5, l6, l7, l8, l9, l10, l11, l12, l13, true, l15, Q1.heap.size, rfl, (by simp only [cond_true, List.setIfInBounds_toArray, List.set_cons_zero, List.set_cons_succ]), by (repeat (first | exact Below.refl _ _ | refine bl_drewN ?_ | refine bl_drew ?_ | refine bl_alloc ?_ _ | refine Below.setCell ?_ (by (first | (simp; done) | (simp; omega) | omega)) _ | refine bl_step (by assumption) ?_)), (fun _ => rfl), (fun _ => Room3.alloc hb0 _ _ _ _ _ _ _ _ hq)⟩
        case s15 =>
          intro ff gg KK hK
          have t14 : l14 = true := gg ⟨14, .data⟩ (by simp) (by rfl)
          have t13 : l13 = true := gg ⟨13, .data⟩ (by simp) (by rfl)
          have f0 : l15 = false := ff
          clear ff gg
          subst t14 t13
          subst f0
          simp only [cond_true]
          have rr := hr rfl
          obtain ⟨m1, m2, fz0, fz1, fz2, y0, y1, y2, cz0, cz1, cz2, m7⟩ := rr
          go_simp
          exact hK _ _ ⟨l0, l1, l2, l3, l4, l5, l6, l7, l8, l9, l10, l11, l12, true, true, true, E1, rfl, (by simp only [cond_true, List.setIfInBounds_toArray, List.set_cons_zero, List.set_cons_succ]), (((hb0.setCell m1 _).setCell m1 _).setCell m1 _), (fun _ => rfl), (fun _ => (hr rfl).store _ _ _ _)⟩
      case hdone =>
        intro LL aa Q1 h hd
        obtain ⟨l0, l1, l2, l3, l4, l5, l6, l7, l8, l9, l10, l11, l12, l13, l14, l15, E1, hL, ha, hb0, hq, hr⟩ := h
        rw [hL] at hd
        have t0 : l0 = true := hd 0 (by decide)
        have t1 : l1 = true := hd 1 (by decide)
        have t2 : l2 = true := hd 2 (by decide)
        have t3 : l3 = true := hd 3 (by decide)
        have t4 : l4 = true := hd 4 (by decide)
        have t5 : l5 = true := hd 5 (by decide)
        have t6 : l6 = true := hd 6 (by decide)
        have t7 : l7 = true := hd 7 (by decide)
        have t8 : l8 = true := hd 8 (by decide)
        have t9 : l9 = true := hd 9 (by decide)
        have t10 : l10 = true := hd 10 (by decide)
        have t11 : l11 = true := hd 11 (by decide)
        have t12 : l12 = true := hd 12 (by decide)
        have t13 : l13 = true := hd 13 (by decide)
        have t14 : l14 = true := hd 14 (by decide)
        have t15 : l15 = true := hd 15 (by decide)
        clear hd hL hq
        subst t0 t1 t2 t3 t4 t5 t6 t7 t8 t9 t10 t11 t12 t13 t14 t15
        simp only [cond_true, List.setIfInBounds_toArray, List.set_cons_zero, List.set_cons_succ] at ha
        subst ha
        obtain ⟨E1g, E1l, _, _, _, y0, y1, y2, E1c0, E1c1, E1c2, hy⟩ := hr rfl
        obtain ⟨rfl, rfl, rfl⟩ := hy rfl
        clear hr
        have hVQ : Below V0.heap.size V0 Q1 := bl_step hb0 hVU
        have hownQ := ownsRow_later hb0 hownU
        have hb14 : V0.heap.size ≤ Q1.heap.size := hVQ.size
        have hne : ∀ q, u7.ownBlock = some q → q < wr.heap.size := fun q hq => (hown.lt q hq).2
        have hEU : wr.heap.size ≤ U1.heap.size := hu.size
        go_wp2_with (at_builtin; refine wpList_append_own_at _ rfl _ _ 73 rfl V0.heap.size 77 i0 (.agg #[.int .i64 0, .int .i64 0, .int .i64 0]) 3 24 Try.underlying73 hi hz0 hz1 hz2 rfl (by decide) _ k (rws s d p k) rfl (hownQ.alloc _) ⟨Q1.heap.size, 0, none⟩ 1 1 [.int .i64 (s k), .int .i64 (d k), .int .i64 (p k)] rfl rfl (news3 _ _ _ _ _) (one3 _ _ _) (by unfold maxLen; omega) (by omega) (by simp; omega) ?_; intro rv1 w' hown1 hg hnil hob)
        have hg2 : (Q1.alloc (Obj.cells #[.int .i64 (s k), .int .i64 (d k), .int .i64 (p k)] 77)).grownBy w' u7.ownBlock := hg
        clear hg hnil hob
        have hVA : Below V0.heap.size V0 w' := Below.grown (w := (Q1.alloc (Obj.cells #[.int .i64 (s k), .int .i64 (d k), .int .i64 (p k)] 77))) (by (repeat (first | exact Below.refl _ _ | refine bl_drewN ?_ | refine bl_drew ?_ | refine bl_alloc ?_ _ | refine Below.setCell ?_ (by (first | (simp; done) | (simp; omega) | omega)) _ | refine bl_step (by assumption) ?_))) hg2 (by simp; omega) (fun k hk => (hownU.lt k hk).1)
        have hbk : w'.heap[E1]? = (Q1.alloc (Obj.cells #[.int .i64 (s k), .int .i64 (d k), .int .i64 (p k)] 77)).heap[E1]? := hg2.block E1 (by simp; omega) (fun e => by have := hne E1 e.symm; omega)
        have r0 : w'.cell? ⟨E1, 0, none⟩ = some (.int .i64 (s k)) := (World.cell?_of_block (a := ⟨E1, 0, none⟩) hbk).trans (by simp [go_sem, *])
        have r1 : w'.cell? ⟨E1, 1, none⟩ = some (.int .i64 (d k)) := (World.cell?_of_block (a := ⟨E1, 1, none⟩) hbk).trans (by simp [go_sem, *])
        have r2 : w'.cell? ⟨E1, 2, none⟩ = some (.int .i64 (p k)) := (World.cell?_of_block (a := ⟨E1, 2, none⟩) hbk).trans (by simp [go_sem, *])
        have rl : E1 < w'.heap.size := World.block_lt_of_cell? _ _ r0
        clear hbk hne hEU hg2 hb14 E1c0 E1c1 E1c2
        obtain ⟨⟨b0, b1⟩, ⟨b2, b3⟩, ⟨b4, b5⟩, ⟨b6, b7⟩, b8, b9⟩ := BS.out k hkn
        obtain ⟨⟨a0, a1⟩, ⟨a2, a3⟩, ⟨a4, a5⟩, ⟨a6, a7⟩, a8, a9⟩ := BA.out k (by omega)
        go_quiet (fail)
        go_wp2
        have st := S1.out k hkn
        exact ⟨⟨k + 1, by go_num, by omega, by rw [st.1], by rw [st.2.1], by rw [st.2.2.1], by rw [st.2.2.2.1], by rw [st.2.2.2.2], hown1, bl_drewN hVA⟩, by simp [intOf]; omega⟩
    · have q1 : decide (k < n) = false := by simp; omega
      have e : n = k := by omega
      subst e
      have HV := hidden hV
      have okW := okAt_later hV ok
      obtain ⟨ok1, ok2⟩ := id okW
      have LB : B < V0.heap.size := HL.out.lt (by omega)
      have LB2 : B < wr.heap.size := by omega
      have lC : w1.heap.size < wr.heap.size := okAt_lt okW
      have c0 : wr.cell? ⟨B, 0, none⟩ = some (.int .i64 (f 0 0)) := by have := cell_later hV (HL.out 0 0 (by omega) (by omega)); simpa using this
      have c1 : wr.cell? ⟨B, 1, none⟩ = some (.int .i64 (f 0 1)) := by have := cell_later hV (HL.out 0 1 (by omega) (by omega)); simpa using this
      rcases hown.2 with ⟨_, hn0⟩ | ⟨gb, cap, cur, rfl, hg0, _⟩
      · omega
      have HO := hidden hown
      have q3 : 0 < n := by omega
      have q4 : decide (0 < n) = true := by simp; omega
      obtain ⟨⟨a0, a1⟩, ⟨a2, a3⟩, ⟨a4, a5⟩, ⟨a6, a7⟩, a8, a9⟩ := BA.out n (by omega)
      obtain ⟨⟨p0, p1⟩, p2, p3⟩ := PA.out
      have fl69 : ∀ w, (Instr.field 69 (.agg #[.int .i64 K1, .int .i64 K2]) 0).run Try.prog w = .ok (.int .i64 K1) w := fun w => by first | rfl | (simp [Instr.field, go_sem])
      clear hown
      go_wp2_with (first | (go_at_call 36; ((with_reducible refine (AL.out _).mono ?_); rintro e w' ⟨rfl, hb⟩); (try replace hb := below_undrew hb); (try replace hb := below_undrewN hb); obtain ⟨hcell, hfroz⟩ := bcell hb; have hz := hb.size; (try simp at hz); (try (have z6 := Nat.lt_of_lt_of_le z7 hz)); (try (have z7 := Nat.lt_of_lt_of_le z8 hz)); (try (have z8 := Nat.lt_of_lt_of_le z9 hz)); (try (have z9 := Nat.lt_of_lt_of_le (Nat.lt_succ_self _) hz)); (try (have z0 : w.heap.size < w'.heap.size := by omega)); (try (have z1 : w.heap.size + 1 < w'.heap.size := by omega)); (try (have z2 : w.heap.size + 1 + 1 < w'.heap.size := by omega)); (try (have z3 : w.heap.size + 1 + 1 + 1 < w'.heap.size := by omega)); (try (have y1 : w1.heap.size < w'.heap.size := by omega)); (try (have y2 : w2.heap.size < w'.heap.size := by omega)); (try (have y3 : w3.heap.size < w'.heap.size := by omega)); (try (have y4 : w4.heap.size < w'.heap.size := by omega)); (try (have y5 : w5.heap.size < w'.heap.size := by omega)); (try (have y6 : w6.heap.size < w'.heap.size := by omega)); (try (have x1 : w1.heap.size + 1 < w'.heap.size := by omega)); (try (have x2 : w2.heap.size + 1 < w'.heap.size := by omega)); (try (have x3 : w3.heap.size + 1 < w'.heap.size := by omega)); (try (have x4 : w4.heap.size + 1 < w'.heap.size := by omega)); (try (have x5 : w5.heap.size + 1 < w'.heap.size := by omega)); (try (have x6 : w6.heap.size + 1 < w'.heap.size := by omega)); (try (have y7 : w7.heap.size < w'.heap.size := by omega)); (try (have y8 : w8.heap.size < w'.heap.size := by omega)); (try (have y9 : w9.heap.size < w'.heap.size := by omega)); (try (have z10 : w1.heap.size < w'.heap.size + 1 := by omega)); (try (have z20 : w2.heap.size < w'.heap.size + 1 := by omega)); (try (have z30 : w3.heap.size < w'.heap.size + 1 := by omega)); (try (have z40 : w4.heap.size < w'.heap.size + 1 := by omega)); (try (have z50 : w5.heap.size < w'.heap.size + 1 := by omega)); (try (have z60 : w6.heap.size < w'.heap.size + 1 := by omega)); (try (have z70 : w7.heap.size < w'.heap.size + 1 := by omega)); (try (have z80 : w8.heap.size < w'.heap.size + 1 := by omega)); (have e1 : B < w'.heap.size := by omega); (have e2 : w1.heap.size < w'.heap.size := by omega); obtain ⟨w2, rfl⟩ : ∃ v, v = w' := ⟨_, rfl⟩) | (go_at_call 30; ((with_reducible refine (CL.out _ _ ?ok).mono ?_); (case ok => exact ⟨(by simp [go_sem, *]; done), (by simp [go_sem, *]; done)⟩); rintro e w' ⟨rfl, hb⟩); (try replace hb := below_undrew hb); (try replace hb := below_undrewN hb); obtain ⟨hcell, hfroz⟩ := bcell hb; have hz := hb.size; (try simp at hz); (try (have z6 := Nat.lt_of_lt_of_le z7 hz)); (try (have z7 := Nat.lt_of_lt_of_le z8 hz)); (try (have z8 := Nat.lt_of_lt_of_le z9 hz)); (try (have z9 := Nat.lt_of_lt_of_le (Nat.lt_succ_self _) hz)); (try (have z0 : w.heap.size < w'.heap.size := by omega)); (try (have z1 : w.heap.size + 1 < w'.heap.size := by omega)); (try (have z2 : w.heap.size + 1 + 1 < w'.heap.size := by omega)); (try (have z3 : w.heap.size + 1 + 1 + 1 < w'.heap.size := by omega)); (try (have y1 : w1.heap.size < w'.heap.size := by omega)); (try (have y2 : w2.heap.size < w'.heap.size := by omega)); (try (have y3 : w3.heap.size < w'.heap.size := by omega)); (try (have y4 : w4.heap.size < w'.heap.size := by omega)); (try (have y5 : w5.heap.size < w'.heap.size := by omega)); (try (have y6 : w6.heap.size < w'.heap.size := by omega)); (try (have x1 : w1.heap.size + 1 < w'.heap.size := by omega)); (try (have x2 : w2.heap.size + 1 < w'.heap.size := by omega)); (try (have x3 : w3.heap.size + 1 < w'.heap.size := by omega)); (try (have x4 : w4.heap.size + 1 < w'.heap.size := by omega)); (try (have x5 : w5.heap.size + 1 < w'.heap.size := by omega)); (try (have x6 : w6.heap.size + 1 < w'.heap.size := by omega)); (try (have y7 : w7.heap.size < w'.heap.size := by omega)); (try (have y8 : w8.heap.size < w'.heap.size := by omega)); (try (have y9 : w9.heap.size < w'.heap.size := by omega)); (try (have z10 : w1.heap.size < w'.heap.size + 1 := by omega)); (try (have z20 : w2.heap.size < w'.heap.size + 1 := by omega)); (try (have z30 : w3.heap.size < w'.heap.size + 1 := by omega)); (try (have z40 : w4.heap.size < w'.heap.size + 1 := by omega)); (try (have z50 : w5.heap.size < w'.heap.size + 1 := by omega)); (try (have z60 : w6.heap.size < w'.heap.size + 1 := by omega)); (try (have z70 : w7.heap.size < w'.heap.size + 1 := by omega)); (try (have z80 : w8.heap.size < w'.heap.size + 1 := by omega)); (have e1 : B < w'.heap.size := by omega); (have e2 : w1.heap.size < w'.heap.size := by omega); obtain ⟨w3, rfl⟩ : ∃ v, v = w' := ⟨_, rfl⟩) | (go_at_call 41; ((with_reducible refine (QX.out _).mono ?_); rintro e w' ⟨rfl, hb⟩); (try replace hb := below_undrew hb); (try replace hb := below_undrewN hb); obtain ⟨hcell, hfroz⟩ := bcell hb; have hz := hb.size; (try simp at hz); (try (have z6 := Nat.lt_of_lt_of_le z7 hz)); (try (have z7 := Nat.lt_of_lt_of_le z8 hz)); (try (have z8 := Nat.lt_of_lt_of_le z9 hz)); (try (have z9 := Nat.lt_of_lt_of_le (Nat.lt_succ_self _) hz)); (try (have z0 : w.heap.size < w'.heap.size := by omega)); (try (have z1 : w.heap.size + 1 < w'.heap.size := by omega)); (try (have z2 : w.heap.size + 1 + 1 < w'.heap.size := by omega)); (try (have z3 : w.heap.size + 1 + 1 + 1 < w'.heap.size := by omega)); (try (have y1 : w1.heap.size < w'.heap.size := by omega)); (try (have y2 : w2.heap.size < w'.heap.size := by omega)); (try (have y3 : w3.heap.size < w'.heap.size := by omega)); (try (have y4 : w4.heap.size < w'.heap.size := by omega)); (try (have y5 : w5.heap.size < w'.heap.size := by omega)); (try (have y6 : w6.heap.size < w'.heap.size := by omega)); (try (have x1 : w1.heap.size + 1 < w'.heap.size := by omega)); (try (have x2 : w2.heap.size + 1 < w'.heap.size := by omega)); (try (have x3 : w3.heap.size + 1 < w'.heap.size := by omega)); (try (have x4 : w4.heap.size + 1 < w'.heap.size := by omega)); (try (have x5 : w5.heap.size + 1 < w'.heap.size := by omega)); (try (have x6 : w6.heap.size + 1 < w'.heap.size := by omega)); (try (have y7 : w7.heap.size < w'.heap.size := by omega)); (try (have y8 : w8.heap.size < w'.heap.size := by omega)); (try (have y9 : w9.heap.size < w'.heap.size := by omega)); (try (have z10 : w1.heap.size < w'.heap.size + 1 := by omega)); (try (have z20 : w2.heap.size < w'.heap.size + 1 := by omega)); (try (have z30 : w3.heap.size < w'.heap.size + 1 := by omega)); (try (have z40 : w4.heap.size < w'.heap.size + 1 := by omega)); (try (have z50 : w5.heap.size < w'.heap.size + 1 := by omega)); (try (have z60 : w6.heap.size < w'.heap.size + 1 := by omega)); (try (have z70 : w7.heap.size < w'.heap.size + 1 := by omega)); (try (have z80 : w8.heap.size < w'.heap.size + 1 := by omega)); (have e1 : B < w'.heap.size := by omega); (have e2 : w1.heap.size < w'.heap.size := by omega); obtain ⟨w4, rfl⟩ : ∃ v, v = w' := ⟨_, rfl⟩) | (go_at_call 41; ((with_reducible refine (QY.out _).mono ?_); rintro e w' ⟨rfl, hb⟩); (try replace hb := below_undrew hb); (try replace hb := below_undrewN hb); obtain ⟨hcell, hfroz⟩ := bcell hb; have hz := hb.size; (try simp at hz); (try (have z6 := Nat.lt_of_lt_of_le z7 hz)); (try (have z7 := Nat.lt_of_lt_of_le z8 hz)); (try (have z8 := Nat.lt_of_lt_of_le z9 hz)); (try (have z9 := Nat.lt_of_lt_of_le (Nat.lt_succ_self _) hz)); (try (have z0 : w.heap.size < w'.heap.size := by omega)); (try (have z1 : w.heap.size + 1 < w'.heap.size := by omega)); (try (have z2 : w.heap.size + 1 + 1 < w'.heap.size := by omega)); (try (have z3 : w.heap.size + 1 + 1 + 1 < w'.heap.size := by omega)); (try (have y1 : w1.heap.size < w'.heap.size := by omega)); (try (have y2 : w2.heap.size < w'.heap.size := by omega)); (try (have y3 : w3.heap.size < w'.heap.size := by omega)); (try (have y4 : w4.heap.size < w'.heap.size := by omega)); (try (have y5 : w5.heap.size < w'.heap.size := by omega)); (try (have y6 : w6.heap.size < w'.heap.size := by omega)); (try (have x1 : w1.heap.size + 1 < w'.heap.size := by omega)); (try (have x2 : w2.heap.size + 1 < w'.heap.size := by omega)); (try (have x3 : w3.heap.size + 1 < w'.heap.size := by omega)); (try (have x4 : w4.heap.size + 1 < w'.heap.size := by omega)); (try (have x5 : w5.heap.size + 1 < w'.heap.size := by omega)); (try (have x6 : w6.heap.size + 1 < w'.heap.size := by omega)); (try (have y7 : w7.heap.size < w'.heap.size := by omega)); (try (have y8 : w8.heap.size < w'.heap.size := by omega)); (try (have y9 : w9.heap.size < w'.heap.size := by omega)); (try (have z10 : w1.heap.size < w'.heap.size + 1 := by omega)); (try (have z20 : w2.heap.size < w'.heap.size + 1 := by omega)); (try (have z30 : w3.heap.size < w'.heap.size + 1 := by omega)); (try (have z40 : w4.heap.size < w'.heap.size + 1 := by omega)); (try (have z50 : w5.heap.size < w'.heap.size + 1 := by omega)); (try (have z60 : w6.heap.size < w'.heap.size + 1 := by omega)); (try (have z70 : w7.heap.size < w'.heap.size + 1 := by omega)); (try (have z80 : w8.heap.size < w'.heap.size + 1 := by omega)); (have e1 : B < w'.heap.size := by omega); (have e2 : w1.heap.size < w'.heap.size := by omega); obtain ⟨w5, rfl⟩ : ∃ v, v = w' := ⟨_, rfl⟩) | (go_at_call 36; ((with_reducible refine (ATX.out _).mono ?_); rintro e w' ⟨rfl, hb⟩); (try replace hb := below_undrew hb); (try replace hb := below_undrewN hb); obtain ⟨hcell, hfroz⟩ := bcell hb; have hz := hb.size; (try simp at hz); (try (have z6 := Nat.lt_of_lt_of_le z7 hz)); (try (have z7 := Nat.lt_of_lt_of_le z8 hz)); (try (have z8 := Nat.lt_of_lt_of_le z9 hz)); (try (have z9 := Nat.lt_of_lt_of_le (Nat.lt_succ_self _) hz)); (try (have z0 : w.heap.size < w'.heap.size := by omega)); (try (have z1 : w.heap.size + 1 < w'.heap.size := by omega)); (try (have z2 : w.heap.size + 1 + 1 < w'.heap.size := by omega)); (try (have z3 : w.heap.size + 1 + 1 + 1 < w'.heap.size := by omega)); (try (have y1 : w1.heap.size < w'.heap.size := by omega)); (try (have y2 : w2.heap.size < w'.heap.size := by omega)); (try (have y3 : w3.heap.size < w'.heap.size := by omega)); (try (have y4 : w4.heap.size < w'.heap.size := by omega)); (try (have y5 : w5.heap.size < w'.heap.size := by omega)); (try (have y6 : w6.heap.size < w'.heap.size := by omega)); (try (have x1 : w1.heap.size + 1 < w'.heap.size := by omega)); (try (have x2 : w2.heap.size + 1 < w'.heap.size := by omega)); (try (have x3 : w3.heap.size + 1 < w'.heap.size := by omega)); (try (have x4 : w4.heap.size + 1 < w'.heap.size := by omega)); (try (have x5 : w5.heap.size + 1 < w'.heap.size := by omega)); (try (have x6 : w6.heap.size + 1 < w'.heap.size := by omega)); (try (have y7 : w7.heap.size < w'.heap.size := by omega)); (try (have y8 : w8.heap.size < w'.heap.size := by omega)); (try (have y9 : w9.heap.size < w'.heap.size := by omega)); (try (have z10 : w1.heap.size < w'.heap.size + 1 := by omega)); (try (have z20 : w2.heap.size < w'.heap.size + 1 := by omega)); (try (have z30 : w3.heap.size < w'.heap.size + 1 := by omega)); (try (have z40 : w4.heap.size < w'.heap.size + 1 := by omega)); (try (have z50 : w5.heap.size < w'.heap.size + 1 := by omega)); (try (have z60 : w6.heap.size < w'.heap.size + 1 := by omega)); (try (have z70 : w7.heap.size < w'.heap.size + 1 := by omega)); (try (have z80 : w8.heap.size < w'.heap.size + 1 := by omega)); (have e1 : B < w'.heap.size := by omega); (have e2 : w1.heap.size < w'.heap.size := by omega); obtain ⟨w6, rfl⟩ : ∃ v, v = w' := ⟨_, rfl⟩) | (go_at_call 31; ((with_reducible refine (W1.out _).mono ?_); rintro e w' ⟨rfl, hb⟩); (try replace hb := below_undrew hb); (try replace hb := below_undrewN hb); obtain ⟨hcell, hfroz⟩ := bcell hb; have hz := hb.size; (try simp at hz); (try (have z6 := Nat.lt_of_lt_of_le z7 hz)); (try (have z7 := Nat.lt_of_lt_of_le z8 hz)); (try (have z8 := Nat.lt_of_lt_of_le z9 hz)); (try (have z9 := Nat.lt_of_lt_of_le (Nat.lt_succ_self _) hz)); (try (have z0 : w.heap.size < w'.heap.size := by omega)); (try (have z1 : w.heap.size + 1 < w'.heap.size := by omega)); (try (have z2 : w.heap.size + 1 + 1 < w'.heap.size := by omega)); (try (have z3 : w.heap.size + 1 + 1 + 1 < w'.heap.size := by omega)); (try (have y1 : w1.heap.size < w'.heap.size := by omega)); (try (have y2 : w2.heap.size < w'.heap.size := by omega)); (try (have y3 : w3.heap.size < w'.heap.size := by omega)); (try (have y4 : w4.heap.size < w'.heap.size := by omega)); (try (have y5 : w5.heap.size < w'.heap.size := by omega)); (try (have y6 : w6.heap.size < w'.heap.size := by omega)); (try (have x1 : w1.heap.size + 1 < w'.heap.size := by omega)); (try (have x2 : w2.heap.size + 1 < w'.heap.size := by omega)); (try (have x3 : w3.heap.size + 1 < w'.heap.size := by omega)); (try (have x4 : w4.heap.size + 1 < w'.heap.size := by omega)); (try (have x5 : w5.heap.size + 1 < w'.heap.size := by omega)); (try (have x6 : w6.heap.size + 1 < w'.heap.size := by omega)); (try (have y7 : w7.heap.size < w'.heap.size := by omega)); (try (have y8 : w8.heap.size < w'.heap.size := by omega)); (try (have y9 : w9.heap.size < w'.heap.size := by omega)); (try (have z10 : w1.heap.size < w'.heap.size + 1 := by omega)); (try (have z20 : w2.heap.size < w'.heap.size + 1 := by omega)); (try (have z30 : w3.heap.size < w'.heap.size + 1 := by omega)); (try (have z40 : w4.heap.size < w'.heap.size + 1 := by omega)); (try (have z50 : w5.heap.size < w'.heap.size + 1 := by omega)); (try (have z60 : w6.heap.size < w'.heap.size + 1 := by omega)); (try (have z70 : w7.heap.size < w'.heap.size + 1 := by omega)); (try (have z80 : w8.heap.size < w'.heap.size + 1 := by omega)); (have e1 : B < w'.heap.size := by omega); (have e2 : w1.heap.size < w'.heap.size := by omega); obtain ⟨w7, rfl⟩ : ∃ v, v = w' := ⟨_, rfl⟩) | (go_at_call 36; ((with_reducible refine (ATY.out _).mono ?_); rintro e w' ⟨rfl, hb⟩); (try replace hb := below_undrew hb); (try replace hb := below_undrewN hb); obtain ⟨hcell, hfroz⟩ := bcell hb; have hz := hb.size; (try simp at hz); (try (have z6 := Nat.lt_of_lt_of_le z7 hz)); (try (have z7 := Nat.lt_of_lt_of_le z8 hz)); (try (have z8 := Nat.lt_of_lt_of_le z9 hz)); (try (have z9 := Nat.lt_of_lt_of_le (Nat.lt_succ_self _) hz)); (try (have z0 : w.heap.size < w'.heap.size := by omega)); (try (have z1 : w.heap.size + 1 < w'.heap.size := by omega)); (try (have z2 : w.heap.size + 1 + 1 < w'.heap.size := by omega)); (try (have z3 : w.heap.size + 1 + 1 + 1 < w'.heap.size := by omega)); (try (have y1 : w1.heap.size < w'.heap.size := by omega)); (try (have y2 : w2.heap.size < w'.heap.size := by omega)); (try (have y3 : w3.heap.size < w'.heap.size := by omega)); (try (have y4 : w4.heap.size < w'.heap.size := by omega)); (try (have y5 : w5.heap.size < w'.heap.size := by omega)); (try (have y6 : w6.heap.size < w'.heap.size := by omega)); (try (have x1 : w1.heap.size + 1 < w'.heap.size := by omega)); (try (have x2 : w2.heap.size + 1 < w'.heap.size := by omega)); (try (have x3 : w3.heap.size + 1 < w'.heap.size := by omega)); (try (have x4 : w4.heap.size + 1 < w'.heap.size := by omega)); (try (have x5 : w5.heap.size + 1 < w'.heap.size := by omega)); (try (have x6 : w6.heap.size + 1 < w'.heap.size := by omega)); (try (have y7 : w7.heap.size < w'.heap.size := by omega)); (try (have y8 : w8.heap.size < w'.heap.size := by omega)); (try (have y9 : w9.heap.size < w'.heap.size := by omega)); (try (have z10 : w1.heap.size < w'.heap.size + 1 := by omega)); (try (have z20 : w2.heap.size < w'.heap.size + 1 := by omega)); (try (have z30 : w3.heap.size < w'.heap.size + 1 := by omega)); (try (have z40 : w4.heap.size < w'.heap.size + 1 := by omega)); (try (have z50 : w5.heap.size < w'.heap.size + 1 := by omega)); (try (have z60 : w6.heap.size < w'.heap.size + 1 := by omega)); (try (have z70 : w7.heap.size < w'.heap.size + 1 := by omega)); (try (have z80 : w8.heap.size < w'.heap.size + 1 := by omega)); (have e1 : B < w'.heap.size := by omega); (have e2 : w1.heap.size < w'.heap.size := by omega); obtain ⟨w8, rfl⟩ : ∃ v, v = w' := ⟨_, rfl⟩) | (go_at_call 31; ((with_reducible refine (W2.out _).mono ?_); rintro e w' ⟨rfl, hb⟩); (try replace hb := below_undrew hb); (try replace hb := below_undrewN hb); obtain ⟨hcell, hfroz⟩ := bcell hb; have hz := hb.size; (try simp at hz); (try (have z6 := Nat.lt_of_lt_of_le z7 hz)); (try (have z7 := Nat.lt_of_lt_of_le z8 hz)); (try (have z8 := Nat.lt_of_lt_of_le z9 hz)); (try (have z9 := Nat.lt_of_lt_of_le (Nat.lt_succ_self _) hz)); (try (have z0 : w.heap.size < w'.heap.size := by omega)); (try (have z1 : w.heap.size + 1 < w'.heap.size := by omega)); (try (have z2 : w.heap.size + 1 + 1 < w'.heap.size := by omega)); (try (have z3 : w.heap.size + 1 + 1 + 1 < w'.heap.size := by omega)); (try (have y1 : w1.heap.size < w'.heap.size := by omega)); (try (have y2 : w2.heap.size < w'.heap.size := by omega)); (try (have y3 : w3.heap.size < w'.heap.size := by omega)); (try (have y4 : w4.heap.size < w'.heap.size := by omega)); (try (have y5 : w5.heap.size < w'.heap.size := by omega)); (try (have y6 : w6.heap.size < w'.heap.size := by omega)); (try (have x1 : w1.heap.size + 1 < w'.heap.size := by omega)); (try (have x2 : w2.heap.size + 1 < w'.heap.size := by omega)); (try (have x3 : w3.heap.size + 1 < w'.heap.size := by omega)); (try (have x4 : w4.heap.size + 1 < w'.heap.size := by omega)); (try (have x5 : w5.heap.size + 1 < w'.heap.size := by omega)); (try (have x6 : w6.heap.size + 1 < w'.heap.size := by omega)); (try (have y7 : w7.heap.size < w'.heap.size := by omega)); (try (have y8 : w8.heap.size < w'.heap.size := by omega)); (try (have y9 : w9.heap.size < w'.heap.size := by omega)); (try (have z10 : w1.heap.size < w'.heap.size + 1 := by omega)); (try (have z20 : w2.heap.size < w'.heap.size + 1 := by omega)); (try (have z30 : w3.heap.size < w'.heap.size + 1 := by omega)); (try (have z40 : w4.heap.size < w'.heap.size + 1 := by omega)); (try (have z50 : w5.heap.size < w'.heap.size + 1 := by omega)); (try (have z60 : w6.heap.size < w'.heap.size + 1 := by omega)); (try (have z70 : w7.heap.size < w'.heap.size + 1 := by omega)); (try (have z80 : w8.heap.size < w'.heap.size + 1 := by omega)); (have e1 : B < w'.heap.size := by omega); (have e2 : w1.heap.size < w'.heap.size := by omega); obtain ⟨w9, rfl⟩ : ∃ v, v = w' := ⟨_, rfl⟩))
      have HO9 := hidden (ownsRow_later (by (repeat (first | (with_reducible exact Below.refl _ _) | (with_reducible refine Below.setCell ?_ (by (first | (simp; done) | (simp; omega) | omega)) _) | (with_reducible refine bl_alloc ?_ _) | (with_reducible refine bl_drewN ?_) | (with_reducible refine bl_drew ?_) | (with_reducible refine bl_step (by assumption) ?_))) : Below wr.heap.size wr w9) HO.out)
      have h9 : Below V0.heap.size V0 w9 := bl_step (by (repeat (first | (with_reducible exact Below.refl _ _) | (with_reducible refine Below.setCell ?_ (by (first | (simp; done) | (simp; omega) | omega)) _) | (with_reducible refine bl_alloc ?_ _) | (with_reducible refine bl_drewN ?_) | (with_reducible refine bl_drew ?_) | (with_reducible refine bl_step (by assumption) ?_)))) HV.out
      clear hcell hfroz hz ok1 ok2 fl69 HO c0 c1 okW hV HV
      go_loopw [24, 193] (fun ov iv wv => ∃ k : Nat, iv = .int .i64 k ∧ k ≤ n ∧ wv.ownsRow w9.heap.size 3 1 ov k (outL (fun i => p i - (s i * x + d i * y) / 8192) k) ∧ Below w9.heap.size w9 wv) (fun _ iv _ => 40 - (intOf iv).toNat)
      case atStart => exact ⟨0, rfl, Nat.zero_le _, World.ownsRow_nil _ _ _ _, by (repeat (first | (with_reducible exact Below.refl _ _) | (with_reducible refine Below.setCell ?_ (by (first | (simp; done) | (simp; omega) | omega)) _) | (with_reducible refine bl_alloc ?_ _) | (with_reducible refine bl_drewN ?_) | (with_reducible refine bl_drew ?_) | (with_reducible refine bl_step (by assumption) ?_)))⟩
      case round =>
        obtain ⟨k, rfl, hk, hown, hX⟩ := hrel
        have hzX := hX.size
        have lg9 : gb < w9.heap.size := (HO9.out.lt gb rfl).2
        by_cases hkn : k < n
        · have q5 : decide (k < n) = true := by simp; omega
          have gt := rws_get s d p hkn
          have rc0 : wr.cell? ⟨gb, k * 3, none⟩ = some (.int .i64 (s k)) := cell_later hX ((HO9.out.cellAt (k * 3) (by omega)).trans gt.1)
          have rc1 : wr.cell? ⟨gb, k * 3 + 1, none⟩ = some (.int .i64 (d k)) := cell_later hX ((HO9.out.cellAt (k * 3 + 1) (by omega)).trans gt.2.1)
          have rc2 : wr.cell? ⟨gb, k * 3 + 2, none⟩ = some (.int .i64 (p k)) := cell_later hX ((HO9.out.cellAt (k * 3 + 2) (by omega)).trans gt.2.2)
          have lgr : gb < wr.heap.size := by omega
          have hne : some wr.heap.size ≠ u24.ownBlock := fun e => by have := (hown.lt _ e.symm).2; omega
          clear gt
          go_wp2
          refine name_below ?_
          intro w' hb
          (try replace hb := below_undrew hb); (try replace hb := below_undrewN hb); obtain ⟨hcell, hfroz⟩ := bcell hb; have hz := hb.size; (try simp at hz); (try (have z6 := Nat.lt_of_lt_of_le z7 hz)); (try (have z7 := Nat.lt_of_lt_of_le z8 hz)); (try (have z8 := Nat.lt_of_lt_of_le z9 hz)); (try (have z9 := Nat.lt_of_lt_of_le (Nat.lt_succ_self _) hz)); (try (have z0 : w.heap.size < w'.heap.size := by omega)); (try (have z1 : w.heap.size + 1 < w'.heap.size := by omega)); (try (have z2 : w.heap.size + 1 + 1 < w'.heap.size := by omega)); (try (have z3 : w.heap.size + 1 + 1 + 1 < w'.heap.size := by omega)); (try (have y1 : w1.heap.size < w'.heap.size := by omega)); (try (have y2 : w2.heap.size < w'.heap.size := by omega)); (try (have y3 : w3.heap.size < w'.heap.size := by omega)); (try (have y4 : w4.heap.size < w'.heap.size := by omega)); (try (have y5 : w5.heap.size < w'.heap.size := by omega)); (try (have y6 : w6.heap.size < w'.heap.size := by omega)); (try (have x1 : w1.heap.size + 1 < w'.heap.size := by omega)); (try (have x2 : w2.heap.size + 1 < w'.heap.size := by omega)); (try (have x3 : w3.heap.size + 1 < w'.heap.size := by omega)); (try (have x4 : w4.heap.size + 1 < w'.heap.size := by omega)); (try (have x5 : w5.heap.size + 1 < w'.heap.size := by omega)); (try (have x6 : w6.heap.size + 1 < w'.heap.size := by omega)); (try (have y7 : w7.heap.size < w'.heap.size := by omega)); (try (have y8 : w8.heap.size < w'.heap.size := by omega)); (try (have y9 : w9.heap.size < w'.heap.size := by omega)); (try (have z10 : w1.heap.size < w'.heap.size + 1 := by omega)); (try (have z20 : w2.heap.size < w'.heap.size + 1 := by omega)); (try (have z30 : w3.heap.size < w'.heap.size + 1 := by omega)); (try (have z40 : w4.heap.size < w'.heap.size + 1 := by omega)); (try (have z50 : w5.heap.size < w'.heap.size + 1 := by omega)); (try (have z60 : w6.heap.size < w'.heap.size + 1 := by omega)); (try (have z70 : w7.heap.size < w'.heap.size + 1 := by omega)); (try (have z80 : w8.heap.size < w'.heap.size + 1 := by omega))
          have hu : Below wr.heap.size wr w' := by (repeat (first | exact Below.refl _ _ | refine bl_drewN ?_ | refine bl_drew ?_ | refine bl_alloc ?_ _ | refine Below.setCell ?_ (by (first | (simp; done) | (simp; omega) | omega)) _ | refine bl_step (by assumption) ?_))
          have r0 : w'.cell? ⟨wr.heap.size, 0, none⟩ = some (.int .i64 (s k)) := by simp [go_sem, *]
          have r1 : w'.cell? ⟨wr.heap.size, 1, none⟩ = some (.int .i64 (d k)) := by simp [go_sem, *]
          have r2 : w'.cell? ⟨wr.heap.size, 2, none⟩ = some (.int .i64 (p k)) := by simp [go_sem, *]
          clear hcell hfroz hz
          obtain ⟨T1, rfl⟩ : ∃ v, v = w' := ⟨_, rfl⟩
          have hb9 : Below w9.heap.size w9 T1 := bl_step hu hX
          replace hown := ownsRow_later hu hown
          clear hu
          obtain ⟨⟨z0, z1⟩, ⟨z2, z3⟩, z4, z5⟩ := BR.out k hkn
          have FK := hidden (FR.out k hkn)
          have wm1 : IntKind.i64.wrap (s k * x) = s k * x := by rw [IntKind.wrap_i64]; omega
          have wm2 : IntKind.i64.wrap (d k * y) = d k * y := by rw [IntKind.wrap_i64]; omega
          have wm3 : IntKind.i64.wrap (s k * x + d k * y) = s k * x + d k * y := by rw [IntKind.wrap_i64]; omega
          have wm4 : IntKind.i64.wrap (p k - (s k * x + d k * y) / 8192) = p k - (s k * x + d k * y) / 8192 := by rw [IntKind.wrap_i64]; omega
          refine wp_region_inv (fun a0 LL aa X1 => ∃ (l0 l1 l2 l3 l4 l5 l6 l7 l8 l9 l10 l11 l12 l13 l14 l15 l16 : Bool) (F1_ : Nat) (vN1 : Value), LL = #[l0, l1, l2, l3, l4, l5, l6, l7, l8, l9, l10, l11, l12, l13, l14, l15, l16] ∧ aa = { a0 with tmps := (((((((((((((((((a0.tmps.setIfInBounds 197 (cond l0 (u24) (u197))).setIfInBounds 198 (cond l1 (.pointer (some ⟨wr.heap.size, 2, none⟩)) (u198))).setIfInBounds 199 (cond l2 (.int .i64 (p k)) (u199))).setIfInBounds 200 (cond l3 (.pointer (some ⟨wr.heap.size, 0, none⟩)) (u200))).setIfInBounds 201 (cond l4 (.int .i64 (s k)) (u201))).setIfInBounds 202 (cond l5 (.int .i64 (x)) (u202))).setIfInBounds 203 (cond l6 (.int .i64 (s k * x)) (u203))).setIfInBounds 204 (cond l7 (.pointer (some ⟨wr.heap.size, 1, none⟩)) (u204))).setIfInBounds 205 (cond l8 (.int .i64 (d k)) (u205))).setIfInBounds 206 (cond l9 (.int .i64 (y)) (u206))).setIfInBounds 207 (cond l10 (.int .i64 (d k * y)) (u207))).setIfInBounds 208 (cond l11 (.int .i64 (s k * x + d k * y)) (u208))).setIfInBounds 209 (cond l12 (.int .i64 ((s k * x + d k * y) / 8192)) (u209))).setIfInBounds 210 (cond l13 (.int .i64 (p k - (s k * x + d k * y) / 8192)) (u210))).setIfInBounds 211 (cond l14 (.slice (some ⟨F1_, 0, none⟩) 1 1) (u211))).setIfInBounds 212 (cond l15 (vN1) (u212))).setIfInBounds 24 (cond l16 (vN1) (u24))) } ∧ Below w9.heap.size w9 X1 ∧ Kept T1 X1 (u24 : Value).ownBlock ∧ (l15 = true → l0 = true) ∧ (l15 = true → l14 = true) ∧ (l16 = true → l15 = true) ∧ (l14 = true → l15 = false → X1.cell? ⟨F1_, 0, none⟩ = some (.int .i64 (p k - (s k * x + d k * y) / 8192))) ∧ (l15 = false → X1.ownsRow w9.heap.size 3 1 (u24) k (outL (fun i => p i - (s i * x + d i * y) / 8192) k)) ∧ (l15 = true → X1.ownsRow w9.heap.size 3 1 vN1 (k + 1) ((outL (fun i => p i - (s i * x + d i * y) / 8192) k) ++ [.int .i64 (p k - (s k * x + d k * y) / 8192)]))) (by kernel_rfl) (by kernel_rfl) ?h0 ?hsize ?hdone ?hstep
          case h0 =>
            refine ⟨false, false, false, false, false, false, false, false, false, false, false, false, false, false, false, false, false, 0, .bool false, rfl, ?_, by (repeat (first | exact Below.refl _ _ | refine bl_drewN ?_ | refine bl_drew ?_ | refine bl_alloc ?_ _ | refine Below.setCell ?_ (by (first | (simp; done) | (simp; omega) | omega)) _ | refine bl_step (by assumption) ?_)), Kept.below (by (repeat (first | exact Below.refl _ _ | refine bl_drewN ?_ | refine bl_drew ?_ | refine bl_alloc ?_ _ | refine Below.setCell ?_ (by (first | (simp; done) | (simp; omega) | omega)) _ | refine bl_step (by assumption) ?_))) (Kept.refl _ _), (fun h => by cases h), (fun h => by cases h), (fun h => by cases h), (fun h => by cases h), (fun _ => ownsRow_later (by (repeat (first | exact Below.refl _ _ | refine bl_drewN ?_ | refine bl_drew ?_ | refine bl_alloc ?_ _ | refine Below.setCell ?_ (by (first | (simp; done) | (simp; omega) | omega)) _ | refine bl_step (by assumption) ?_))) hown), (fun h => by cases h)⟩
            simp only [cond_false, List.setIfInBounds_toArray, List.set_cons_zero, List.set_cons_succ]
          case hsize =>
            intro LL aa X1 h
            obtain ⟨l0, l1, l2, l3, l4, l5, l6, l7, l8, l9, l10, l11, l12, l13, l14, l15, l16, F1_, vN1, hL, _⟩ := h
            rw [hL]
            rfl
          case hstep =>
            intro LL aa X1 h
            obtain ⟨l0, l1, l2, l3, l4, l5, l6, l7, l8, l9, l10, l11, l12, l13, l14, l15, l16, F1_, vN1, hL, ha, hb0, hk, q3, q1, q2, he, ho0, ho1⟩ := h
            simp only [List.setIfInBounds_toArray, List.set_cons_zero, List.set_cons_succ] at ha
            subst hL
            subst ha
            refine ⟨?s0, ?s1, ?s2, ?s3, ?s4, ?s5, ?s6, ?s7, ?s8, ?s9, ?s10, ?s11, ?s12, ?s13, ?s14, ?s15, ?s16, trivial⟩
            case s0 =>
              intro ff gg KK hK
              have f0 : l0 = false := ff
              clear ff gg
              subst f0
              have f1 : l15 = false := by cases hl : l15; rfl; exact absurd (q3 hl) (by simp)
              subst f1
              have f2 : l16 = false := by cases hl : l16; rfl; exact absurd (q2 hl) (by simp)
              subst f2
              simp only [cond_false]
              go_simp
              exact hK _ _ ⟨true, l1, l2, l3, l4, l5, l6, l7, l8, l9, l10, l11, l12, l13, l14, false, false, F1_, vN1, rfl, (by simp only [cond_true, cond_false, List.setIfInBounds_toArray, List.set_cons_zero, List.set_cons_succ]), hb0, hk, (fun _ => rfl), q1, q2, he, ho0, ho1⟩
            case s1 =>
              intro ff gg KK hK
              have f0 : l1 = false := ff
              clear ff gg
              subst f0
              simp only [cond_false]
              go_simp
              exact hK _ _ ⟨l0, true, l2, l3, l4, l5, l6, l7, l8, l9, l10, l11, l12, l13, l14, l15, l16, F1_, vN1, rfl, (by simp only [cond_true, List.setIfInBounds_toArray, List.set_cons_zero, List.set_cons_succ]), hb0, hk, q3, q1, q2, he, ho0, ho1⟩
            case s2 =>
              intro ff gg KK hK
              have t1 : l1 = true := gg ⟨1, .data⟩ (by simp) (by rfl)
              have f0 : l2 = false := ff
              clear ff gg
              subst t1
              subst f0
              simp only [cond_true, cond_false]
              have j0 := hk.cell hne r2
              go_simp
              exact hK _ _ ⟨l0, true, true, l3, l4, l5, l6, l7, l8, l9, l10, l11, l12, l13, l14, l15, l16, F1_, vN1, rfl, (by simp only [cond_true, List.setIfInBounds_toArray, List.set_cons_zero, List.set_cons_succ]), hb0, hk, q3, q1, q2, he, ho0, ho1⟩
            case s3 =>
              intro ff gg KK hK
              have f0 : l3 = false := ff
              clear ff gg
              subst f0
              simp only [cond_false]
              go_simp
              exact hK _ _ ⟨l0, l1, l2, true, l4, l5, l6, l7, l8, l9, l10, l11, l12, l13, l14, l15, l16, F1_, vN1, rfl, (by simp only [cond_true, List.setIfInBounds_toArray, List.set_cons_zero, List.set_cons_succ]), hb0, hk, q3, q1, q2, he, ho0, ho1⟩
            case s4 =>
              intro ff gg KK hK
              have t3 : l3 = true := gg ⟨3, .data⟩ (by simp) (by rfl)
              have f0 : l4 = false := ff
              clear ff gg
              subst t3
              subst f0
              simp only [cond_true, cond_false]
              have j0 := hk.cell hne r0
              go_simp
              exact hK _ _ ⟨l0, l1, l2, true, true, l5, l6, l7, l8, l9, l10, l11, l12, l13, l14, l15, l16, F1_, vN1, rfl, (by simp only [cond_true, List.setIfInBounds_toArray, List.set_cons_zero, List.set_cons_succ]), hb0, hk, q3, q1, q2, he, ho0, ho1⟩
            case s5 =>
              intro ff gg KK hK
              have f0 : l5 = false := ff
              clear ff gg
              subst f0
              simp only [cond_false]
              go_simp
              exact hK _ _ ⟨l0, l1, l2, l3, l4, true, l6, l7, l8, l9, l10, l11, l12, l13, l14, l15, l16, F1_, vN1, rfl, (by simp only [cond_true, List.setIfInBounds_toArray, List.set_cons_zero, List.set_cons_succ]), hb0, hk, q3, q1, q2, he, ho0, ho1⟩
            case s6 =>
              intro ff gg KK hK
              have t4 : l4 = true := gg ⟨4, .data⟩ (by simp) (by rfl)
              have t5 : l5 = true := gg ⟨5, .data⟩ (by simp) (by rfl)
              have f0 : l6 = false := ff
              clear ff gg
              subst t4 t5
              subst f0
              simp only [cond_true, cond_false]
              go_simp
              exact hK _ _ ⟨l0, l1, l2, l3, true, true, true, l7, l8, l9, l10, l11, l12, l13, l14, l15, l16, F1_, vN1, rfl, (by first | (simp only [cond_true, List.setIfInBounds_toArray, List.set_cons_zero, List.set_cons_succ]; done) | (simp only [wm1, wm2, wm3, wm4, cond_true, cond_false, List.setIfInBounds_toArray, List.set_cons_zero, List.set_cons_succ]; done) | (simp [cond_true, List.setIfInBounds_toArray, List.set_cons_zero, List.set_cons_succ, IntKind.wrap_i64]; done) | (simp [cond_true, List.setIfInBounds_toArray, List.set_cons_zero, List.set_cons_succ]; decide)), hb0, hk, q3, q1, q2, he, ho0, ho1⟩
            case s7 =>
              intro ff gg KK hK
              have f0 : l7 = false := ff
              clear ff gg
              subst f0
              simp only [cond_false]
              go_simp
              exact hK _ _ ⟨l0, l1, l2, l3, l4, l5, l6, true, l8, l9, l10, l11, l12, l13, l14, l15, l16, F1_, vN1, rfl, (by simp only [cond_true, List.setIfInBounds_toArray, List.set_cons_zero, List.set_cons_succ]), hb0, hk, q3, q1, q2, he, ho0, ho1⟩
            case s8 =>
              intro ff gg KK hK
              have t7 : l7 = true := gg ⟨7, .data⟩ (by simp) (by rfl)
              have f0 : l8 = false := ff
              clear ff gg
              subst t7
              subst f0
              simp only [cond_true, cond_false]
              have j0 := hk.cell hne r1
              go_simp
              exact hK _ _ ⟨l0, l1, l2, l3, l4, l5, l6, true, true, l9, l10, l11, l12, l13, l14, l15, l16, F1_, vN1, rfl, (by simp only [cond_true, List.setIfInBounds_toArray, List.set_cons_zero, List.set_cons_succ]), hb0, hk, q3, q1, q2, he, ho0, ho1⟩
            case s9 =>
              intro ff gg KK hK
              have f0 : l9 = false := ff
              clear ff gg
              subst f0
              simp only [cond_false]
              go_simp
              exact hK _ _ ⟨l0, l1, l2, l3, l4, l5, l6, l7, l8, true, l10, l11, l12, l13, l14, l15, l16, F1_, vN1, rfl, (by simp only [cond_true, List.setIfInBounds_toArray, List.set_cons_zero, List.set_cons_succ]), hb0, hk, q3, q1, q2, he, ho0, ho1⟩
            case s10 =>
              intro ff gg KK hK
              have t8 : l8 = true := gg ⟨8, .data⟩ (by simp) (by rfl)
              have t9 : l9 = true := gg ⟨9, .data⟩ (by simp) (by rfl)
              have f0 : l10 = false := ff
              clear ff gg
              subst t8 t9
              subst f0
              simp only [cond_true, cond_false]
              go_simp
              exact hK _ _ ⟨l0, l1, l2, l3, l4, l5, l6, l7, true, true, true, l11, l12, l13, l14, l15, l16, F1_, vN1, rfl, (by first | (simp only [cond_true, List.setIfInBounds_toArray, List.set_cons_zero, List.set_cons_succ]; done) | (simp only [wm1, wm2, wm3, wm4, cond_true, cond_false, List.setIfInBounds_toArray, List.set_cons_zero, List.set_cons_succ]; done) | (simp [cond_true, List.setIfInBounds_toArray, List.set_cons_zero, List.set_cons_succ, IntKind.wrap_i64]; done) | (simp [cond_true, List.setIfInBounds_toArray, List.set_cons_zero, List.set_cons_succ]; decide)), hb0, hk, q3, q1, q2, he, ho0, ho1⟩
            case s11 =>
              intro ff gg KK hK
              have t6 : l6 = true := gg ⟨6, .data⟩ (by simp) (by rfl)
              have t10 : l10 = true := gg ⟨10, .data⟩ (by simp) (by rfl)
              have f0 : l11 = false := ff
              clear ff gg
              subst t6 t10
              subst f0
              simp only [cond_true, cond_false]
              go_simp
              exact hK _ _ ⟨l0, l1, l2, l3, l4, l5, true, l7, l8, l9, true, true, l12, l13, l14, l15, l16, F1_, vN1, rfl, (by first | (simp only [cond_true, List.setIfInBounds_toArray, List.set_cons_zero, List.set_cons_succ]; done) | (simp only [wm1, wm2, wm3, wm4, cond_true, cond_false, List.setIfInBounds_toArray, List.set_cons_zero, List.set_cons_succ]; done) | (simp [cond_true, List.setIfInBounds_toArray, List.set_cons_zero, List.set_cons_succ, IntKind.wrap_i64]; done) | (simp [cond_true, List.setIfInBounds_toArray, List.set_cons_zero, List.set_cons_succ]; decide)), hb0, hk, q3, q1, q2, he, ho0, ho1⟩
            case s12 =>
              intro ff gg KK hK
              have t11 : l11 = true := gg ⟨11, .data⟩ (by simp) (by rfl)
              have f0 : l12 = false := ff
              clear ff gg
              subst t11
              subst f0
              simp only [cond_true, cond_false]
              go_simp
              go_at_call 40
              with_reducible refine (FK.out _).mono ?_
              rintro e w' ⟨rfl, rfl⟩
              exact hK _ _ ⟨l0, l1, l2, l3, l4, l5, l6, l7, l8, l9, l10, true, true, l13, l14, l15, l16, F1_, vN1, rfl, (by simp only [cond_true, List.setIfInBounds_toArray, List.set_cons_zero, List.set_cons_succ]), hb0, hk, q3, q1, q2, he, ho0, ho1⟩
            case s13 =>
              intro ff gg KK hK
              have t2 : l2 = true := gg ⟨2, .data⟩ (by simp) (by rfl)
              have t12 : l12 = true := gg ⟨12, .data⟩ (by simp) (by rfl)
              have f0 : l13 = false := ff
              clear ff gg
              subst t2 t12
              subst f0
              simp only [cond_true, cond_false]
              go_simp
              exact hK _ _ ⟨l0, l1, true, l3, l4, l5, l6, l7, l8, l9, l10, l11, true, true, l14, l15, l16, F1_, vN1, rfl, (by first | (simp only [cond_true, List.setIfInBounds_toArray, List.set_cons_zero, List.set_cons_succ]; done) | (simp only [wm1, wm2, wm3, wm4, cond_true, cond_false, List.setIfInBounds_toArray, List.set_cons_zero, List.set_cons_succ]; done) | (simp [cond_true, List.setIfInBounds_toArray, List.set_cons_zero, List.set_cons_succ, IntKind.wrap_i64]; done) | (simp [cond_true, List.setIfInBounds_toArray, List.set_cons_zero, List.set_cons_succ]; decide)), hb0, hk, q3, q1, q2, he, ho0, ho1⟩
            case s14 =>
              intro ff gg KK hK
              have t13 : l13 = true := gg ⟨13, .data⟩ (by simp) (by rfl)
              have f0 : l14 = false := ff
              clear ff gg
              subst t13
              subst f0
              have f1 : l15 = false := by cases hl : l15; rfl; exact absurd (q1 hl) (by simp)
              subst f1
              simp only [cond_true, cond_false]
              go_simp
              have hb : Below X1.heap.size X1 (X1.alloc (Obj.cells #[.int .i64 (p k - (s k * x + d k * y) / 8192)] 3)) := by (repeat (first | exact Below.refl _ _ | refine bl_drewN ?_ | refine bl_drew ?_ | refine bl_alloc ?_ _ | refine Below.setCell ?_ (by (first | (simp; done) | (simp; omega) | omega)) _ | refine bl_step (by assumption) ?_))
              exact hK _ _ ⟨l0, l1, l2, l3, l4, l5, l6, l7, l8, l9, l10, l11, l12, true, true, false, l16, X1.heap.size, vN1, rfl, (by simp only [cond_true, cond_false, List.setIfInBounds_toArray, List.set_cons_zero, List.set_cons_succ]), bl_alloc hb0 _, Kept.below hb hk, (fun h => by cases h), (fun h => by cases h), q2, (fun _ _ => by simp [go_sem]), (fun _ => ownsRow_later hb (ho0 rfl)), (fun h => by cases h)⟩
            case s15 =>
              intro ff gg KK hK
              have t0 : l0 = true := gg ⟨0, .data⟩ (by simp) (by rfl)
              have t14 : l14 = true := gg ⟨14, .data⟩ (by simp) (by rfl)
              have t12 : l12 = true := gg ⟨12, .chain⟩ (by simp) (by rfl)
              have f0 : l15 = false := ff
              clear ff gg
              subst t0 t14 t12
              subst f0
              have f1 : l16 = false := by cases hl : l16; rfl; exact absurd (q2 hl) (by simp)
              subst f1
              simp only [cond_true, cond_false]
              rw [if_pos (by rfl)]
              apply step_append_own (s := .tmp 197) (x := .tmp 211) (t := 44) (base := w9.heap.size) (e := 3) (i := i1) (z := .int .i64 0) (size := 1) (bytes := 8) (v := u24) (n := k) (xs := (outL (fun i => p i - (s i * x + d i * y) / 8192) k)) (ad := ⟨F1_, 0, none⟩) (m := 1) (c := 1) (news := [.int .i64 (p k - (s k * x + d k * y) / 8192)])
              case ho => rfl
              case ht => exact Try.underlying44
              case hi => exact hj
              case hz => exact hj0
              case hsize => exact hj1
              case hby => exact hj2
              case hzs => rfl
              case hsz => decide
              case hs => rfl
              case hown => exact ho0 rfl
              case hx => rfl
              case hl => rfl
              case hnews => exact newsAt (he rfl rfl)
              case h1 => exact one1 _
              case h63 => (unfold maxLen; omega)
              case hbytes => omega
              case hbase => exact hb0.size
              intro vx w' hn hg
              exact hK _ _ ⟨true, l1, l2, l3, l4, l5, l6, l7, l8, l9, l10, l11, true, l13, true, true, false, F1_, vx, rfl, (by simp only [Act.put, cond_true, cond_false, List.setIfInBounds_toArray, List.set_cons_zero, List.set_cons_succ]), Below.grown hb0 hg hb0.size (fun k hk => ((ho0 rfl).lt k hk).1), Kept.grown hg hk, (fun _ => rfl), (fun _ => rfl), (fun h => by cases h), (fun _ h => by cases h), (fun h => by cases h), (fun _ => hn)⟩
            case s16 =>
              intro ff gg KK hK
              have t15 : l15 = true := gg ⟨15, .data⟩ (by simp) (by rfl)
              have f0 : l16 = false := ff
              clear ff gg
              subst t15
              subst f0
              have f1 : l0 = true := q3 rfl
              subst f1
              have f2 : l14 = true := q1 rfl
              subst f2
              simp only [cond_true, cond_false]
              go_simp
              exact hK _ _ ⟨true, l1, l2, l3, l4, l5, l6, l7, l8, l9, l10, l11, l12, l13, true, true, true, F1_, vN1, rfl, (by simp only [cond_true, List.setIfInBounds_toArray, List.set_cons_zero, List.set_cons_succ]), hb0, hk, q3, q1, (fun _ => rfl), he, ho0, ho1⟩
          case hdone =>
            intro LL aa X1 h hd
            obtain ⟨l0, l1, l2, l3, l4, l5, l6, l7, l8, l9, l10, l11, l12, l13, l14, l15, l16, F1_, vN1, hL, ha, hb0, hk, q3, q1, q2, he, ho0, ho1⟩ := h
            rw [hL] at hd
            have t0 : l0 = true := hd 0 (by decide)
            have t1 : l1 = true := hd 1 (by decide)
            have t2 : l2 = true := hd 2 (by decide)
            have t3 : l3 = true := hd 3 (by decide)
            have t4 : l4 = true := hd 4 (by decide)
            have t5 : l5 = true := hd 5 (by decide)
            have t6 : l6 = true := hd 6 (by decide)
            have t7 : l7 = true := hd 7 (by decide)
            have t8 : l8 = true := hd 8 (by decide)
            have t9 : l9 = true := hd 9 (by decide)
            have t10 : l10 = true := hd 10 (by decide)
            have t11 : l11 = true := hd 11 (by decide)
            have t12 : l12 = true := hd 12 (by decide)
            have t13 : l13 = true := hd 13 (by decide)
            have t14 : l14 = true := hd 14 (by decide)
            have t15 : l15 = true := hd 15 (by decide)
            have t16 : l16 = true := hd 16 (by decide)
            clear hd hL q1 q2 he ho0
            subst t0 t1 t2 t3 t4 t5 t6 t7 t8 t9 t10 t11 t12 t13 t14 t15 t16
            simp only [cond_true, List.setIfInBounds_toArray, List.set_cons_zero, List.set_cons_succ] at ha
            subst ha
            replace hown := ho1 rfl
            clear ho1 hk
            go_wp2
            exact ⟨⟨k + 1, by go_num, by omega, hown, hb0⟩, by simp [intOf]; omega⟩
        · have q5 : decide (k < n) = false := by simp; omega
          have e : n = k := by omega
          subst e
          rcases hown.2 with ⟨_, hn0⟩ | ⟨g2_, cap2, cur2, rfl, hg2, _⟩
          · omega
          have Y := hidden (fun i (hi : i < n) => (hown.cellAt i (by omega : i < n * 1)).trans (outL_get (fun i => p i - (s i * x + d i * y) / 8192) hi))
          have e9 := h9.size
          have lr : w.heap.size < V0.heap.size := World.block_lt_of_cell? _ _ cr0
          have hV2 : Below V0.heap.size V0 wr := bl_step hX h9
          have p1 : wr.cell? ⟨B, 1, none⟩ = some (.int .i64 (f 0 1)) := by have := cell_later hV2 (HL.out 0 1 (by omega) (by omega)); simpa using this
          have q0 := cell_later hV2 cr0
          have q1 := cell_later hV2 cr1
          have cf : ∀ o, wr.frozen? ⟨w.heap.size, o, none⟩ = false := fun o => (hV2.frozen (p := ⟨w.heap.size, o, none⟩) lr).trans (cg o)
          have hwX : Below w.heap.size w wr := bl_step hV2 hw
          have nB : B ≠ w.heap.size := by omega
          have ng : g2_ ≠ w.heap.size := by have := (hown.lt g2_ rfl).1; omega
          have lB : B < wr.heap.size := World.block_lt_of_cell? _ _ p1
          have lg2 : g2_ < wr.heap.size := (hown.lt g2_ rfl).2
          have lw : w.heap.size < wr.heap.size := World.block_lt_of_cell? _ _ q0
          clear hown hV2 hX
          go_wp2
          have wn1 : IntKind.i64.wrap (x * 1073741824) = x * 1073741824 := by rw [IntKind.wrap_i64]; omega
          have wn2 : IntKind.i64.wrap (f 0 1 + F1) = f 0 1 + F1 := by rw [IntKind.wrap_i64]; omega
          refine wp_region_inv (fun a0 LL aa vv => ∃ (l0 l1 l2 l3 l4 l5 l6 l7 l8 l9 l10 l11 l12 l13 l14 l15 l16 : Bool) (uu : World), LL = #[l0, l1, l2, l3, l4, l5, l6, l7, l8, l9, l10, l11, l12, l13, l14, l15, l16] ∧ aa = { a0 with tmps := (((a0.tmps.toList.set 3 (cond l15 (.slice (some ⟨g2_, 0, none⟩) n cap2) (.slice none 0 0))).set 4 (.int .i64 0)).take 214 ++ ([cond l0 (.int .i64 (f 0 0 + y)) (undef), cond l1 (.slice (some ⟨B, 0, none⟩) n c) (undef), cond l2 (.pointer (some ⟨B, 0, none⟩)) (undef), cond l3 (.pointer (some ⟨B, 0, none⟩)) (undef), cond l4 (.pointer (some ⟨B, 1, none⟩)) (undef), cond l5 (.int .i64 (f 0 1)) (undef), cond l6 (.int .i64 (x)) (undef), cond l7 (.int .i64 (x * 1073741824)) (undef), cond l8 (.int .i64 (K1)) (undef), cond l9 (.int .i64 (F1)) (undef), cond l10 (.int .i64 (f 0 1 + F1)) (undef), cond l11 (.int .i64 (F2)) (undef), cond l12 (.agg #[.int .i64 (f 0 0 + y), .int .i64 (F2)]) (undef), cond l13 (.slice (some ⟨g2_, 0, none⟩) n cap2) (undef)] ++ a0.tmps.toList.drop 228)).toArray } ∧ (l14 = true → l0 = true ∧ l1 = true ∧ l2 = true ∧ l3 = true ∧ l4 = true ∧ l5 = true ∧ l6 = true ∧ l7 = true ∧ l8 = true ∧ l9 = true ∧ l10 = true ∧ l11 = true ∧ l12 = true) ∧ Below wr.heap.size wr uu ∧ vv = cond l14 ((uu.setCell ⟨w.heap.size, 0, none⟩ (.int .i64 (f 0 0 + y))).setCell ⟨w.heap.size, 1, none⟩ (.int .i64 (F2))) uu) (by kernel_rfl) (by kernel_rfl) ?h0 ?hsize ?hdone ?hstep
          case h0 =>
            refine ⟨false, false, false, false, false, false, false, false, false, false, false, false, false, false, false, false, false, _, rfl, ?_, (fun h => by cases h), by (repeat (first | exact Below.refl _ _ | refine bl_drewN ?_ | refine bl_drew ?_ | refine bl_alloc ?_ _ | refine Below.setCell ?_ (by (first | (simp; done) | (simp; omega) | omega)) _ | refine bl_step (by assumption) ?_)), rfl⟩
            kernel_rfl
          case hsize =>
            intro LL aa vv h
            obtain ⟨l0, h⟩ := h
            obtain ⟨l1, h⟩ := h
            obtain ⟨l2, h⟩ := h
            obtain ⟨l3, h⟩ := h
            obtain ⟨l4, h⟩ := h
            obtain ⟨l5, h⟩ := h
            obtain ⟨l6, h⟩ := h
            obtain ⟨l7, h⟩ := h
            obtain ⟨l8, h⟩ := h
            obtain ⟨l9, h⟩ := h
            obtain ⟨l10, h⟩ := h
            obtain ⟨l11, h⟩ := h
            obtain ⟨l12, h⟩ := h
            obtain ⟨l13, h⟩ := h
            obtain ⟨l14, h⟩ := h
            obtain ⟨l15, h⟩ := h
            obtain ⟨l16, h⟩ := h
            obtain ⟨uu, h⟩ := h
            obtain ⟨hL, _⟩ := h
            rw [hL]
            rfl
          case hstep =>
            intro LL aa vv h
            obtain ⟨l0, h⟩ := h
            obtain ⟨l1, h⟩ := h
            obtain ⟨l2, h⟩ := h
            obtain ⟨l3, h⟩ := h
            obtain ⟨l4, h⟩ := h
            obtain ⟨l5, h⟩ := h
            obtain ⟨l6, h⟩ := h
            obtain ⟨l7, h⟩ := h
            obtain ⟨l8, h⟩ := h
            obtain ⟨l9, h⟩ := h
            obtain ⟨l10, h⟩ := h
            obtain ⟨l11, h⟩ := h
            obtain ⟨l12, h⟩ := h
            obtain ⟨l13, h⟩ := h
            obtain ⟨l14, h⟩ := h
            obtain ⟨l15, h⟩ := h
            obtain ⟨l16, h⟩ := h
            obtain ⟨uu, h⟩ := h
            obtain ⟨hL, h⟩ := h
            obtain ⟨ha, h⟩ := h
            obtain ⟨hall, h⟩ := h
            obtain ⟨hu, hv⟩ := h
            simp only [List.take_succ_cons, List.take_zero, List.cons_append, List.nil_append, List.drop_succ_cons, List.drop_zero, List.set_cons_zero, List.set_cons_succ] at ha
            subst hL
            subst ha
            refine ⟨?s0, ?s1, ?s2, ?s3, ?s4, ?s5, ?s6, ?s7, ?s8, ?s9, ?s10, ?s11, ?s12, ?s13, ?s14, ?s15, ?s16, trivial⟩
            case s0 =>
              intro ff gg KK hK
              have f0 : l0 = false := ff
              cases hl : l14
              case true =>
                have := (hall hl).1
                rw [f0] at this
                cases this
              rw [hl] at hv
              simp only [cond_false] at hv
              subst hv
              clear ff gg
              subst hl
              subst f0
              simp only [cond_false]
              go_simp
              exact hK _ _ ⟨true, l1, l2, l3, l4, l5, l6, l7, l8, l9, l10, l11, l12, l13, false, l15, l16, _, rfl, (by kernel_rfl), (fun h => by cases h), hu, rfl⟩
            case s1 =>
              intro ff gg KK hK
              have f0 : l1 = false := ff
              cases hl : l14
              case true =>
                have := (hall hl).2.1
                rw [f0] at this
                cases this
              rw [hl] at hv
              simp only [cond_false] at hv
              subst hv
              clear ff gg
              subst hl
              subst f0
              simp only [cond_false]
              go_simp
              exact hK _ _ ⟨l0, true, l2, l3, l4, l5, l6, l7, l8, l9, l10, l11, l12, l13, false, l15, l16, _, rfl, (by kernel_rfl), (fun h => by cases h), hu, rfl⟩
            case s2 =>
              intro ff gg KK hK
              have f0 : l2 = false := ff
              cases hl : l14
              case true =>
                have := (hall hl).2.2.1
                rw [f0] at this
                cases this
              rw [hl] at hv
              simp only [cond_false] at hv
              subst hv
              have t1 : l1 = true := gg ⟨1, .data⟩ (by simp) (by rfl)
              clear ff gg
              subst t1
              subst hl
              subst f0
              simp only [cond_true, cond_false]
              go_simp
              exact hK _ _ ⟨l0, true, true, l3, l4, l5, l6, l7, l8, l9, l10, l11, l12, l13, false, l15, l16, _, rfl, (by kernel_rfl), (fun h => by cases h), hu, rfl⟩
            case s3 =>
              intro ff gg KK hK
              have f0 : l3 = false := ff
              cases hl : l14
              case true =>
                have := (hall hl).2.2.2.1
                rw [f0] at this
                cases this
              rw [hl] at hv
              simp only [cond_false] at hv
              subst hv
              have t2 : l2 = true := gg ⟨2, .data⟩ (by simp) (by rfl)
              clear ff gg
              subst t2
              subst hl
              subst f0
              simp only [cond_true, cond_false]
              go_simp
              exact hK _ _ ⟨l0, l1, true, true, l4, l5, l6, l7, l8, l9, l10, l11, l12, l13, false, l15, l16, _, rfl, (by kernel_rfl), (fun h => by cases h), hu, rfl⟩
            case s4 =>
              intro ff gg KK hK
              have f0 : l4 = false := ff
              cases hl : l14
              case true =>
                have := (hall hl).2.2.2.2.1
                rw [f0] at this
                cases this
              rw [hl] at hv
              simp only [cond_false] at hv
              subst hv
              have t3 : l3 = true := gg ⟨3, .data⟩ (by simp) (by rfl)
              clear ff gg
              subst t3
              subst hl
              subst f0
              simp only [cond_true, cond_false]
              go_simp
              exact hK _ _ ⟨l0, l1, l2, true, true, l5, l6, l7, l8, l9, l10, l11, l12, l13, false, l15, l16, _, rfl, (by kernel_rfl), (fun h => by cases h), hu, rfl⟩
            case s5 =>
              intro ff gg KK hK
              have f0 : l5 = false := ff
              cases hl : l14
              case true =>
                have := (hall hl).2.2.2.2.2.1
                rw [f0] at this
                cases this
              rw [hl] at hv
              simp only [cond_false] at hv
              subst hv
              have t4 : l4 = true := gg ⟨4, .data⟩ (by simp) (by rfl)
              clear ff gg
              subst t4
              subst hl
              subst f0
              simp only [cond_true, cond_false]
              have j0 := cell_later hu p1
              go_simp
              exact hK _ _ ⟨l0, l1, l2, l3, true, true, l6, l7, l8, l9, l10, l11, l12, l13, false, l15, l16, _, rfl, (by kernel_rfl), (fun h => by cases h), hu, rfl⟩
            case s6 =>
              intro ff gg KK hK
              have f0 : l6 = false := ff
              cases hl : l14
              case true =>
                have := (hall hl).2.2.2.2.2.2.1
                rw [f0] at this
                cases this
              rw [hl] at hv
              simp only [cond_false] at hv
              subst hv
              clear ff gg
              subst hl
              subst f0
              simp only [cond_false]
              go_simp
              exact hK _ _ ⟨l0, l1, l2, l3, l4, l5, true, l7, l8, l9, l10, l11, l12, l13, false, l15, l16, _, rfl, (by kernel_rfl), (fun h => by cases h), hu, rfl⟩
            case s7 =>
              intro ff gg KK hK
              have f0 : l7 = false := ff
              cases hl : l14
              case true =>
                have := (hall hl).2.2.2.2.2.2.2.1
                rw [f0] at this
                cases this
              rw [hl] at hv
              simp only [cond_false] at hv
              subst hv
              have t6 : l6 = true := gg ⟨6, .data⟩ (by simp) (by rfl)
              clear ff gg
              subst t6
              subst hl
              subst f0
              simp only [cond_true, cond_false]
              go_simp
              exact hK _ _ ⟨l0, l1, l2, l3, l4, l5, true, true, l8, l9, l10, l11, l12, l13, false, l15, l16, _, rfl, (by first | (rw [wn1]; kernel_rfl) | kernel_rfl), (fun h => by cases h), hu, rfl⟩
            case s8 =>
              intro ff gg KK hK
              have f0 : l8 = false := ff
              cases hl : l14
              case true =>
                have := (hall hl).2.2.2.2.2.2.2.2.1
                rw [f0] at this
                cases this
              rw [hl] at hv
              simp only [cond_false] at hv
              subst hv
              clear ff gg
              subst hl
              subst f0
              simp only [cond_false]
              go_simp
              exact hK _ _ ⟨l0, l1, l2, l3, l4, l5, l6, l7, true, l9, l10, l11, l12, l13, false, l15, l16, _, rfl, (by kernel_rfl), (fun h => by cases h), hu, rfl⟩
            case s9 =>
              intro ff gg KK hK
              have f0 : l9 = false := ff
              cases hl : l14
              case true =>
                have := (hall hl).2.2.2.2.2.2.2.2.2.1
                rw [f0] at this
                cases this
              rw [hl] at hv
              simp only [cond_false] at hv
              subst hv
              have t7 : l7 = true := gg ⟨7, .data⟩ (by simp) (by rfl)
              have t8 : l8 = true := gg ⟨8, .data⟩ (by simp) (by rfl)
              clear ff gg
              subst t7 t8
              subst hl
              subst f0
              simp only [cond_true, cond_false]
              go_simp
              go_at_call 40
              with_reducible refine (FL.out _).mono ?_
              rintro e w' ⟨rfl, hb⟩
              exact hK _ _ ⟨l0, l1, l2, l3, l4, l5, l6, true, true, true, l10, l11, l12, l13, false, l15, l16, _, rfl, (by kernel_rfl), (fun h => by cases h), bl_step hb hu, rfl⟩
            case s10 =>
              intro ff gg KK hK
              have f0 : l10 = false := ff
              cases hl : l14
              case true =>
                have := (hall hl).2.2.2.2.2.2.2.2.2.2.1
                rw [f0] at this
                cases this
              rw [hl] at hv
              simp only [cond_false] at hv
              subst hv
              have t5 : l5 = true := gg ⟨5, .data⟩ (by simp) (by rfl)
              have t9 : l9 = true := gg ⟨9, .data⟩ (by simp) (by rfl)
              clear ff gg
              subst t5 t9
              subst hl
              subst f0
              simp only [cond_true, cond_false]
              go_simp
              exact hK _ _ ⟨l0, l1, l2, l3, l4, true, l6, l7, l8, true, true, l11, l12, l13, false, l15, l16, _, rfl, (by first | (rw [wn2]; kernel_rfl) | kernel_rfl), (fun h => by cases h), hu, rfl⟩
            case s11 =>
              intro ff gg KK hK
              have f0 : l11 = false := ff
              cases hl : l14
              case true =>
                have := (hall hl).2.2.2.2.2.2.2.2.2.2.2.1
                rw [f0] at this
                cases this
              rw [hl] at hv
              simp only [cond_false] at hv
              subst hv
              have t10 : l10 = true := gg ⟨10, .data⟩ (by simp) (by rfl)
              have t9 : l9 = true := gg ⟨9, .chain⟩ (by simp) (by rfl)
              clear ff gg
              subst t10 t9
              subst hl
              subst f0
              simp only [cond_true, cond_false]
              go_simp
              go_at_call 42
              with_reducible refine (SG.out _).mono ?_
              rintro e w' ⟨rfl, hb⟩
              exact hK _ _ ⟨l0, l1, l2, l3, l4, l5, l6, l7, l8, true, true, true, l12, l13, false, l15, l16, _, rfl, (by kernel_rfl), (fun h => by cases h), bl_step hb hu, rfl⟩
            case s12 =>
              intro ff gg KK hK
              have f0 : l12 = false := ff
              cases hl : l14
              case true =>
                have := (hall hl).2.2.2.2.2.2.2.2.2.2.2.2
                rw [f0] at this
                cases this
              rw [hl] at hv
              simp only [cond_false] at hv
              subst hv
              have t0 : l0 = true := gg ⟨0, .data⟩ (by simp) (by rfl)
              have t11 : l11 = true := gg ⟨11, .data⟩ (by simp) (by rfl)
              clear ff gg
              subst t0 t11
              subst hl
              subst f0
              simp only [cond_true, cond_false]
              go_simp
              exact hK _ _ ⟨true, l1, l2, l3, l4, l5, l6, l7, l8, l9, l10, true, true, l13, false, l15, l16, _, rfl, (by kernel_rfl), (fun h => by cases h), hu, rfl⟩
            case s13 =>
              intro ff gg KK hK
              have f0 : l13 = false := ff
              clear ff gg
              subst f0
              simp only [cond_false]
              go_simp
              exact hK _ _ ⟨l0, l1, l2, l3, l4, l5, l6, l7, l8, l9, l10, l11, l12, true, l14, l15, l16, _, rfl, (by kernel_rfl), hall, hu, (by first | rfl | exact hv)⟩
            case s14 =>
              intro ff gg KK hK
              have f0 : l14 = false := ff
              have t12 : l12 = true := gg ⟨12, .data⟩ (by simp) (by rfl)
              have t11 : l11 = true := gg ⟨11, .chain⟩ (by simp) (by rfl)
              have t0 : l0 = true := gg ⟨0, .phase⟩ (by simp) (by rfl)
              have t1 : l1 = true := gg ⟨1, .phase⟩ (by simp) (by rfl)
              have t2 : l2 = true := gg ⟨2, .phase⟩ (by simp) (by rfl)
              have t3 : l3 = true := gg ⟨3, .phase⟩ (by simp) (by rfl)
              have t4 : l4 = true := gg ⟨4, .phase⟩ (by simp) (by rfl)
              have t5 : l5 = true := gg ⟨5, .phase⟩ (by simp) (by rfl)
              have t6 : l6 = true := gg ⟨6, .phase⟩ (by simp) (by rfl)
              have t7 : l7 = true := gg ⟨7, .phase⟩ (by simp) (by rfl)
              have t8 : l8 = true := gg ⟨8, .phase⟩ (by simp) (by rfl)
              have t9 : l9 = true := gg ⟨9, .phase⟩ (by simp) (by rfl)
              have t10 : l10 = true := gg ⟨10, .phase⟩ (by simp) (by rfl)
              clear ff gg
              subst t12 t11 t0 t1 t2 t3 t4 t5 t6 t7 t8 t9 t10
              subst f0
              simp only [cond_false] at hv
              subst hv
              simp only [cond_true]
              have q0_ := cell_later hu q0
              have q1_ := cell_later hu q1
              have cf_ : ∀ o, vv.frozen? ⟨w.heap.size, o, none⟩ = false := fun o => (hu.frozen (p := ⟨w.heap.size, o, none⟩) lw).trans (cf o)
              go_simp
              exact hK _ _ ⟨true, true, true, true, true, true, true, true, true, true, true, true, true, l13, true, l15, l16, _, rfl, (by kernel_rfl), (fun _ => ⟨rfl, rfl, rfl, rfl, rfl, rfl, rfl, rfl, rfl, rfl, rfl, rfl, rfl⟩), hu, rfl⟩
            case s15 =>
              intro ff gg KK hK
              have f0 : l15 = false := ff
              have t13 : l13 = true := gg ⟨13, .data⟩ (by simp) (by rfl)
              have t14 : l14 = true := gg ⟨14, .chain⟩ (by simp) (by rfl)
              have t0 : l0 = true := gg ⟨0, .phase⟩ (by simp) (by rfl)
              have t1 : l1 = true := gg ⟨1, .phase⟩ (by simp) (by rfl)
              have t2 : l2 = true := gg ⟨2, .phase⟩ (by simp) (by rfl)
              have t3 : l3 = true := gg ⟨3, .phase⟩ (by simp) (by rfl)
              have t4 : l4 = true := gg ⟨4, .phase⟩ (by simp) (by rfl)
              have t5 : l5 = true := gg ⟨5, .phase⟩ (by simp) (by rfl)
              have t6 : l6 = true := gg ⟨6, .phase⟩ (by simp) (by rfl)
              have t7 : l7 = true := gg ⟨7, .phase⟩ (by simp) (by rfl)
              have t8 : l8 = true := gg ⟨8, .phase⟩ (by simp) (by rfl)
              have t9 : l9 = true := gg ⟨9, .phase⟩ (by simp) (by rfl)
              have t10 : l10 = true := gg ⟨10, .phase⟩ (by simp) (by rfl)
              have t11 : l11 = true := gg ⟨11, .phase⟩ (by simp) (by rfl)
              have t12 : l12 = true := gg ⟨12, .phase⟩ (by simp) (by rfl)
              clear ff gg
              subst t13 t14 t0 t1 t2 t3 t4 t5 t6 t7 t8 t9 t10 t11 t12
              subst f0
              simp only [cond_true] at hv
              subst hv
              simp only [cond_true, cond_false]
              go_simp
              exact hK _ _ ⟨true, true, true, true, true, true, true, true, true, true, true, true, true, true, true, true, l16, _, rfl, (by kernel_rfl), hall, hu, rfl⟩
            case s16 =>
              intro ff gg KK hK
              have f0 : l16 = false := ff
              have t15 : l15 = true := gg ⟨15, .chain⟩ (by simp) (by rfl)
              have t0 : l0 = true := gg ⟨0, .phase⟩ (by simp) (by rfl)
              have t1 : l1 = true := gg ⟨1, .phase⟩ (by simp) (by rfl)
              have t2 : l2 = true := gg ⟨2, .phase⟩ (by simp) (by rfl)
              have t3 : l3 = true := gg ⟨3, .phase⟩ (by simp) (by rfl)
              have t4 : l4 = true := gg ⟨4, .phase⟩ (by simp) (by rfl)
              have t5 : l5 = true := gg ⟨5, .phase⟩ (by simp) (by rfl)
              have t6 : l6 = true := gg ⟨6, .phase⟩ (by simp) (by rfl)
              have t7 : l7 = true := gg ⟨7, .phase⟩ (by simp) (by rfl)
              have t8 : l8 = true := gg ⟨8, .phase⟩ (by simp) (by rfl)
              have t9 : l9 = true := gg ⟨9, .phase⟩ (by simp) (by rfl)
              have t10 : l10 = true := gg ⟨10, .phase⟩ (by simp) (by rfl)
              have t11 : l11 = true := gg ⟨11, .phase⟩ (by simp) (by rfl)
              have t12 : l12 = true := gg ⟨12, .phase⟩ (by simp) (by rfl)
              have t13 : l13 = true := gg ⟨13, .phase⟩ (by simp) (by rfl)
              have t14 : l14 = true := gg ⟨14, .phase⟩ (by simp) (by rfl)
              clear ff gg
              subst t15 t0 t1 t2 t3 t4 t5 t6 t7 t8 t9 t10 t11 t12 t13 t14
              subst f0
              simp only [cond_true] at hv
              subst hv
              simp only [cond_true]
              go_simp
              exact hK _ _ ⟨true, true, true, true, true, true, true, true, true, true, true, true, true, true, true, true, true, _, rfl, (by kernel_rfl), hall, hu, rfl⟩
          case hdone =>
            intro LL aa vv h hd
            obtain ⟨l0, h⟩ := h
            obtain ⟨l1, h⟩ := h
            obtain ⟨l2, h⟩ := h
            obtain ⟨l3, h⟩ := h
            obtain ⟨l4, h⟩ := h
            obtain ⟨l5, h⟩ := h
            obtain ⟨l6, h⟩ := h
            obtain ⟨l7, h⟩ := h
            obtain ⟨l8, h⟩ := h
            obtain ⟨l9, h⟩ := h
            obtain ⟨l10, h⟩ := h
            obtain ⟨l11, h⟩ := h
            obtain ⟨l12, h⟩ := h
            obtain ⟨l13, h⟩ := h
            obtain ⟨l14, h⟩ := h
            obtain ⟨l15, h⟩ := h
            obtain ⟨l16, h⟩ := h
            obtain ⟨uu, h⟩ := h
            obtain ⟨hL, h⟩ := h
            obtain ⟨ha, h⟩ := h
            obtain ⟨hall, h⟩ := h
            obtain ⟨hu, hv⟩ := h
            rw [hL] at hd
            have t0 : l0 = true := hd 0 (by decide)
            have t1 : l1 = true := hd 1 (by decide)
            have t2 : l2 = true := hd 2 (by decide)
            have t3 : l3 = true := hd 3 (by decide)
            have t4 : l4 = true := hd 4 (by decide)
            have t5 : l5 = true := hd 5 (by decide)
            have t6 : l6 = true := hd 6 (by decide)
            have t7 : l7 = true := hd 7 (by decide)
            have t8 : l8 = true := hd 8 (by decide)
            have t9 : l9 = true := hd 9 (by decide)
            have t10 : l10 = true := hd 10 (by decide)
            have t11 : l11 = true := hd 11 (by decide)
            have t12 : l12 = true := hd 12 (by decide)
            have t13 : l13 = true := hd 13 (by decide)
            have t14 : l14 = true := hd 14 (by decide)
            have t15 : l15 = true := hd 15 (by decide)
            have t16 : l16 = true := hd 16 (by decide)
            clear hd hL hall
            subst t0 t1 t2 t3 t4 t5 t6 t7 t8 t9 t10 t11 t12 t13 t14 t15 t16
            simp only [cond_true, List.take_succ_cons, List.take_zero, List.cons_append, List.nil_append, List.drop_succ_cons, List.drop_zero, List.set_cons_zero, List.set_cons_succ] at ha
            simp only [cond_true] at hv
            subst ha
            subst hv
            have hwU : Below w.heap.size w uu := bl_step hu hwX
            have q0u := cell_later hu q0
            have q1u := cell_later hu q1
            go_wp2
            have YU := hidden (fun i (hi : i < n) => cell_later hu (Y.out i hi))
            exact bodyPost_ret (v := .tuple #[.agg #[.int .i64 (f 0 0 + y), .int .i64 F2], .slice (some ⟨g2_, 0, none⟩) n cap2, .int .i64 0]) (by first | (simp only [results, Try.results13]; go_simp; done) | simp [results, Try.results13, go_sem, *]) rfl ⟨⟨g2_, cap2, rfl, fun i hi => by rw [World.cell?_setCell_other _ _ _ _ (fun e => by injection e with e; exact ng e.symm), World.cell?_setCell_other _ _ _ _ (fun e => by injection e with e; exact ng e.symm)]; exact YU.out i hi⟩, by (repeat (first | (with_reducible exact Below.refl _ _) | (with_reducible refine Below.setCell ?_ (by (first | (simp; done) | (simp; omega) | omega)) _) | (with_reducible refine bl_alloc ?_ _) | (with_reducible refine bl_drewN ?_) | (with_reducible refine bl_drew ?_) | (with_reducible refine bl_step (by assumption) ?_)))⟩

end Go.Proofs.Ytjceofmhodcefaa
