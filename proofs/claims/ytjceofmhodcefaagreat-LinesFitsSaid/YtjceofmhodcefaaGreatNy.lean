/- Several small texts in one: XNr, XNs. -/
import Derived.Test.YtjceofmhodcefaaGreatNq
import Derived.Test.YtjceofmhodcefaaGreatRef05
import Derived.Test.YtjceofmhodcefaaGreatLtP
import Derived.Test.YtjceofmhodcefaaGreatNx
import Derived.Test.YtjceofmhodcefaaGreatRf6
namespace Go.Proofs.YtjceofmhodcefaaGreat
open Go.RowKit

theorem rmiddle_any (a b : Int) (w : World) (h0 : -4611686018427387904 ≤ a) (h1 : a ≤ 4611686018427387903) (h2 : -4611686018427387904 ≤ b) (h3 : b ≤ 4611686018427387903) :
    Calls Tryz.prog 22 #[.agg #[.int .i64 (a), .int .i64 (b)]] w fun e w' => e = .returned (.int .i64 ((a + b) / 2)) ∧ Below w.heap.size w w' := by
  have F := hidden fun w => floor5_any (a + b) 2 w (by omega) (by omega) (by omega) (by omega)
  go_enter Tryz.func22, Tryz.ntmps22
  go_wp2_with (go_at_call 27; ((with_reducible refine (F.out _).mono ?_); rintro e w' ⟨rfl, rfl⟩))
  go_ret
  exact ⟨rfl, by (repeat (first | exact Below.refl _ _ | refine bl_drewN ?_ | refine bl_drew ?_ | refine bl_alloc ?_ _ | refine Below.setCell ?_ (by (first | (simp; done) | (simp; omega) | omega)) _ | refine bl_step (by assumption) ?_))⟩
theorem rcoarse_any (a b : Int) (w : World) (h0 : -4611686018427387904 ≤ a) (h1 : a ≤ 4611686018427387903) :
    Calls Tryz.prog 23 #[.agg #[.int .i64 (a), .int .i64 (b)]] w fun e w' => e = .returned (.int .i64 (a / 131072)) ∧ Below w.heap.size w w' := by
  have F := hidden fun w => floor5_any a 131072 w (by omega) (by omega) (by omega) (by omega)
  go_enter Tryz.func23, Tryz.ntmps23
  go_wp2_with (go_at_call 27; ((with_reducible refine (F.out _).mono ?_); rintro e w' ⟨rfl, rfl⟩))
  go_ret
  exact ⟨rfl, by (repeat (first | exact Below.refl _ _ | refine bl_drewN ?_ | refine bl_drew ?_ | refine bl_alloc ?_ _ | refine Below.setCell ?_ (by (first | (simp; done) | (simp; omega) | omega)) _ | refine bl_step (by assumption) ?_))⟩
theorem rone_any (a : Int) (w : World) : Calls Tryz.prog 21 #[.int .i64 a] w fun e w' => e = .returned (.agg #[.int .i64 (a), .int .i64 (a)]) ∧ Below w.heap.size w w' := by
  go_enter Tryz.func21, Tryz.ntmps21
  go_wp2
  exact bodyPost_ret (v := .agg #[.int .i64 (a), .int .i64 (a)]) (by first | (simp only [results, Tryz.results21]; go_simp; done) | simp [results, Tryz.results21, go_sem, *]) rfl ⟨rfl, by (repeat (first | exact Below.refl _ _ | refine bl_drewN ?_ | refine bl_drew ?_ | refine bl_alloc ?_ _ | refine Below.setCell ?_ (by (first | (simp; done) | (simp; omega) | omega)) _ | refine bl_step (by assumption) ?_))⟩
theorem rsigned_any (n : Int) (w : World) (h0 : -9223372036854775808 ≤ n) (h1 : n ≤ 9223372036854775807) :
    Calls Tryz.prog 28 #[.int .i64 n] w fun e w' => e = .returned (.int .i64 (sgn n)) ∧ w = w' := by
  have W5 := hidden fun w => wrap5_any n w h0 h1
  have m0 : 0 ≤ n % 21600000 := by omega
  have m1 : n % 21600000 < 21600000 := by omega
  by_cases hc : 10800000 ≤ n % 21600000
  · have H : Hid (sgn n = n % 21600000 - 21600000) := by simp [sgn, hc, Hid]
    obtain ⟨r, hr⟩ : ∃ r, n % 21600000 = r := ⟨_, rfl⟩
    rw [hr] at m0 m1 hc W5 H
    clear hr
    go_enter Tryz.func28, Tryz.ntmps28
    go_wp2_with (go_at_call 57; ((with_reducible refine (W5.out _).mono ?_); rintro e w' ⟨rfl, rfl⟩))
    go_ret
    exact ⟨ret_one (by rw [H.out]), rfl⟩
  · have H : Hid (sgn n = n % 21600000) := by simp [sgn, hc, Hid]
    obtain ⟨r, hr⟩ : ∃ r, n % 21600000 = r := ⟨_, rfl⟩
    rw [hr] at m0 m1 hc W5 H
    clear hr
    go_enter Tryz.func28, Tryz.ntmps28
    go_wp2_with (go_at_call 57; ((with_reducible refine (W5.out _).mono ?_); rintro e w' ⟨rfl, rfl⟩))
    go_ret
    exact ⟨ret_one (by rw [H.out]), rfl⟩

set_option maxRecDepth 100000 in
set_option maxHeartbeats 4000000 in
theorem rleast_size (a : Option Addr) (n c : Nat) (w : World) (hn : n < 2 ∨ 16 < n) :
    Calls Tryz.prog 6 #[.slice a n c] w fun e w' => e = .returned (.tuple #[.agg #[.int .i64 0, .int .i64 0], .slice none 0 0, .int .i64 3]) ∧ Below w.heap.size w w' := by
  rcases hn with h | h
  · have qa : decide (n < 2) = true := by simp; omega
    go_enter Tryz.func6, Tryz.ntmps6
    go_wp2
    exact bodyPost_ret (v := .tuple #[.agg #[.int .i64 0, .int .i64 0], .slice none 0 0, .int .i64 3]) (by first | (simp only [results, Tryz.results6]; go_simp; done) | simp [results, Tryz.results6, go_sem, *]) rfl ⟨rfl, by (repeat (first | (with_reducible exact Below.refl _ _) | (with_reducible refine Below.setCell ?_ (by (first | (simp; done) | (simp; omega) | omega)) _) | (with_reducible refine bl_alloc ?_ _) | (with_reducible refine bl_drewN ?_) | (with_reducible refine bl_drew ?_) | (with_reducible refine bl_step (by assumption) ?_)))⟩
  · have qa : decide (n < 2) = false := by simp; omega
    have qb : decide (16 < n) = true := by simp; omega
    go_enter Tryz.func6, Tryz.ntmps6
    go_wp2
    exact bodyPost_ret (v := .tuple #[.agg #[.int .i64 0, .int .i64 0], .slice none 0 0, .int .i64 3]) (by first | (simp only [results, Tryz.results6]; go_simp; done) | simp [results, Tryz.results6, go_sem, *]) rfl ⟨rfl, by (repeat (first | (with_reducible exact Below.refl _ _) | (with_reducible refine Below.setCell ?_ (by (first | (simp; done) | (simp; omega) | omega)) _) | (with_reducible refine bl_alloc ?_ _) | (with_reducible refine bl_drewN ?_) | (with_reducible refine bl_drew ?_) | (with_reducible refine bl_step (by assumption) ?_)))⟩

set_option maxRecDepth 100000 in
set_option maxHeartbeats 4000000 in
theorem rleast_bad (B oo n c : Nat) (f : Nat → Nat → Int) (g : Nat → Bool) (w : World) (hl : LnS w B oo n f) (n2 : 2 ≤ n) (n16 : n ≤ 16)
    (VV : Hid (∀ i, i < n → ∀ w, Calls Tryz.prog 20 #[.agg #[.int .i64 (f i 0), .int .i64 (f i 1), .int .i64 (f i 2), .int .i64 (f i 3), .int .i64 (f i 4), .int .i64 (f i 5)]] w fun e w' => e = .returned (.bool (g i)) ∧ Below w.heap.size w w'))
    (hb : Hid (¬ ∀ i, i < n → g i = true)) :
    Calls Tryz.prog 6 #[.slice (some ⟨B, oo, none⟩) n c] w fun e w' => e = .returned (.tuple #[.agg #[.int .i64 0, .int .i64 0], .slice none 0 0, .int .i64 1]) ∧ Below w.heap.size w w' := by
  have HB := hidden hb
  have HL0 := hidden hl
  have LB0 : B < w.heap.size := hl.lt (by omega)
  clear hl hb
  have qa : decide (n < 2) = false := by simp; omega
  have qb : decide (16 < n) = false := by simp; omega
  go_enter Tryz.func6, Tryz.ntmps6
  go_wp2
  refine name_code ?_
  intro w' hb
  (try replace hb := below_undrew hb); (try replace hb := below_undrewN hb); obtain ⟨hcell, hfroz⟩ := bcell hb; have hz := hb.size; (try simp at hz); (try (have z6 := Nat.lt_of_lt_of_le z7 hz)); (try (have z7 := Nat.lt_of_lt_of_le z8 hz)); (try (have z8 := Nat.lt_of_lt_of_le z9 hz)); (try (have z9 := Nat.lt_of_lt_of_le (Nat.lt_succ_self _) hz)); (try (have z0 : w.heap.size < w'.heap.size := by omega)); (try (have z1 : w.heap.size + 1 < w'.heap.size := by omega)); (try (have z2 : w.heap.size + 1 + 1 < w'.heap.size := by omega)); (try (have z3 : w.heap.size + 1 + 1 + 1 < w'.heap.size := by omega))
  have hw0 : Below w.heap.size w w' := by (repeat (first | (with_reducible exact Below.refl _ _) | (with_reducible refine Below.setCell ?_ (by (first | (simp; done) | (simp; omega) | omega)) _) | (with_reducible refine bl_alloc ?_ _) | (with_reducible refine bl_drewN ?_) | (with_reducible refine bl_drew ?_) | (with_reducible refine bl_step (by assumption) ?_)))
  have HL := hidden (HL0.out.later hw0)
  clear HL0
  have cr0 : w'.cell? ⟨w.heap.size, 0, none⟩ = some (.int .i64 0) := by simp [go_sem, *]
  have cr1 : w'.cell? ⟨w.heap.size, 1, none⟩ = some (.int .i64 0) := by simp [go_sem, *]
  have cg : ∀ o, w'.frozen? ⟨w.heap.size, o, none⟩ = false := by intro o; simp [go_sem, *]
  clear hcell hfroz hz hb
  obtain ⟨V0, rfl⟩ : ∃ v, v = w' := ⟨_, rfl⟩
  have LB : B < V0.heap.size := HL.out.lt (by omega)
  have lw : w.heap.size < V0.heap.size := World.block_lt_of_cell? _ _ cr0
  go_loopw [5] (fun iv wr => ∃ k : Nat, iv = .int .i64 k ∧ k ≤ n ∧ Hid (∀ i, i < k → g i = true) ∧ Below V0.heap.size V0 wr) (fun iv _ => 40 - (intOf iv).toNat)
  case atStart => exact ⟨0, rfl, Nat.zero_le _, (fun i h => absurd h (by omega)), Below.refl _ _⟩
  case round =>
    obtain ⟨k, rfl, hk, hg, hV⟩ := hrel
    have hzV := hV.size
    by_cases hkn : k < n
    · have q1 : decide (k < n) = true := by simp; omega
      have VK := hidden (VV.out k hkn)
      have c0 : wr.cell? ⟨B, oo + k * 6, none⟩ = some (.int .i64 (f k 0)) := cell_later hV (HL.out k 0 hkn (by omega))
      have c1 : wr.cell? ⟨B, oo + k * 6 + 1, none⟩ = some (.int .i64 (f k 1)) := cell_later hV (HL.out k 1 hkn (by omega))
      have c2 : wr.cell? ⟨B, oo + k * 6 + 2, none⟩ = some (.int .i64 (f k 2)) := cell_later hV (HL.out k 2 hkn (by omega))
      have c3 : wr.cell? ⟨B, oo + k * 6 + 3, none⟩ = some (.int .i64 (f k 3)) := cell_later hV (HL.out k 3 hkn (by omega))
      have c4 : wr.cell? ⟨B, oo + k * 6 + 4, none⟩ = some (.int .i64 (f k 4)) := cell_later hV (HL.out k 4 hkn (by omega))
      have c5 : wr.cell? ⟨B, oo + k * 6 + 5, none⟩ = some (.int .i64 (f k 5)) := cell_later hV (HL.out k 5 hkn (by omega))
      have LB2 : B < wr.heap.size := by omega
      cases gk : g k with
      | true =>
        rw [gk] at VK
        go_wp2_with (go_at_call 20; ((with_reducible refine (VK.out _).mono ?_); rintro e w' ⟨rfl, hb⟩); (try replace hb := below_undrew hb); (try replace hb := below_undrewN hb); obtain ⟨hcell, hfroz⟩ := bcell hb; have hz := hb.size; (try simp at hz); (try (have z6 := Nat.lt_of_lt_of_le z7 hz)); (try (have z7 := Nat.lt_of_lt_of_le z8 hz)); (try (have z8 := Nat.lt_of_lt_of_le z9 hz)); (try (have z9 := Nat.lt_of_lt_of_le (Nat.lt_succ_self _) hz)); (try (have z0 : w.heap.size < w'.heap.size := by omega)); (try (have z1 : w.heap.size + 1 < w'.heap.size := by omega)); (try (have z2 : w.heap.size + 1 + 1 < w'.heap.size := by omega)); (try (have z3 : w.heap.size + 1 + 1 + 1 < w'.heap.size := by omega)))
        exact ⟨⟨k + 1, by go_num, by omega, (fun i h => by rcases Nat.lt_or_ge i k with h4 | h4; exact hg.out i h4; obtain rfl : i = k := (by omega); exact gk), by (repeat (first | (with_reducible exact Below.refl _ _) | (with_reducible refine Below.setCell ?_ (by (first | (simp; done) | (simp; omega) | omega)) _) | (with_reducible refine bl_alloc ?_ _) | (with_reducible refine bl_drewN ?_) | (with_reducible refine bl_drew ?_) | (with_reducible refine bl_step (by assumption) ?_)))⟩, by simp [intOf]; omega⟩
      | false =>
        rw [gk] at VK
        have rq0 := cell_later hV cr0
        have rq1 := cell_later hV cr1
        have rcf : ∀ o, wr.frozen? ⟨w.heap.size, o, none⟩ = false := fun o => (hV.frozen (p := ⟨w.heap.size, o, none⟩) lw).trans (cg o)
        have hwr : Below w.heap.size w wr := bl_step hV hw0
        have lwr : w.heap.size < wr.heap.size := by omega
        go_wp2_with (go_at_call 20; ((with_reducible refine (VK.out _).mono ?_); rintro e w' ⟨rfl, hb⟩); (try replace hb := below_undrew hb); (try replace hb := below_undrewN hb); obtain ⟨hcell, hfroz⟩ := bcell hb; have hz := hb.size; (try simp at hz); (try (have z6 := Nat.lt_of_lt_of_le z7 hz)); (try (have z7 := Nat.lt_of_lt_of_le z8 hz)); (try (have z8 := Nat.lt_of_lt_of_le z9 hz)); (try (have z9 := Nat.lt_of_lt_of_le (Nat.lt_succ_self _) hz)); (try (have z0 : w.heap.size < w'.heap.size := by omega)); (try (have z1 : w.heap.size + 1 < w'.heap.size := by omega)); (try (have z2 : w.heap.size + 1 + 1 < w'.heap.size := by omega)); (try (have z3 : w.heap.size + 1 + 1 + 1 < w'.heap.size := by omega)))
        exact bodyPost_ret (v := .tuple #[.agg #[.int .i64 0, .int .i64 0], .slice none 0 0, .int .i64 1]) (by first | (simp only [results, Tryz.results6]; go_simp; done) | simp [results, Tryz.results6, go_sem, *]) rfl ⟨rfl, by (repeat (first | (with_reducible exact Below.refl _ _) | (with_reducible refine Below.setCell ?_ (by (first | (simp; done) | (simp; omega) | omega)) _) | (with_reducible refine bl_alloc ?_ _) | (with_reducible refine bl_drewN ?_) | (with_reducible refine bl_drew ?_) | (with_reducible refine bl_step (by assumption) ?_)))⟩
    · obtain rfl : n = k := by omega
      exact absurd hg.out HB.out

end Go.Proofs.YtjceofmhodcefaaGreat

namespace Go.Proofs.YtjceofmhodcefaaGreat
open Go.RowKit

theorem below_of_same {e : Ending} {w w' : World} {v : Value} (h : e = .returned v ∧ w = w') : e = .returned v ∧ Below w.heap.size w w' := ⟨h.1, h.2 ▸ Below.refl _ _⟩

set_option maxRecDepth 100000 in
set_option maxHeartbeats 1000000 in
theorem rleast_main (B oo n c : Nat) (f : Nat → Nat → Int) (w : World) (hl : LnS w B oo n f) (n2 : 2 ≤ n) (n16 : n ≤ 16) (hv : ∀ i, i < n → lineB (f i 0) (f i 1) (f i 2) (f i 3) (f i 4) (f i 5) = true)
    (RV : ∀ c d a b p q w, Calls Tryz.prog 20 #[.agg #[.int .i64 c, .int .i64 d, .int .i64 a, .int .i64 b, .int .i64 p, .int .i64 q]] w fun e w' => e = .returned (.bool (lineB c d a b p q)) ∧ Below w.heap.size w w') :
    Calls Tryz.prog 6 #[.slice (some ⟨B, oo, none⟩) n c] w (RLeastR w n f (detL f n) (xL f n) (yL f n) (lonL f n) (rL f n)) := by
  obtain ⟨i1, hj, hj0, hj1, hj2⟩ : ∃ i1, Tryz.prog.info? 3 = some i1 ∧ i1.zero = some (.int .i64 0) ∧ i1.size = 1 ∧ i1.bytes = 8 := ⟨(Tryz.prog.info? 3).get (by kernel_rfl), (Option.some_get _).symm, by kernel_rfl, by kernel_rfl, by kernel_rfl⟩
  have lb := fun i hi => lineB_u (hv i hi)
  have l0 := lb 0 (by omega)
  have bx := xL_bd n16 hv
  have bs := sums n16 hv n (Nat.le_refl _)
  have bd := dets n16 hv
  have kk := kL_bd (f := f) l0.1.1 l0.1.2
  refine rleast_any37 B oo n c f (zL f) (fun i => bLo (zL f i)) (fun i => bHi (zL f i)) (fun i => bLo (zL f i + 5400000)) (fun i => bHi (zL f i + 5400000)) (sL f) (dL f) (pL f) (aL f) (bL f) (cL f) (uL f) (vL f) (kL f) (bHi (f 0 0 + 5400000)) (xL f n) (yL f n) (eL f n) (lonL f n) w hl n2 n16 i1 hj hj0 hj1 hj2
    (hidden fun i hi w => by have := RV (f i 0) (f i 1) (f i 2) (f i 3) (f i 4) (f i 5) w; rw [hv i hi] at this; exact this)
    (hidden fun i hi w => rmiddle_any (f i 2) (f i 3) w (by have := lb i hi; omega) (by have := lb i hi; omega) (by have := lb i hi; omega) (by have := lb i hi; omega))
    (hidden fun i _ w => rone_any _ w)
    (hidden fun i hi w => by
      have lz : 0 ≤ zL f i ∧ zL f i ≤ 43200000 := by have := lb i hi; unfold zL; omega
      have := sin6_any (zL f i) (zL f i) w (by omega) (by omega) (by omega) (by omega)
      rw [(enc_point (zL f i)).1, (enc_point (zL f i)).2] at this
      exact this)
    (hidden fun i hi w => by
      have lz : 0 ≤ zL f i ∧ zL f i ≤ 43200000 := by have := lb i hi; unfold zL; omega
      have := cos6_any (zL f i) (zL f i) w (by omega) (by omega) (by omega) (by omega)
      rw [(enc_point (zL f i + 5400000)).1, (enc_point (zL f i + 5400000)).2] at this
      exact this)
    (hidden fun i _ w => rcoarse_any _ _ w (by have := b_bd (zL f i); omega) (by have := b_bd (zL f i); omega))
    (hidden fun i _ w => rcoarse_any _ _ w (by have := b_bd (zL f i + 5400000); omega) (by have := b_bd (zL f i + 5400000); omega))
    (hidden fun i hi w => rmiddle_any (f i 4) (f i 5) w (by have := lb i hi; omega) (by have := lb i hi; omega) (by have := lb i hi; omega) (by have := lb i hi; omega))
    (hidden (prods hv)) (hidden (sums n16 hv)) (hidden (sums_zero f)) (hidden fun k _ => sums_succ f k) (hidden bd)
    (hidden fun h r hr w => ?sx) (hidden fun h r hr w => ?sy)
    (hidden fun w => rone_any _ w)
    (hidden fun w => by
      have := cos6_any (f 0 0) (f 0 0) w (by omega) (by omega) (by omega) (by omega)
      rw [(enc_point (f 0 0 + 5400000)).1, (enc_point (f 0 0 + 5400000)).2] at this
      exact this)
    (by omega) (by omega) (by omega) (by omega) (by omega) (by omega)
    (hidden fun F => rest_bd hv F.1.1 F.1.2 F.2.1.1 F.2.1.2)
    (hidden fun i hi w => ?fr)
    (hidden fun F w => ?fl)
    (hidden fun F => eL_bd l0.1.1 l0.1.2 F.1.1 F.1.2)
    (hidden fun F w => ?sg)
  case sx =>
    have h2 : ¬ detL f n < 1099511627776 := Int.not_lt.2 h
    have q : (uL f n * cL f n + -(vL f n * bL f n)) * 8192 / detL f n = xL f n := by unfold xL; rw [if_neg h2]
    have := solved_any (uL f n) (cL f n) (vL f n) (bL f n) (detL f n) (xL f n) w (by omega) (by omega) (by omega) (by omega) (by omega) (by omega) (by omega) (by omega) (by unfold detL at *; omega) (by unfold detL; omega) q (by omega) (by omega)
    rw [hr] at this
    exact this
  case sy =>
    have h2 : ¬ detL f n < 1099511627776 := Int.not_lt.2 h
    have q : (vL f n * aL f n + -(uL f n * bL f n)) * 8192 / detL f n = yL f n := by unfold yL; rw [if_neg h2]
    have := solved_any (vL f n) (aL f n) (uL f n) (bL f n) (detL f n) (yL f n) w (by omega) (by omega) (by omega) (by omega) (by omega) (by omega) (by omega) (by omega) (by unfold detL at *; omega) (by unfold detL; omega) q (by omega) (by omega)
    rw [hr] at this
    exact this
  case fr =>
    have s := sL_bd f i
    have d := dL_bd f i
    have m1 := mulB s.1 s.2 bx.1.1 bx.1.2
    have m2 := mulB d.1 d.2 bx.2.1 bx.2.2
    exact floor5_any _ 8192 w (by omega) (by omega) (by omega) (by omega)
  case fl =>
    have x0 := F.1
    exact (floor5_any (xL f n * 1073741824) (kL f) w (by omega) (by omega) (by omega) (by omega)).mono fun e w' h => below_of_same h
  case sg =>
    have e := eL_bd (n := n) l0.1.1 l0.1.2 F.1.1 F.1.2
    exact (rsigned_any (f 0 1 + eL f n) w (by omega) (by omega)).mono fun e w' h => below_of_same h

end Go.Proofs.YtjceofmhodcefaaGreat
