/- Bearing, Asin, Acos, Ahav of package arctrig, as contracts by their numbers. -/
import Derived.Test.YtdhbeoahpfimbaaGreatArcV
import Derived.Test.YtdhbeoahpfimbaaGreatBea
import Derived.Test.YtdhbeoahpfimbaaGreatAsn
namespace Go.Proofs.YtdhbeoahpfimbaaGreat
open Go.RowKit Brg
def origB (xl xh yl yh : Int) : Bool := decide (xl ≤ 0 ∧ 0 ≤ xh ∧ yl ≤ 0 ∧ 0 ≤ yh)
def brgLo (yl yh xl xh : Int) : Int := if origB xl xh yl yh = true then 0 else ang cK sK (firstB xl xh yl yh).1 (firstB xl xh yl yh).2
def brgHi (yl yh xl xh : Int) : Int := if origB xl xh yl yh = true then 21600000 else endB cK sK xl xh yl yh + (if exactP cK sK (lastB xl xh yl yh).1 (lastB xl xh yl yh).2 then 0 else 1)
theorem brgLo_yes {yl yh xl xh : Int} (h : origB xl xh yl yh = true) : brgLo yl yh xl xh = 0 := if_pos h
theorem brgHi_yes {yl yh xl xh : Int} (h : origB xl xh yl yh = true) : brgHi yl yh xl xh = 21600000 := if_pos h
theorem brgLo_no {yl yh xl xh : Int} (h : ¬ origB xl xh yl yh = true) : brgLo yl yh xl xh = ang cK sK (firstB xl xh yl yh).1 (firstB xl xh yl yh).2 := if_neg h
theorem brgHi_no {yl yh xl xh : Int} (h : ¬ origB xl xh yl yh = true) : brgHi yl yh xl xh = endB cK sK xl xh yl yh + (if exactP cK sK (lastB xl xh yl yh).1 (lastB xl xh yl yh).2 then 0 else 1) := if_neg h
theorem angle_ok (C S : Nat → Nat) (px py : Int) (w : World) (a0 : -2147483648 ≤ px) (a1 : px ≤ 2147483648) (b0 : -2147483648 ≤ py) (b1 : py ≤ 2147483648) (hz : ¬ (px = 0 ∧ py = 0)) (hC : C = cK) (hS : S = sK) :
    Calls Tryz.prog 131 #[.agg #[.int .i64 px, .int .i64 py]] w fun e w' => e = .returned (.tuple #[.int .i64 (ang C S px py), .bool (exactP C S px py)]) ∧ Below w.heap.size w w' :=
  angle_any C S px py w a0 a1 b0 b1 hz (hidden fun u v k w u0 u1 v0 v1 k0 k1 => by rw [hC, hS]; exact areach_any u v k w u0 u1 v0 v1 k0 k1)
theorem bearing_some (C S : Nat → Nat) (hC : C = cK) (hS : S = sK) (yl yh xl xh : Int) (w : World) (h1 : fixB yl yh = true) (h2 : fixB xl xh = true) (ho : ¬ (xl ≤ 0 ∧ 0 ≤ xh ∧ yl ≤ 0 ∧ 0 ≤ yh)) :
    Calls Tryz.prog 47 #[.agg #[.int .i64 yl, .int .i64 yh], .agg #[.int .i64 xl, .int .i64 xh]] w fun e w' => e = .returned (.tuple #[.agg #[.int .i64 (ang C S (firstB xl xh yl yh).1 (firstB xl xh yl yh).2), .int .i64 (endB C S xl xh yl yh + (if exactP C S (lastB xl xh yl yh).1 (lastB xl xh yl yh).2 then 0 else 1))], .int .i64 0]) ∧ Below w.heap.size w w' :=
  bearing_box C S yl yh xl xh w h1 h2 ho (hidden fun px py w a0 a1 b0 b1 hz => angle_ok C S px py w a0 a1 b0 b1 hz hC hS)
theorem bearing_any (yl yh xl xh : Int) (w : World) (h1 : fixB yl yh = true) (h2 : fixB xl xh = true) :
    Calls Tryz.prog 47 #[.agg #[.int .i64 yl, .int .i64 yh], .agg #[.int .i64 xl, .int .i64 xh]] w fun e w' => e = .returned (.tuple #[.agg #[.int .i64 (brgLo yl yh xl xh), .int .i64 (brgHi yl yh xl xh)], .int .i64 0]) ∧ Below w.heap.size w w' := by
  by_cases ho : xl ≤ 0 ∧ 0 ≤ xh ∧ yl ≤ 0 ∧ 0 ≤ yh
  · have e : origB xl xh yl yh = true := decide_eq_true ho
    have h := bearing_all yl yh xl xh w h1 h2 ho
    rw [brgLo_yes e, brgHi_yes e]
    exact h
  · have e : ¬ origB xl xh yl yh = true := by unfold origB; simpa using ho
    have h := bearing_some cK sK rfl rfl yl yh xl xh w h1 h2 ho
    rw [brgLo_no e, brgHi_no e]
    exact h
set_option maxHeartbeats 1000000 in
theorem part_any (a b lo hi : Int) (w : World) :
    Calls Tryz.prog 153 #[.agg #[.int .i64 a, .int .i64 b], .int .i64 lo, .int .i64 hi] w fun e w' => e = .returned (.tuple #[.agg #[.int .i64 (max a lo), .int .i64 (min b hi)], .bool (decide (max a lo ≤ min b hi))]) ∧ Below w.heap.size w w' := by
  obtain ⟨x, hx⟩ : ∃ x, max a lo = x := ⟨_, rfl⟩
  obtain ⟨y, hy⟩ : ∃ y, min b hi = y := ⟨_, rfl⟩
  rw [hx, hy]
  go_enter Tryz.func153, Tryz.ntmps153
  go_upto_region 2 with fail
  refine name_code ?_
  intro w' hb
  (try replace hb := below_undrew hb); (try replace hb := below_undrewN hb); obtain ⟨hcell, hfroz⟩ := bcell hb; have hz := hb.size; (try simp at hz); (try (have z6 := Nat.lt_of_lt_of_le z7 hz)); (try (have z7 := Nat.lt_of_lt_of_le z8 hz)); (try (have z8 := Nat.lt_of_lt_of_le z9 hz)); (try (have z9 := Nat.lt_of_lt_of_le (Nat.lt_succ_self _) hz)); (try have z0 : w.heap.size < w'.heap.size := by omega); (try have z1 : w.heap.size + 1 < w'.heap.size := by omega); (try have z2 : w.heap.size + 1 + 1 < w'.heap.size := by omega); (try have z3 : w.heap.size + 1 + 1 + 1 < w'.heap.size := by omega)
  have p0 : w'.cell? ⟨w.heap.size, 0, none⟩ = some (.int .i64 x) := by simp [go_sem, *]
  have p1 : w'.cell? ⟨w.heap.size, 1, none⟩ = some (.int .i64 y) := by simp [go_sem, *]
  have r0 : w'.cell? ⟨w.heap.size + 1, 0, none⟩ = some (.int .i64 0) := by simp [go_sem, *]
  have r1 : w'.cell? ⟨w.heap.size + 1, 1, none⟩ = some (.int .i64 0) := by simp [go_sem, *]
  have rf : ∀ o, w'.frozen? ⟨w.heap.size + 1, o, none⟩ = false := by intro o; simp [go_sem, *]
  have hw0 : Below w.heap.size w w' := by (repeat (first | (with_reducible exact Below.refl _ _) | (with_reducible refine Below.setCell ?_ (by (first | (simp; done) | (simp; omega) | omega)) _) | (with_reducible refine bl_alloc ?_ _) | (with_reducible refine bl_drewN ?_) | (with_reducible refine bl_drew ?_) | (with_reducible refine bl_step (by assumption) ?_)))
  clear hcell hfroz hz hb hx hy
  obtain ⟨V0, rfl⟩ : ∃ v, v = w' := ⟨_, rfl⟩
  have g1 : w.heap.size + 1 < V0.heap.size := World.block_lt_of_cell? _ _ r0
  have g0 : w.heap.size < V0.heap.size := by omega
  go_region
  go_wp2
  exact bodyPost_ret (v := .tuple #[.agg #[.int .i64 x, .int .i64 y], .bool (decide (x ≤ y))]) (by first | (simp only [results, Tryz.results153]; go_simp; done) | simp [results, Tryz.results153, go_sem, *]) rfl ⟨rfl, by (repeat (first | (with_reducible exact Below.refl _ _) | (with_reducible refine Below.setCell ?_ (by (first | (simp; done) | (simp; omega) | omega)) _) | (with_reducible refine bl_alloc ?_ _) | (with_reducible refine bl_drewN ?_) | (with_reducible refine bl_drew ?_) | (with_reducible refine bl_step (by assumption) ?_)))⟩
set_option maxRecDepth 100000 in
set_option maxHeartbeats 4000000 in
theorem asin_walk (a b x y p q : Int) (w : World) (_hp : -5400001 ≤ p) (_hq : p ≤ 5400001) (hq0 : -5400001 ≤ q) (hq1 : q ≤ 5400001) (hy0 : -1073741824 ≤ y) (hy1 : y ≤ 1073741824) (_hxy : x ≤ y)
    (V : Hid (∀ w, Calls Tryz.prog 129 #[.agg #[.int .i64 a, .int .i64 b]] w fun e w' => e = .returned (.bool true) ∧ Below w.heap.size w w'))
    (P : Hid (∀ w, Calls Tryz.prog 153 #[.agg #[.int .i64 a, .int .i64 b], .int .i64 (-1073741824), .int .i64 1073741824] w fun e w' => e = .returned (.tuple #[.agg #[.int .i64 x, .int .i64 y], .bool true]) ∧ Below w.heap.size w w'))
    (A : Hid (∀ w, Calls Tryz.prog 258 #[.int .i64 x] w fun e w' => e = .returned (.int .i64 p) ∧ Below w.heap.size w w'))
    (B : Hid (∀ w, Calls Tryz.prog 258 #[.int .i64 (-y)] w fun e w' => e = .returned (.int .i64 q) ∧ Below w.heap.size w w')) :
    Calls Tryz.prog 203 #[.agg #[.int .i64 a, .int .i64 b]] w fun e w' => e = .returned (.tuple #[.agg #[.int .i64 p, .int .i64 (-q)], .int .i64 0]) ∧ Below w.heap.size w w' := by
  have kw : IntKind.i64.wrap (-y) = -y := by rw [IntKind.wrap_i64]; omega
  have kq : IntKind.i64.wrap (-q) = -q := by rw [IntKind.wrap_i64]; omega
  go_enter Tryz.func203, Tryz.ntmps203
  go_upto_region 6 with (((first | (go_at_call 129; ((with_reducible refine (V.out _).mono ?_); rintro e w' ⟨rfl, hb⟩); have nm0 := trivial) | (go_at_call 153; ((with_reducible refine (P.out _).mono ?_); rintro e w' ⟨rfl, hb⟩); have nm1 := trivial)); (try replace hb := below_undrew hb); (try replace hb := below_undrewN hb); obtain ⟨hcell, hfroz⟩ := bcell hb; have hz := hb.size; (try simp at hz); (try (have z6 := Nat.lt_of_lt_of_le z7 hz)); (try (have z7 := Nat.lt_of_lt_of_le z8 hz)); (try (have z8 := Nat.lt_of_lt_of_le z9 hz)); (try (have z9 := Nat.lt_of_lt_of_le (Nat.lt_succ_self _) hz)); (try have z0 : w.heap.size < w'.heap.size := by omega); (try have z1 : w.heap.size + 1 < w'.heap.size := by omega); (try have z2 : w.heap.size + 1 + 1 < w'.heap.size := by omega); (try have z3 : w.heap.size + 1 + 1 + 1 < w'.heap.size := by omega); (try have y1 : w1.heap.size < w'.heap.size := by omega); (try have x1 : w1.heap.size + 1 < w'.heap.size := by omega); (try have z10 : w1.heap.size < w'.heap.size + 1 := by omega); (first | (clear nm0; obtain ⟨w1, rfl⟩ : ∃ v, v = w' := ⟨_, rfl⟩) | (clear nm1; obtain ⟨w2, rfl⟩ : ∃ v, v = w' := ⟨_, rfl⟩))))
  refine name_code ?_
  intro w' hb
  (try replace hb := below_undrew hb); (try replace hb := below_undrewN hb); obtain ⟨hcell, hfroz⟩ := bcell hb; have hz := hb.size; (try simp at hz); (try (have z6 := Nat.lt_of_lt_of_le z7 hz)); (try (have z7 := Nat.lt_of_lt_of_le z8 hz)); (try (have z8 := Nat.lt_of_lt_of_le z9 hz)); (try (have z9 := Nat.lt_of_lt_of_le (Nat.lt_succ_self _) hz)); (try have z0 : w.heap.size < w'.heap.size := by omega); (try have z1 : w.heap.size + 1 < w'.heap.size := by omega); (try have z2 : w.heap.size + 1 + 1 < w'.heap.size := by omega); (try have z3 : w.heap.size + 1 + 1 + 1 < w'.heap.size := by omega); (try have y1 : w1.heap.size < w'.heap.size := by omega); (try have y2 : w2.heap.size < w'.heap.size := by omega); (try have x1 : w1.heap.size + 1 < w'.heap.size := by omega); (try have x2 : w2.heap.size + 1 < w'.heap.size := by omega); (try have z10 : w1.heap.size < w'.heap.size + 1 := by omega); (try have z20 : w2.heap.size < w'.heap.size + 1 := by omega)
  have p0 : w'.cell? ⟨w.heap.size, 0, none⟩ = some (.int .i64 x) := by simp [go_sem, *]
  have p1 : w'.cell? ⟨w.heap.size, 1, none⟩ = some (.int .i64 y) := by simp [go_sem, *]
  have r0 : w'.cell? ⟨w.heap.size + 1, 0, none⟩ = some (.int .i64 0) := by simp [go_sem, *]
  have r1 : w'.cell? ⟨w.heap.size + 1, 1, none⟩ = some (.int .i64 0) := by simp [go_sem, *]
  have rf : ∀ o, w'.frozen? ⟨w.heap.size + 1, o, none⟩ = false := by intro o; simp [go_sem, *]
  have hw0 : Below w.heap.size w w' := by (repeat (first | (with_reducible exact Below.refl _ _) | (with_reducible refine Below.setCell ?_ (by (first | (simp; done) | (simp; omega) | omega)) _) | (with_reducible refine bl_alloc ?_ _) | (with_reducible refine bl_drewN ?_) | (with_reducible refine bl_drew ?_) | (with_reducible refine bl_step (by assumption) ?_)))
  clear hcell hfroz hz hb
  obtain ⟨V0, rfl⟩ : ∃ v, v = w' := ⟨_, rfl⟩
  have g1 : w.heap.size + 1 < V0.heap.size := World.block_lt_of_cell? _ _ r0
  have g0 : w.heap.size < V0.heap.size := by omega
  refine wp_region_quiet_tail 9 (by kernel_rfl) (by kernel_rfl) ?_
  simp only [List.take_succ_cons, List.take_zero, List.drop_succ_cons, List.drop_zero]
  repeat (first | go_big_quiet_step ((first | (go_at_call 258; (with_reducible exact Calls.regrown_of (A.out _))) | (go_at_call 258; (with_reducible exact Calls.regrown_of (B.out _))))) | quiet_step ((first | (go_at_call 258; (with_reducible exact Calls.regrown_of (A.out _))) | (go_at_call 258; (with_reducible exact Calls.regrown_of (B.out _))))))
  refine wpQuiet_nil ?_; intro w' hw'; have hb := below_of_regrown hw'; clear hw'; (try replace hb := below_undrew hb); (try replace hb := below_undrewN hb); obtain ⟨hcell, hfroz⟩ := bcell hb; have hz := hb.size; (try simp at hz); (try (have z6 := Nat.lt_of_lt_of_le z7 hz)); (try (have z7 := Nat.lt_of_lt_of_le z8 hz)); (try (have z8 := Nat.lt_of_lt_of_le z9 hz)); (try (have z9 := Nat.lt_of_lt_of_le (Nat.lt_succ_self _) hz)); (try have z0 : w.heap.size < w'.heap.size := by omega); (try have z1 : w.heap.size + 1 < w'.heap.size := by omega); (try have z2 : w.heap.size + 1 + 1 < w'.heap.size := by omega); (try have z3 : w.heap.size + 1 + 1 + 1 < w'.heap.size := by omega); (try have y1 : w1.heap.size < w'.heap.size := by omega); (try have y2 : w2.heap.size < w'.heap.size := by omega); (try have x1 : w1.heap.size + 1 < w'.heap.size := by omega); (try have x2 : w2.heap.size + 1 < w'.heap.size := by omega); (try have z10 : w1.heap.size < w'.heap.size + 1 := by omega); (try have z20 : w2.heap.size < w'.heap.size + 1 := by omega)
  go_wp2
  exact bodyPost_ret (v := .tuple #[.agg #[.int .i64 p, .int .i64 (-q)], .int .i64 0]) (by first | (simp only [results, Tryz.results203]; go_simp; done) | simp [results, Tryz.results203, go_sem, *]) rfl ⟨rfl, by (repeat (first | (with_reducible exact Below.refl _ _) | (with_reducible refine Below.setCell ?_ (by (first | (simp; done) | (simp; omega) | omega)) _) | (with_reducible refine bl_alloc ?_ _) | (with_reducible refine bl_drewN ?_) | (with_reducible refine bl_drew ?_) | (with_reducible refine bl_step (by assumption) ?_)))⟩
def asLo (a : Int) : Int := asinV (max a (-1073741824))
def asHi (b : Int) : Int := -asinV (-(min b 1073741824))
theorem asin_ok (a b : Int) (w : World) (h : fixB a b = true) (ha : a ≤ 1073741824) (hb : -1073741824 ≤ b) :
    Calls Tryz.prog 203 #[.agg #[.int .i64 a, .int .i64 b]] w fun e w' => e = .returned (.tuple #[.agg #[.int .i64 (asLo a), .int .i64 (asHi b)], .int .i64 0]) ∧ Below w.heap.size w w' := by
  have t := fixB_t h
  have x0 := asin_bd (max a (-1073741824))
  have x1 := asin_bd (-(min b 1073741824))
  have V := hidden fun w => (by have := fvalid_any a b w; rw [h] at this; exact this : Calls Tryz.prog 129 #[.agg #[.int .i64 a, .int .i64 b]] w fun e w' => e = .returned (.bool true) ∧ Below w.heap.size w w')
  have P := hidden fun w => (by have := part_any a b (-1073741824) 1073741824 w; rw [decide_eq_true (show max a (-1073741824) ≤ min b 1073741824 by omega)] at this; exact this : Calls Tryz.prog 153 #[.agg #[.int .i64 a, .int .i64 b], .int .i64 (-1073741824), .int .i64 1073741824] w fun e w' => e = .returned (.tuple #[.agg #[.int .i64 (max a (-1073741824)), .int .i64 (min b 1073741824)], .bool true]) ∧ Below w.heap.size w w')
  unfold asLo asHi
  exact asin_walk a b _ _ _ _ w (by omega) (by omega) (by omega) (by omega) (by omega) (by omega) (by omega) V P (hidden fun w => asin_any _ w (by omega) (by omega)) (hidden fun w => asin_any _ w (by omega) (by omega))
theorem asLo_bd (a : Int) : -5400001 ≤ asLo a ∧ asLo a ≤ 5400001 := by
  have x0 := asin_bd (max a (-1073741824))
  unfold asLo; omega
theorem asHi_bd (a : Int) : -5400001 ≤ asHi a ∧ asHi a ≤ 5400001 := by
  have x0 := asin_bd (-(min a 1073741824))
  unfold asHi; omega
theorem acos_ok (a b : Int) (w : World) (h : fixB a b = true) (ha : a ≤ 1073741824) (hb : -1073741824 ≤ b) :
    Calls Tryz.prog 154 #[.agg #[.int .i64 a, .int .i64 b]] w fun e w' => e = .returned (.tuple #[.agg #[.int .i64 (5400000 - asHi b), .int .i64 (5400000 - asLo a)], .int .i64 0]) ∧ Below w.heap.size w w' := by
  have A := hidden fun w => asin_ok a b w h ha hb
  have y0 := asLo_bd a
  have y1 := asHi_bd b
  generalize asLo a = p at *
  generalize asHi b = q at *
  go_enter Tryz.func154, Tryz.ntmps154
  go_wp2_with (go_at_call 203; ((with_reducible refine (A.out _).mono ?_); rintro e w' ⟨rfl, hb⟩); (try replace hb := below_undrew hb); (try replace hb := below_undrewN hb); obtain ⟨hcell, hfroz⟩ := bcell hb; have hz := hb.size; (try simp at hz); (try (have z6 := Nat.lt_of_lt_of_le z7 hz)); (try (have z7 := Nat.lt_of_lt_of_le z8 hz)); (try (have z8 := Nat.lt_of_lt_of_le z9 hz)); (try (have z9 := Nat.lt_of_lt_of_le (Nat.lt_succ_self _) hz)); (try have z0 : w.heap.size < w'.heap.size := by omega); (try have z1 : w.heap.size + 1 < w'.heap.size := by omega); (try have z2 : w.heap.size + 1 + 1 < w'.heap.size := by omega); (try have z3 : w.heap.size + 1 + 1 + 1 < w'.heap.size := by omega); obtain ⟨w1, rfl⟩ : ∃ v, v = w' := ⟨_, rfl⟩)
  exact bodyPost_ret (v := .tuple #[.agg #[.int .i64 (5400000 - q), .int .i64 (5400000 - p)], .int .i64 0]) (by first | (simp only [results, Tryz.results154]; go_simp; done) | simp [results, Tryz.results154, go_sem, *]) rfl ⟨rfl, by (repeat (first | (with_reducible exact Below.refl _ _) | (with_reducible refine Below.setCell ?_ (by (first | (simp; done) | (simp; omega) | omega)) _) | (with_reducible refine bl_alloc ?_ _) | (with_reducible refine bl_drewN ?_) | (with_reducible refine bl_drew ?_) | (with_reducible refine bl_step (by assumption) ?_)))⟩
set_option maxRecDepth 100000 in
set_option maxHeartbeats 4000000 in
theorem ahav_walk (a b x y p q : Int) (w : World) (hx : 0 ≤ x) (hy : y ≤ 1073741824) (hxy : x ≤ y)
    (V : Hid (∀ w, Calls Tryz.prog 129 #[.agg #[.int .i64 a, .int .i64 b]] w fun e w' => e = .returned (.bool true) ∧ Below w.heap.size w w'))
    (P : Hid (∀ w, Calls Tryz.prog 153 #[.agg #[.int .i64 a, .int .i64 b], .int .i64 0, .int .i64 1073741824] w fun e w' => e = .returned (.tuple #[.agg #[.int .i64 x, .int .i64 y], .bool true]) ∧ Below w.heap.size w w'))
    (A : Hid (∀ w, Calls Tryz.prog 154 #[.agg #[.int .i64 (1073741824 - 2 * y), .int .i64 (1073741824 - 2 * x)]] w fun e w' => e = .returned (.tuple #[.agg #[.int .i64 p, .int .i64 q], .int .i64 0]) ∧ Below w.heap.size w w')) :
    Calls Tryz.prog 79 #[.agg #[.int .i64 a, .int .i64 b]] w fun e w' => e = .returned (.tuple #[.agg #[.int .i64 p, .int .i64 q], .int .i64 0]) ∧ Below w.heap.size w w' := by
  go_enter Tryz.func79, Tryz.ntmps79
  go_wp2_with (((first | (go_at_call 129; ((with_reducible refine (V.out _).mono ?_); rintro e w' ⟨rfl, hb⟩); have nm0 := trivial) | (go_at_call 153; ((with_reducible refine (P.out _).mono ?_); rintro e w' ⟨rfl, hb⟩); have nm1 := trivial) | (go_at_call 154; ((with_reducible refine (A.out _).mono ?_); rintro e w' ⟨rfl, hb⟩); have nm2 := trivial)); (try replace hb := below_undrew hb); (try replace hb := below_undrewN hb); obtain ⟨hcell, hfroz⟩ := bcell hb; have hz := hb.size; (try simp at hz); (try (have z6 := Nat.lt_of_lt_of_le z7 hz)); (try (have z7 := Nat.lt_of_lt_of_le z8 hz)); (try (have z8 := Nat.lt_of_lt_of_le z9 hz)); (try (have z9 := Nat.lt_of_lt_of_le (Nat.lt_succ_self _) hz)); (try have z0 : w.heap.size < w'.heap.size := by omega); (try have z1 : w.heap.size + 1 < w'.heap.size := by omega); (try have z2 : w.heap.size + 1 + 1 < w'.heap.size := by omega); (try have z3 : w.heap.size + 1 + 1 + 1 < w'.heap.size := by omega); (try have y1 : w1.heap.size < w'.heap.size := by omega); (try have y2 : w2.heap.size < w'.heap.size := by omega); (try have x1 : w1.heap.size + 1 < w'.heap.size := by omega); (try have x2 : w2.heap.size + 1 < w'.heap.size := by omega); (try have z10 : w1.heap.size < w'.heap.size + 1 := by omega); (try have z20 : w2.heap.size < w'.heap.size + 1 := by omega); (first | (clear nm0; obtain ⟨w1, rfl⟩ : ∃ v, v = w' := ⟨_, rfl⟩) | (clear nm1; obtain ⟨w2, rfl⟩ : ∃ v, v = w' := ⟨_, rfl⟩) | (clear nm2; obtain ⟨w3, rfl⟩ : ∃ v, v = w' := ⟨_, rfl⟩))))
  exact bodyPost_ret (v := .tuple #[.agg #[.int .i64 p, .int .i64 q], .int .i64 0]) (by first | (simp only [results, Tryz.results79]; go_simp; done) | simp [results, Tryz.results79, go_sem, *]) rfl ⟨rfl, by (repeat (first | (with_reducible exact Below.refl _ _) | (with_reducible refine Below.setCell ?_ (by (first | (simp; done) | (simp; omega) | omega)) _) | (with_reducible refine bl_alloc ?_ _) | (with_reducible refine bl_drewN ?_) | (with_reducible refine bl_drew ?_) | (with_reducible refine bl_step (by assumption) ?_)))⟩
def ahLo (a : Int) : Int := 5400000 - asHi (1073741824 - 2 * max a 0)
def ahHi (b : Int) : Int := 5400000 - asLo (1073741824 - 2 * min b 1073741824)
theorem ahav_ok (a b : Int) (w : World) (h : fixB a b = true) (ha : a ≤ 1073741824) (hb : 0 ≤ b) :
    Calls Tryz.prog 79 #[.agg #[.int .i64 a, .int .i64 b]] w fun e w' => e = .returned (.tuple #[.agg #[.int .i64 (ahLo a), .int .i64 (ahHi b)], .int .i64 0]) ∧ Below w.heap.size w w' := by
  have t := fixB_t h
  have V := hidden fun w => (by have := fvalid_any a b w; rw [h] at this; exact this : Calls Tryz.prog 129 #[.agg #[.int .i64 a, .int .i64 b]] w fun e w' => e = .returned (.bool true) ∧ Below w.heap.size w w')
  have P := hidden fun w => (by have := part_any a b 0 1073741824 w; rw [decide_eq_true (show max a 0 ≤ min b 1073741824 by omega)] at this; exact this : Calls Tryz.prog 153 #[.agg #[.int .i64 a, .int .i64 b], .int .i64 0, .int .i64 1073741824] w fun e w' => e = .returned (.tuple #[.agg #[.int .i64 (max a 0), .int .i64 (min b 1073741824)], .bool true]) ∧ Below w.heap.size w w')
  exact ahav_walk a b _ _ _ _ w (by omega) (by omega) (by omega) V P (hidden fun w => acos_ok _ _ w (fixB_mk (by omega)) (by omega) (by omega))
end Go.Proofs.YtdhbeoahpfimbaaGreat
