/- Several small texts in one: XTrig, XTrig2, XTrig3, XTrig4, XTrig5, XTrig6, XTrig7. -/
import Derived.Test.YtdhbeoahpfimbaaGreatNu
import Derived.Test.YtdhbeoahpfimbaaGreatMu
namespace Go.Proofs.YtdhbeoahpfimbaaGreat
open Go.RowKit
/-- pi times 2^256, rounded down, and the angle of n units times 2^256, rounded down -/
def piW : Int := 3 * W256 + nv 2611923443488327891 1376283091369227076 11820040416388919760 589684135938649225
def radV (n : Int) : Int := piW * n / 10800000
set_option maxHeartbeats 4000000 in
theorem rad_walk (n h3 l3 s3 c3 t3 h2 l2 s2 c2 t2 h1 l1 s1 c1 t1 h0 l0 s0 c0 t0 q0 q1 q2 q3 : Int) (w : World) (n0 : 0 ≤ n) (n1 : n ≤ 5400000)
    (M3 : Hid (∀ w, Calls Tryz.prog 109 #[.int .u64 589684135938649225, .int .u64 n] w fun e w' => e = .returned (.tuple #[.int .u64 h3, .int .u64 l3]) ∧ w = w'))
    (M2 : Hid (∀ w, Calls Tryz.prog 109 #[.int .u64 11820040416388919760, .int .u64 n] w fun e w' => e = .returned (.tuple #[.int .u64 h2, .int .u64 l2]) ∧ w = w'))
    (M1 : Hid (∀ w, Calls Tryz.prog 109 #[.int .u64 1376283091369227076, .int .u64 n] w fun e w' => e = .returned (.tuple #[.int .u64 h1, .int .u64 l1]) ∧ w = w'))
    (M0 : Hid (∀ w, Calls Tryz.prog 109 #[.int .u64 2611923443488327891, .int .u64 n] w fun e w' => e = .returned (.tuple #[.int .u64 h0, .int .u64 l0]) ∧ w = w'))
    (A3 : ∀ w, (callFunc 309 #[.int .u64 l3, .int .u64 0, .int .u64 0]).run Tryz.prog w = .ok (.value (.tuple #[.int .u64 s3, .int .u64 c3])) w) (W3 : IntKind.u64.wrap (h3 + c3) = t3)
    (A2 : ∀ w, (callFunc 309 #[.int .u64 l2, .int .u64 t3, .int .u64 0]).run Tryz.prog w = .ok (.value (.tuple #[.int .u64 s2, .int .u64 c2])) w) (W2 : IntKind.u64.wrap (h2 + c2) = t2)
    (A1 : ∀ w, (callFunc 309 #[.int .u64 l1, .int .u64 t2, .int .u64 0]).run Tryz.prog w = .ok (.value (.tuple #[.int .u64 s1, .int .u64 c1])) w) (W1 : IntKind.u64.wrap (h1 + c1) = t1)
    (A0 : ∀ w, (callFunc 309 #[.int .u64 l0, .int .u64 t1, .int .u64 0]).run Tryz.prog w = .ok (.value (.tuple #[.int .u64 s0, .int .u64 c0])) w) (W0 : IntKind.u64.wrap (h0 + c0) = t0)
    (b0 : 0 ≤ t0) (b1 : t0 ≤ 5400000)
    (D : Hid (∀ w, Calls Tryz.prog 355 #[.agg #[.int .u64 s0, .int .u64 s1, .int .u64 s2, .int .u64 s3], .int .u64 ((t0 + 3 * n) % 10800000), .int .u64 10800000] w fun e w' => e = .returned (.agg #[.int .u64 q0, .int .u64 q1, .int .u64 q2, .int .u64 q3]) ∧ Below w.heap.size w w')) :
    Calls Tryz.prog 337 #[.int .i64 n] w fun e w' => e = .returned (.agg #[.int .u64 q0, .int .u64 q1, .int .u64 q2, .int .u64 q3]) ∧ Below w.heap.size w w' := by
  go_enter Tryz.func337, Tryz.ntmps337
  go_wp2
  refine wp_loop_rounds 5 ?_
  rw [rounds_succ]
  go_wp2_with (go_at_call 109; ((with_reducible refine (M3.out _).mono ?_); rintro e w' ⟨rfl, rfl⟩))
  rw [rounds_succ]
  go_wp2_with (go_at_call 109; ((with_reducible refine (M2.out _).mono ?_); rintro e w' ⟨rfl, rfl⟩))
  rw [rounds_succ]
  go_wp2_with (go_at_call 109; ((with_reducible refine (M1.out _).mono ?_); rintro e w' ⟨rfl, rfl⟩))
  rw [rounds_succ]
  go_wp2_with (go_at_call 109; ((with_reducible refine (M0.out _).mono ?_); rintro e w' ⟨rfl, rfl⟩))
  rw [rounds_succ]
  go_wp2_with (go_at_call 355; ((with_reducible refine (D.out _).mono ?_); rintro e w' ⟨rfl, hb⟩); (try replace hb := below_undrew hb); (try replace hb := below_undrewN hb); obtain ⟨hcell, hfroz⟩ := bcell hb; have hz := hb.size; (try simp at hz); (try (have z6 := Nat.lt_of_lt_of_le z7 hz)); (try (have z7 := Nat.lt_of_lt_of_le z8 hz)); (try (have z8 := Nat.lt_of_lt_of_le z9 hz)); (try (have z9 := Nat.lt_of_lt_of_le (Nat.lt_succ_self _) hz)); (try have z0 : w.heap.size < w'.heap.size := by omega); (try have z1 : w.heap.size + 1 < w'.heap.size := by omega); (try have z2 : w.heap.size + 1 + 1 < w'.heap.size := by omega); (try have z3 : w.heap.size + 1 + 1 + 1 < w'.heap.size := by omega))
  exact bodyPost_ret (v := .agg #[.int .u64 q0, .int .u64 q1, .int .u64 q2, .int .u64 q3]) (by first | (simp only [results, Tryz.results337]; go_simp; done) | simp [results, Tryz.results337, go_sem, *]) rfl ⟨rfl, by (repeat (first | exact Below.refl _ _ | refine bl_drewN ?_ | refine bl_drew ?_ | refine bl_alloc ?_ _ | refine Below.setCell ?_ (by (first | (simp; done) | (simp; omega) | omega)) _ | refine bl_step (by assumption) ?_))⟩
/-- one place of the product with a number of units -/
theorem rad_word (x n t : Int) (hx : word x) (n0 : 0 ≤ n) (n1 : n ≤ 5400000) (t0 : 0 ≤ t) (t1 : t ≤ 5400000) : ∃ h l s c t2,
    Hid (∀ w, Calls Tryz.prog 109 #[.int .u64 x, .int .u64 n] w fun e w' => e = .returned (.tuple #[.int .u64 h, .int .u64 l]) ∧ w = w') ∧
    (∀ w, (callFunc 309 #[.int .u64 l, .int .u64 t, .int .u64 0]).run Tryz.prog w = .ok (.value (.tuple #[.int .u64 s, .int .u64 c])) w) ∧ IntKind.u64.wrap (h + c) = t2 ∧ word s ∧ 0 ≤ t2 ∧ t2 ≤ 5400000 ∧ t2 * 18446744073709551616 + s = x * n + t := by
  have p0 : 0 ≤ x * n := Int.mul_nonneg hx.1 n0
  have p1 : x * n ≤ 18446744073709551615 * 5400000 := Int.mul_le_mul hx.2 n1 n0 (by omega)
  have M := fun w => mul64_any x n w hx.1 hx.2 n0 (by omega)
  generalize x * n = P at *
  refine ⟨P / 18446744073709551616, P % 18446744073709551616, (P % 18446744073709551616 + t + 0) % 18446744073709551616, (P % 18446744073709551616 + t + 0) / 18446744073709551616, P / 18446744073709551616 + (P % 18446744073709551616 + t + 0) / 18446744073709551616, hidden M, ?_, ?_, ?_, ?_, ?_, ?_⟩
  · exact fun w => add64_run _ t 0 (by omega) t0 (by omega) (by omega) w
  · rw [IntKind.wrap_u64]; omega
  · unfold word; omega
  · omega
  · omega
  · omega
theorem radV_bd (n : Int) (n0 : 0 ≤ n) (n1 : n ≤ 2700000) : 0 ≤ radV n ∧ radV n < W256 := by
  unfold radV piW nv W256 W64
  omega
theorem rad_any (n : Int) (w : World) (n0 : 0 ≤ n) (n1 : n ≤ 2700000) :
    Calls Tryz.prog 337 #[.int .i64 n] w fun e w' => e = .returned (NUM (radV n)) ∧ Below w.heap.size w w' ∧ 0 ≤ radV n ∧ radV n < W256 := by
  obtain ⟨h3, l3, s3, c3, t3, M3, A3, E3, w3, x3, y3, e3⟩ := rad_word 589684135938649225 n 0 ⟨by omega, by omega⟩ n0 (by omega) (by omega) (by omega)
  obtain ⟨h2, l2, s2, c2, t2, M2, A2, E2, w2, x2, y2, e2⟩ := rad_word 11820040416388919760 n t3 ⟨by omega, by omega⟩ n0 (by omega) x3 y3
  obtain ⟨h1, l1, s1, c1, t1, M1, A1, E1, w1, x1, y1, e1⟩ := rad_word 1376283091369227076 n t2 ⟨by omega, by omega⟩ n0 (by omega) x2 y2
  obtain ⟨h0, l0, s0, c0, t0, M0, A0, E0, w0, x0, y0, e0⟩ := rad_word 2611923443488327891 n t1 ⟨by omega, by omega⟩ n0 (by omega) x1 y1
  have k := nv_digits s0 s1 s2 s3 w0 w1 w2 w3
  have tb : 7 * t0 ≤ n := by unfold word at *; omega
  have em : (t0 + 3 * n) % 10800000 = t0 + 3 * n := by omega
  have D := fun w => ndiv_any (nv s0 s1 s2 s3) ((t0 + 3 * n) % 10800000) 10800000 w k.2.2.2.2.1 k.2.2.2.2.2 (by omega) (by omega) (by omega)
  have ev : ((t0 + 3 * n) % 10800000 * W256 + nv s0 s1 s2 s3) / 10800000 = radV n := by
    rw [em]
    unfold radV
    congr 1
    unfold piW nv W256 W64
    omega
  rw [ev, NUM_nv s0 s1 s2 s3 w0 w1 w2 w3] at D
  obtain ⟨e, w', hD⟩ : ∃ r0 r1 : Int, (0 ≤ radV n ∧ radV n < W256) := ⟨0, 0, by
    unfold radV piW nv W256 W64
    omega⟩
  obtain ⟨q0, q1, q2, q3, _, _, _, _, _, nQ⟩ := NUM_words (radV n) hD.1 hD.2
  have D' : ∀ w, Calls Tryz.prog 355 #[.agg #[.int .u64 s0, .int .u64 s1, .int .u64 s2, .int .u64 s3], .int .u64 ((t0 + 3 * n) % 10800000), .int .u64 10800000] w fun e w' => e = .returned (.agg #[.int .u64 q0, .int .u64 q1, .int .u64 q2, .int .u64 q3]) ∧ Below w.heap.size w w' :=
    fun w => (D w).mono fun _ _ ⟨a, b, _⟩ => ⟨by rw [← nQ]; exact a, b⟩
  refine (rad_walk n h3 l3 s3 c3 t3 h2 l2 s2 c2 t2 h1 l1 s1 c1 t1 h0 l0 s0 c0 t0 q0 q1 q2 q3 w n0 (by omega) M3 M2 M1 M0 A3 E3 A2 E2 A1 E1 A0 E0 x0 y0 (hidden D')).mono fun _ _ ⟨a, b⟩ => ⟨by rw [nQ]; exact a, b, hD.1, hD.2⟩
/-- the product of the two numbers by which a term is divided -/
def dTerm (odd : Int) (k : Nat) : Int := (2 * (k : Int) - 1 + odd) * (2 * (k : Int) + odd)
/-- the series from its last term on: after m terms of 34 -/
def lessR (Y odd : Int) : Nat → Int
  | 0 => 0
  | m + 1 => (Y / dTerm odd (34 - m) - mulV (Y / dTerm odd (34 - m)) (lessR Y odd m)) % W256
def lessV (X odd : Int) : Int := lessR (mulV X X) odd 34
theorem NUM_zero : NUM 0 = .agg #[.int .u64 0, .int .u64 0, .int .u64 0, .int .u64 0] := by
  have h := NUM_nv 0 0 0 0 ⟨by omega, by omega⟩ ⟨by omega, by omega⟩ ⟨by omega, by omega⟩ ⟨by omega, by omega⟩
  exact h
theorem W256_pos : (0 : Int) < W256 := by unfold W256 W64; omega
theorem mod_bd (x : Int) : 0 ≤ x % W256 ∧ x % W256 < W256 := ⟨Int.emod_nonneg _ (by have := W256_pos; omega), Int.emod_lt_of_pos _ W256_pos⟩
theorem lessR_bd (Y odd : Int) (m : Nat) : 0 ≤ lessR Y odd m ∧ lessR Y odd m < W256 := by
  cases m with
  | zero => exact ⟨by simp [lessR], by simp [lessR, W256_pos]⟩
  | succ m => exact mod_bd _
/-- a value of four words that is a number -/
def isNum (A a b c d : Int) : Prop := NUM A = .agg #[.int .u64 a, .int .u64 b, .int .u64 c, .int .u64 d]
/-- the round that adds a term: its three calls, all values known by their words -/
theorem round_calls (Y odd : Int) (m : Nat) (y0 y1 y2 y3 u0 u1 u2 u3 : Int) (hY : 0 ≤ Y ∧ Y < W256) (ho : 0 ≤ odd ∧ odd ≤ 1) (hm : m < 34)
    (nY : isNum Y y0 y1 y2 y3) (nU : isNum (lessR Y odd m) u0 u1 u2 u3) : ∃ q0 q1 q2 q3 p0 p1 p2 p3 v0 v1 v2 v3 : Int,
    Hid (∀ w, Calls Tryz.prog 355 #[.agg #[.int .u64 y0, .int .u64 y1, .int .u64 y2, .int .u64 y3], .int .u64 0, .int .u64 (dTerm odd (34 - m))] w fun e w' => e = .returned (.agg #[.int .u64 q0, .int .u64 q1, .int .u64 q2, .int .u64 q3]) ∧ Below w.heap.size w w') ∧
    Hid (∀ w, Calls Tryz.prog 339 #[.agg #[.int .u64 q0, .int .u64 q1, .int .u64 q2, .int .u64 q3], .agg #[.int .u64 u0, .int .u64 u1, .int .u64 u2, .int .u64 u3]] w fun e w' => e = .returned (.agg #[.int .u64 p0, .int .u64 p1, .int .u64 p2, .int .u64 p3]) ∧ Below w.heap.size w w') ∧
    Hid (∀ w, Calls Tryz.prog 338 #[.agg #[.int .u64 q0, .int .u64 q1, .int .u64 q2, .int .u64 q3], .agg #[.int .u64 p0, .int .u64 p1, .int .u64 p2, .int .u64 p3]] w fun e w' => e = .returned (.agg #[.int .u64 v0, .int .u64 v1, .int .u64 v2, .int .u64 v3]) ∧ Below w.heap.size w w') ∧
    isNum (lessR Y odd (m + 1)) v0 v1 v2 v3 := by
  have d0 : 1 ≤ dTerm odd (34 - m) ∧ dTerm odd (34 - m) ≤ 18446744073709551615 := by
    obtain ⟨k, hk⟩ : ∃ k : Nat, 34 - m = k := ⟨_, rfl⟩
    rw [hk]
    unfold dTerm
    have a1 : 1 ≤ 2 * (k : Int) - 1 + odd := by omega
    have a2 : 2 * (k : Int) - 1 + odd ≤ 68 := by omega
    have b1 : 1 ≤ 2 * (k : Int) + odd := by omega
    have b2 : 2 * (k : Int) + odd ≤ 69 := by omega
    have := Int.mul_le_mul a1 b1 (by omega) (by omega)
    have := Int.mul_le_mul a2 b2 (by omega) (by omega)
    omega
  generalize hd : dTerm odd (34 - m) = d at *
  have D := fun w => ndiv_any Y 0 d w hY.1 hY.2 (by omega) (by omega) d0.2
  have e0 : (0 * W256 + Y) / d = Y / d := by rw [Int.zero_mul, Int.zero_add]
  rw [e0] at D
  have q0 : 0 ≤ Y / d := Int.ediv_nonneg hY.1 (by omega)
  have q1 : Y / d < W256 := by
    have := Int.ediv_le_self d hY.1
    omega
  have ub := lessR_bd Y odd m
  have M := fun w => nmul_any (Y / d) (lessR Y odd m) w q0 q1 ub.1 ub.2
  have S := fun w => nsub_any (Y / d) (mulV (Y / d) (lessR Y odd m)) w q0 q1
  have ev : lessR Y odd (m + 1) = (Y / d - mulV (Y / d) (lessR Y odd m)) % W256 := by rw [← hd]; rfl
  have mb : 0 ≤ mulV (Y / d) (lessR Y odd m) ∧ mulV (Y / d) (lessR Y odd m) < W256 := by
    obtain ⟨a, b, c, e, ha, hb, hc, he, eA, nA⟩ := NUM_words (Y / d) q0 q1
    exact mulV_bd _ _ q0 q1 ub.1 ub.2
  obtain ⟨a0, a1, a2, a3, _, _, _, _, _, nQ⟩ := NUM_words (Y / d) q0 q1
  obtain ⟨b0, b1, b2, b3, _, _, _, _, _, nP⟩ := NUM_words _ mb.1 mb.2
  obtain ⟨c0, c1, c2, c3, _, _, _, _, _, nV⟩ := NUM_words _ (mod_bd (Y / d - mulV (Y / d) (lessR Y odd m))).1 (mod_bd _).2
  unfold isNum at nY nU
  refine ⟨a0, a1, a2, a3, b0, b1, b2, b3, c0, c1, c2, c3, hidden fun w => ?_, hidden fun w => ?_, hidden fun w => ?_, ?_⟩
  · rw [← nY, ← nQ]; exact (D w).mono fun _ _ h => ⟨h.1, h.2.1⟩
  · rw [← nQ, ← nU, ← nP]; exact (M w).mono fun _ _ h => ⟨h.1, h.2.1⟩
  · rw [← nQ, ← nP, ← nV]; exact S w mb.1 mb.2
  · unfold isNum; rw [ev]; exact nV
/-- what holds at the head of each round of the series: u, in a block of the call's own, is the series after m terms, and j terms are left -/
def lessI (w4 : World) (Y odd : Int) (K : Value) (wr : World) : Prop :=
  ∃ (j m : Nat) (u0 u1 u2 u3 : Int), j + m = 34 ∧ K = .int .u64 j ∧ Below w4.heap.size w4 wr ∧ w4.heap.size < wr.heap.size ∧ (∀ o, wr.frozen? ⟨w4.heap.size, o, none⟩ = false) ∧ isNum (lessR Y odd m) u0 u1 u2 u3 ∧
    wr.cell? ⟨w4.heap.size, 0, none⟩ = some (.int .u64 u0) ∧ wr.cell? ⟨w4.heap.size, 1, none⟩ = some (.int .u64 u1) ∧ wr.cell? ⟨w4.heap.size, 2, none⟩ = some (.int .u64 u2) ∧ wr.cell? ⟨w4.heap.size, 3, none⟩ = some (.int .u64 u3)
theorem dTerm_is (odd : Int) (j m : Nat) (h : j + m = 34) (ho : 0 ≤ odd ∧ odd ≤ 1) (hj : 0 < j) : IntKind.u64.wrap ((2 * (j : Int) - 1 + odd) * (2 * (j : Int) + odd)) = dTerm odd (34 - m) := by
  have e : 34 - m = j := by omega
  rw [e]
  unfold dTerm
  have a1 : 1 ≤ 2 * (j : Int) - 1 + odd := by omega
  have a2 : 2 * (j : Int) - 1 + odd ≤ 68 := by omega
  have b1 : 1 ≤ 2 * (j : Int) + odd := by omega
  have b2 : 2 * (j : Int) + odd ≤ 69 := by omega
  have := Int.mul_le_mul a1 b1 (by omega) (by omega)
  have := Int.mul_le_mul a2 b2 (by omega) (by omega)
  rw [IntKind.wrap_u64]; omega
theorem less_rel {w4 w6 wN : World} {Y odd : Int} {j m : Nat} {u0 u1 u2 u3 v0 v1 v2 v3 : Int} (hjm : j + m = 34) (hj : 0 < j) (hb0 : Below w4.heap.size w4 w6) (hb6 : Below w6.heap.size w6 wN) (z : w4.heap.size < w6.heap.size) (fz : ∀ o, w6.frozen? ⟨w4.heap.size, o, none⟩ = false)
    (nV : isNum (lessR Y odd (m + 1)) v0 v1 v2 v3) (g0 : w6.cell? ⟨w4.heap.size, 0, none⟩ = some (.int .u64 u0)) (g1 : w6.cell? ⟨w4.heap.size, 1, none⟩ = some (.int .u64 u1)) (g2 : w6.cell? ⟨w4.heap.size, 2, none⟩ = some (.int .u64 u2)) (g3 : w6.cell? ⟨w4.heap.size, 3, none⟩ = some (.int .u64 u3)) :
    lessI w4 Y odd (.int .u64 ((j : Int) - 1)) ((((wN.setCell ⟨w4.heap.size, 0, none⟩ (.int .u64 v0)).setCell ⟨w4.heap.size, 1, none⟩ (.int .u64 v1)).setCell ⟨w4.heap.size, 2, none⟩ (.int .u64 v2)).setCell ⟨w4.heap.size, 3, none⟩ (.int .u64 v3)) := by
  have hs := hb6.size
  have bc := bcell hb6
  have k : ∀ o, wN.cell? ⟨w4.heap.size, o, none⟩ = w6.cell? ⟨w4.heap.size, o, none⟩ := fun o => bc.1 _ o z
  have f : ∀ o, wN.frozen? ⟨w4.heap.size, o, none⟩ = w6.frozen? ⟨w4.heap.size, o, none⟩ := fun o => bc.2 _ o z
  refine ⟨j - 1, m + 1, v0, v1, v2, v3, by omega, congrArg _ (by omega), ?_, by simp; omega, ?_, nV, ?_, ?_, ?_, ?_⟩
  · exact (((((hb0.trans (hb6.mono (Nat.le_of_lt z))).setCell (Nat.le_refl _) _).setCell (Nat.le_refl _) _).setCell (Nat.le_refl _) _).setCell (Nat.le_refl _) _)
  · intro o; simp [f, fz]
  all_goals simp [go_sem, k, g0, g1, g2, g3]
set_option maxRecDepth 100000 in
set_option maxHeartbeats 4000000 in
theorem less_walk (odd Y xa xb xc xd ya yb yc yd : Int) (w : World) (hY : 0 ≤ Y ∧ Y < W256) (ho0 : 0 ≤ odd) (ho1 : odd ≤ 1) (nY : isNum Y ya yb yc yd)
    (MY : Hid (∀ w, Calls Tryz.prog 339 #[.agg #[.int .u64 xa, .int .u64 xb, .int .u64 xc, .int .u64 xd], .agg #[.int .u64 xa, .int .u64 xb, .int .u64 xc, .int .u64 xd]] w fun e w' => e = .returned (.agg #[.int .u64 ya, .int .u64 yb, .int .u64 yc, .int .u64 yd]) ∧ Below w.heap.size w w')) (v : Value) (hv : NUM (lessR Y odd 34) = v) :
    Calls Tryz.prog 340 #[.agg #[.int .u64 xa, .int .u64 xb, .int .u64 xc, .int .u64 xd], .int .u64 odd] w fun e w' => e = .returned v ∧ Below w.heap.size w w' := by
  replace nY := hidden nY
  replace hv := hidden hv
  replace hY := hidden hY
  go_enter Tryz.func340, Tryz.ntmps340
  go_upto_region 2 with (go_at_call 339; ((with_reducible refine (MY.out _).mono ?_); rintro e w' ⟨rfl, hb⟩); (try replace hb := below_undrew hb); (try replace hb := below_undrewN hb); obtain ⟨hcell, hfroz⟩ := bcell hb; have hz := hb.size; (try simp at hz); (try (have z6 := Nat.lt_of_lt_of_le z7 hz)); (try (have z7 := Nat.lt_of_lt_of_le z8 hz)); (try (have z8 := Nat.lt_of_lt_of_le z9 hz)); (try (have z9 := Nat.lt_of_lt_of_le (Nat.lt_succ_self _) hz)); (try have z0 : w.heap.size < w'.heap.size := by omega); (try have z1 : w.heap.size + 1 < w'.heap.size := by omega); (try have z2 : w.heap.size + 1 + 1 < w'.heap.size := by omega); (try have z3 : w.heap.size + 1 + 1 + 1 < w'.heap.size := by omega); obtain ⟨w3, rfl⟩ : ∃ v, v = w' := ⟨_, rfl⟩)
  (refine name_code ?_; intro w' hb; (try replace hb := below_undrew hb); (try replace hb := below_undrewN hb); obtain ⟨hcell, hfroz⟩ := bcell hb; have hz := hb.size; (try simp at hz); (try (have z6 := Nat.lt_of_lt_of_le z7 hz)); (try (have z7 := Nat.lt_of_lt_of_le z8 hz)); (try (have z8 := Nat.lt_of_lt_of_le z9 hz)); (try (have z9 := Nat.lt_of_lt_of_le (Nat.lt_succ_self _) hz)); (try have z0 : w.heap.size < w'.heap.size := by omega); (try have z1 : w.heap.size + 1 < w'.heap.size := by omega); (try have z2 : w.heap.size + 1 + 1 < w'.heap.size := by omega); (try have z3 : w.heap.size + 1 + 1 + 1 < w'.heap.size := by omega); (try have y3 : w3.heap.size < w'.heap.size := by omega); (try have y4 : w4.heap.size < w'.heap.size := by omega); (try have y5 : w5.heap.size < w'.heap.size := by omega); (try have y6 : w6.heap.size < w'.heap.size := by omega))
  obtain ⟨w4, rfl⟩ : ∃ v, v = w' := ⟨_, rfl⟩
  go_wp2
  go_loopw [7] (fun K wr => lessI w4 Y odd K wr) (fun K _ => (intOf K).toNat)
  case atStart =>
    refine ⟨34, 0, 0, 0, 0, 0, rfl, rfl, by (repeat (first | exact Below.refl _ _ | refine bl_drewN ?_ | refine bl_drew ?_ | refine bl_alloc ?_ _ | refine Below.setCell ?_ (by (first | (simp; done) | (simp; omega) | omega)) _ | refine bl_step (by assumption) ?_)), by simp, ?_, NUM_zero, ?_, ?_, ?_, ?_⟩
    all_goals (simp [go_sem, *]; done)
  case round =>
    obtain ⟨j, m, u0, u1, u2, u3, hjm, rfl, hb, z, fz, nU, g0, g1, g2, g3⟩ := hrel
    obtain ⟨w', rfl⟩ : ∃ v, v = wr := ⟨_, rfl⟩
    (try replace hb := below_undrew hb); (try replace hb := below_undrewN hb); obtain ⟨hcell, hfroz⟩ := bcell hb; have hz := hb.size; (try simp at hz); (try (have z6 := Nat.lt_of_lt_of_le z7 hz)); (try (have z7 := Nat.lt_of_lt_of_le z8 hz)); (try (have z8 := Nat.lt_of_lt_of_le z9 hz)); (try (have z9 := Nat.lt_of_lt_of_le (Nat.lt_succ_self _) hz)); (try have z0 : w.heap.size < w'.heap.size := by omega); (try have z1 : w.heap.size + 1 < w'.heap.size := by omega); (try have z2 : w.heap.size + 1 + 1 < w'.heap.size := by omega); (try have z3 : w.heap.size + 1 + 1 + 1 < w'.heap.size := by omega); (try have y3 : w3.heap.size < w'.heap.size := by omega); (try have y4 : w4.heap.size < w'.heap.size := by omega); (try have y5 : w5.heap.size < w'.heap.size := by omega); (try have y6 : w6.heap.size < w'.heap.size := by omega); (try have x3 : w3.heap.size + 1 < w'.heap.size := by omega); (try have x4 : w4.heap.size + 1 < w'.heap.size := by omega); (try have x5 : w5.heap.size + 1 < w'.heap.size := by omega); (try have x6 : w6.heap.size + 1 < w'.heap.size := by omega)
    obtain ⟨w6, rfl⟩ : ∃ v, v = w' := ⟨_, rfl⟩
    by_cases hj : 0 < j
    · obtain ⟨q0, q1, q2, q3, p0, p1, p2, p3, v0, v1, v2, v3, DQ, MP, SV, nV⟩ := round_calls Y odd m ya yb yc yd u0 u1 u2 u3 hY.out ⟨ho0, ho1⟩ (by omega) nY.out nU
      have hD := dTerm_is odd j m hjm ⟨ho0, ho1⟩ hj
      generalize dTerm odd (34 - m) = D at *
      replace nU := hidden nU
      replace nV := hidden nV
      have j34 : j ≤ 34 := by omega
      replace hjm := hidden hjm
      go_wp2_with (go_at_call 355; ((with_reducible refine (DQ.out _).mono ?_); rintro e w' ⟨rfl, hb⟩); (try replace hb := below_undrew hb); (try replace hb := below_undrewN hb); obtain ⟨hcell, hfroz⟩ := bcell hb; have hz := hb.size; (try simp at hz); (try (have z6 := Nat.lt_of_lt_of_le z7 hz)); (try (have z7 := Nat.lt_of_lt_of_le z8 hz)); (try (have z8 := Nat.lt_of_lt_of_le z9 hz)); (try (have z9 := Nat.lt_of_lt_of_le (Nat.lt_succ_self _) hz)); (try have z0 : w.heap.size < w'.heap.size := by omega); (try have z1 : w.heap.size + 1 < w'.heap.size := by omega); (try have z2 : w.heap.size + 1 + 1 < w'.heap.size := by omega); (try have z3 : w.heap.size + 1 + 1 + 1 < w'.heap.size := by omega); (try have y3 : w3.heap.size < w'.heap.size := by omega); (try have y4 : w4.heap.size < w'.heap.size := by omega); (try have x3 : w3.heap.size + 1 < w'.heap.size := by omega); (try have x4 : w4.heap.size + 1 < w'.heap.size := by omega); obtain ⟨w5, rfl⟩ : ∃ v, v = w' := ⟨_, rfl⟩)
      go_region_with (first | ((go_at_call 339; ((with_reducible refine (MP.out _).mono ?_); rintro e w' ⟨rfl, hb⟩); (try replace hb := below_undrew hb); (try replace hb := below_undrewN hb); obtain ⟨hcell, hfroz⟩ := bcell hb; have hz := hb.size; (try simp at hz); (try (have z6 := Nat.lt_of_lt_of_le z7 hz)); (try (have z7 := Nat.lt_of_lt_of_le z8 hz)); (try (have z8 := Nat.lt_of_lt_of_le z9 hz)); (try (have z9 := Nat.lt_of_lt_of_le (Nat.lt_succ_self _) hz)); (try have z0 : w.heap.size < w'.heap.size := by omega); (try have z1 : w.heap.size + 1 < w'.heap.size := by omega); (try have z2 : w.heap.size + 1 + 1 < w'.heap.size := by omega); (try have z3 : w.heap.size + 1 + 1 + 1 < w'.heap.size := by omega); (try have y3 : w3.heap.size < w'.heap.size := by omega); (try have y4 : w4.heap.size < w'.heap.size := by omega); (try have y5 : w5.heap.size < w'.heap.size := by omega); (try have y6 : w6.heap.size < w'.heap.size := by omega); (try have x3 : w3.heap.size + 1 < w'.heap.size := by omega); (try have x4 : w4.heap.size + 1 < w'.heap.size := by omega); (try have x5 : w5.heap.size + 1 < w'.heap.size := by omega); (try have x6 : w6.heap.size + 1 < w'.heap.size := by omega))) | ((go_at_call 338; ((with_reducible refine (SV.out _).mono ?_); rintro e w' ⟨rfl, hb⟩); (try replace hb := below_undrew hb); (try replace hb := below_undrewN hb); obtain ⟨hcell, hfroz⟩ := bcell hb; have hz := hb.size; (try simp at hz); (try (have z6 := Nat.lt_of_lt_of_le z7 hz)); (try (have z7 := Nat.lt_of_lt_of_le z8 hz)); (try (have z8 := Nat.lt_of_lt_of_le z9 hz)); (try (have z9 := Nat.lt_of_lt_of_le (Nat.lt_succ_self _) hz)); (try have z0 : w.heap.size < w'.heap.size := by omega); (try have z1 : w.heap.size + 1 < w'.heap.size := by omega); (try have z2 : w.heap.size + 1 + 1 < w'.heap.size := by omega); (try have z3 : w.heap.size + 1 + 1 + 1 < w'.heap.size := by omega); (try have y3 : w3.heap.size < w'.heap.size := by omega); (try have y4 : w4.heap.size < w'.heap.size := by omega); (try have y5 : w5.heap.size < w'.heap.size := by omega); (try have y6 : w6.heap.size < w'.heap.size := by omega); (try have x3 : w3.heap.size + 1 < w'.heap.size := by omega); (try have x4 : w4.heap.size + 1 < w'.heap.size := by omega); (try have x5 : w5.heap.size + 1 < w'.heap.size := by omega); (try have x6 : w6.heap.size + 1 < w'.heap.size := by omega))))
      all_goals go_wp2
      all_goals go_roundw
      all_goals (first
        | (exact less_rel hjm.out hj (by assumption) (by (repeat (first | exact Below.refl _ _ | refine bl_drewN ?_ | refine bl_drew ?_ | refine bl_alloc ?_ _ | refine Below.setCell ?_ (by (first | (simp; done) | (simp; omega) | omega)) _ | refine bl_step (by assumption) ?_))) z fz nV.out g0 g1 g2 g3)
        | (simp [intOf]; omega))
    · obtain rfl : j = 0 := by omega
      obtain rfl : m = 34 := by omega
      replace nU := hidden nU
      go_wp2
      exact bodyPost_ret (v := .agg #[.int .u64 u0, .int .u64 u1, .int .u64 u2, .int .u64 u3]) (by first | (simp only [results, Tryz.results340]; go_simp; done) | simp [results, Tryz.results340, go_sem, *]) rfl ⟨by rw [← hv.out]; exact congrArg _ nU.out.symm, by (repeat (first | exact Below.refl _ _ | refine bl_drewN ?_ | refine bl_drew ?_ | refine bl_alloc ?_ _ | refine Below.setCell ?_ (by (first | (simp; done) | (simp; omega) | omega)) _ | refine bl_step (by assumption) ?_))⟩
theorem less_any (X odd : Int) (w : World) (a0 : 0 ≤ X) (a1 : X < W256) (ho0 : 0 ≤ odd) (ho1 : odd ≤ 1) :
    Calls Tryz.prog 340 #[NUM X, .int .u64 odd] w fun e w' => e = .returned (NUM (lessV X odd)) ∧ Below w.heap.size w w' := by
  have m := mulV_bd X X a0 a1 a0 a1
  obtain ⟨xa, xb, xc, xd, _, _, _, _, _, nX⟩ := NUM_words X a0 a1
  obtain ⟨ya, yb, yc, yd, _, _, _, _, _, nY⟩ := NUM_words (mulV X X) m.1 m.2
  have MY := fun w => nmul_any X X w a0 a1 a0 a1
  rw [nX]
  refine less_walk odd (mulV X X) xa xb xc xd ya yb yc yd w m ho0 ho1 nY (hidden fun w => ?_) _ rfl
  rw [← nX, ← nY]
  exact (MY w).mono fun _ _ h => ⟨h.1, h.2.1⟩
/-- 2^256 times the sine of n units, nearly, modulo 2^256 -/
def sinS (n : Int) : Int := (radV n - mulV (radV n) (lessV (radV n) 1)) % W256
def cosS (n : Int) : Int := (0 - lessV (radV n) 0) % W256
def sinN (n : Int) : Int := if 2 * n ≤ 5400000 then sinS n else cosS (5400000 - n)
def exactB (n : Int) : Bool := decide (n = 0) || decide (n = 1800000) || decide (n = 5400000)
/-- One times the sine of n units, rounded down -/
def sinLo (n : Int) : Int := if n = 0 then 0 else if n = 1800000 then 536870912 else if n = 5400000 then 1073741824 else sinN n / (W64 * W64 * W64) / 17179869184
theorem lessV_bd (X odd : Int) : 0 ≤ lessV X odd ∧ lessV X odd < W256 := lessR_bd _ _ _
theorem held4_start {w wN : World} (h : Below w.heap.size w wN) : Below w.heap.size w wN.drew ∧ (∀ b o, w.heap.size < b → b < wN.heap.size → wN.drew.cell? ⟨b, o, none⟩ = wN.cell? ⟨b, o, none⟩) ∧ (∀ b o, b < wN.heap.size → wN.drew.frozen? ⟨b, o, none⟩ = wN.frozen? ⟨b, o, none⟩) :=
  ⟨h.drew, fun _ _ _ _ => by simp, fun _ _ _ => by simp⟩
theorem held4_of {w wN v : World} (h : Below w.heap.size w wN) (hv : Below wN.heap.size wN v) : Below w.heap.size w v ∧ (∀ b o, w.heap.size < b → b < wN.heap.size → v.cell? ⟨b, o, none⟩ = wN.cell? ⟨b, o, none⟩) ∧ (∀ b o, b < wN.heap.size → v.frozen? ⟨b, o, none⟩ = wN.frozen? ⟨b, o, none⟩) :=
  ⟨bl_step hv h, fun b o _ hb => (bcell hv).1 b o hb, fun b o hb => (bcell hv).2 b o hb⟩
theorem held4_store {w wN v : World} (h : Below w.heap.size w wN) (hv : Below wN.heap.size wN v) (x0 x1 x2 x3 : Value) :
    Below w.heap.size w ((((v.setCell ⟨w.heap.size, 0, none⟩ x0).setCell ⟨w.heap.size, 1, none⟩ x1).setCell ⟨w.heap.size, 2, none⟩ x2).setCell ⟨w.heap.size, 3, none⟩ x3) ∧
    (∀ b o, w.heap.size < b → b < wN.heap.size → ((((v.setCell ⟨w.heap.size, 0, none⟩ x0).setCell ⟨w.heap.size, 1, none⟩ x1).setCell ⟨w.heap.size, 2, none⟩ x2).setCell ⟨w.heap.size, 3, none⟩ x3).cell? ⟨b, o, none⟩ = wN.cell? ⟨b, o, none⟩) ∧
    (∀ b o, b < wN.heap.size → ((((v.setCell ⟨w.heap.size, 0, none⟩ x0).setCell ⟨w.heap.size, 1, none⟩ x1).setCell ⟨w.heap.size, 2, none⟩ x2).setCell ⟨w.heap.size, 3, none⟩ x3).frozen? ⟨b, o, none⟩ = wN.frozen? ⟨b, o, none⟩) := by
  refine ⟨((((bl_step hv h).setCell (Nat.le_refl _) _).setCell (Nat.le_refl _) _).setCell (Nat.le_refl _) _).setCell (Nat.le_refl _) _, fun b o hb hN => ?_, fun b o hN => ?_⟩
  · have ne : ∀ p, (⟨w.heap.size, p, none⟩ : Addr) ≠ ⟨b, o, none⟩ := fun p e => by injection e with e; omega
    rw [World.cell?_setCell_other _ _ _ _ (ne 3), World.cell?_setCell_other _ _ _ _ (ne 2), World.cell?_setCell_other _ _ _ _ (ne 1), World.cell?_setCell_other _ _ _ _ (ne 0)]
    exact (bcell hv).1 b o hN
  · simp; exact (bcell hv).2 b o hN
set_option maxHeartbeats 16000000 in
theorem sine_sin (n xa xb xc xd la lb lc ld ma mb mc md sa sb sc sd : Int) (w : World) (n0 : 0 < n) (n1 : n ≠ 1800000) (n2 : 2 * n ≤ 5400000)
    (R : Hid (∀ w, Calls Tryz.prog 337 #[.int .i64 n] w fun e w' => e = .returned (.agg #[.int .u64 xa, .int .u64 xb, .int .u64 xc, .int .u64 xd]) ∧ Below w.heap.size w w'))
    (L : Hid (∀ w, Calls Tryz.prog 340 #[.agg #[.int .u64 xa, .int .u64 xb, .int .u64 xc, .int .u64 xd], .int .u64 1] w fun e w' => e = .returned (.agg #[.int .u64 la, .int .u64 lb, .int .u64 lc, .int .u64 ld]) ∧ Below w.heap.size w w'))
    (M : Hid (∀ w, Calls Tryz.prog 339 #[.agg #[.int .u64 xa, .int .u64 xb, .int .u64 xc, .int .u64 xd], .agg #[.int .u64 la, .int .u64 lb, .int .u64 lc, .int .u64 ld]] w fun e w' => e = .returned (.agg #[.int .u64 ma, .int .u64 mb, .int .u64 mc, .int .u64 md]) ∧ Below w.heap.size w w'))
    (S : Hid (∀ w, Calls Tryz.prog 338 #[.agg #[.int .u64 xa, .int .u64 xb, .int .u64 xc, .int .u64 xd], .agg #[.int .u64 ma, .int .u64 mb, .int .u64 mc, .int .u64 md]] w fun e w' => e = .returned (.agg #[.int .u64 sa, .int .u64 sb, .int .u64 sc, .int .u64 sd]) ∧ Below w.heap.size w w'))
    (s0 : 0 ≤ sa) (s1 : sa ≤ 18446744073709551615) :
    Calls Tryz.prog 304 #[.int .i64 n] w fun e w' => e = .returned (.tuple #[.int .i64 (sa / 17179869184), .bool false]) ∧ Below w.heap.size w w' := by
  have e1 : (n == 0) = false := by simp; omega
  have e2 : (n == 1800000) = false := by simpa using n1
  have e3 : (n == 5400000) = false := by simp; omega
  go_enter Tryz.func304, Tryz.ntmps304
  go_upto_region 11 with (go_at_call 337; ((with_reducible refine (R.out _).mono ?_); rintro e w' ⟨rfl, hb⟩); (try replace hb := below_undrew hb); (try replace hb := below_undrewN hb); obtain ⟨hcell, hfroz⟩ := bcell hb; have hz := hb.size; (try simp at hz); (try (have z6 := Nat.lt_of_lt_of_le z7 hz)); (try (have z7 := Nat.lt_of_lt_of_le z8 hz)); (try (have z8 := Nat.lt_of_lt_of_le z9 hz)); (try (have z9 := Nat.lt_of_lt_of_le (Nat.lt_succ_self _) hz)); (try have z0 : w.heap.size < w'.heap.size := by omega); (try have z1 : w.heap.size + 1 < w'.heap.size := by omega); (try have z2 : w.heap.size + 1 + 1 < w'.heap.size := by omega); (try have z3 : w.heap.size + 1 + 1 + 1 < w'.heap.size := by omega); obtain ⟨w1, rfl⟩ : ∃ v, v = w' := ⟨_, rfl⟩)
  have zz : w.heap.size < w1.heap.size + 1 := by omega
  (refine name_below ?_; intro w' hb; (try replace hb := below_undrew hb); (try replace hb := below_undrewN hb); obtain ⟨hcell, hfroz⟩ := bcell hb; have hz := hb.size; (try simp at hz); (try (have z6 := Nat.lt_of_lt_of_le z7 hz)); (try (have z7 := Nat.lt_of_lt_of_le z8 hz)); (try (have z8 := Nat.lt_of_lt_of_le z9 hz)); (try (have z9 := Nat.lt_of_lt_of_le (Nat.lt_succ_self _) hz)); (try have z0 : w.heap.size < w'.heap.size := by omega); (try have z1 : w.heap.size + 1 < w'.heap.size := by omega); (try have z2 : w.heap.size + 1 + 1 < w'.heap.size := by omega); (try have z3 : w.heap.size + 1 + 1 + 1 < w'.heap.size := by omega); (try have y1 : w1.heap.size < w'.heap.size := by omega))
  replace hb : Below w.heap.size w w' := bl_step hb (by (repeat (first | exact Below.refl _ _ | refine bl_drewN ?_ | refine bl_drew ?_ | refine bl_alloc ?_ _ | refine Below.setCell ?_ (by (first | (simp; done) | (simp; omega) | omega)) _ | refine bl_step (by assumption) ?_)))
  obtain ⟨w1, rfl⟩ : ∃ v, v = w' := ⟨_, rfl⟩
  have z1 : w.heap.size < w1.heap.size := by omega
  clear R
  go_region_held3 (fun v => Below w.heap.size w v ∧ (∀ b o, w.heap.size < b → b < w1.heap.size → v.cell? ⟨b, o, none⟩ = w1.cell? ⟨b, o, none⟩) ∧ (∀ b o, b < w1.heap.size → v.frozen? ⟨b, o, none⟩ = w1.frozen? ⟨b, o, none⟩)) (first | exact held4_start (by assumption) | (refine held4_of (by assumption) ?_; (repeat (first | exact Below.refl _ _ | refine bl_drewN ?_ | refine bl_drew ?_ | refine bl_alloc ?_ _ | refine Below.setCell ?_ (by (first | (simp; done) | (simp; omega) | omega)) _ | refine bl_step (by assumption) ?_)); done) | (refine held4_store (by assumption) ?_ _ _ _ _; (repeat (first | exact Below.refl _ _ | refine bl_drewN ?_ | refine bl_drew ?_ | refine bl_alloc ?_ _ | refine Below.setCell ?_ (by (first | (simp; done) | (simp; omega) | omega)) _ | refine bl_step (by assumption) ?_)); done)) (first | ((go_at_call 340; ((with_reducible refine (L.out _).mono ?_); rintro e w' ⟨rfl, hb⟩); (try replace hb := below_undrew hb); (try replace hb := below_undrewN hb); obtain ⟨hcell, hfroz⟩ := bcell hb; have hz := hb.size; (try simp at hz); (try (have z6 := Nat.lt_of_lt_of_le z7 hz)); (try (have z7 := Nat.lt_of_lt_of_le z8 hz)); (try (have z8 := Nat.lt_of_lt_of_le z9 hz)); (try (have z9 := Nat.lt_of_lt_of_le (Nat.lt_succ_self _) hz)); (try have z0 : w.heap.size < w'.heap.size := by omega); (try have z1 : w.heap.size + 1 < w'.heap.size := by omega); (try have z2 : w.heap.size + 1 + 1 < w'.heap.size := by omega); (try have z3 : w.heap.size + 1 + 1 + 1 < w'.heap.size := by omega); (try have y1 : w1.heap.size < w'.heap.size := by omega); (try have x1 : w1.heap.size + 1 < w'.heap.size := by omega))) | ((go_at_call 339; ((with_reducible refine (M.out _).mono ?_); rintro e w' ⟨rfl, hb⟩); (try replace hb := below_undrew hb); (try replace hb := below_undrewN hb); obtain ⟨hcell, hfroz⟩ := bcell hb; have hz := hb.size; (try simp at hz); (try (have z6 := Nat.lt_of_lt_of_le z7 hz)); (try (have z7 := Nat.lt_of_lt_of_le z8 hz)); (try (have z8 := Nat.lt_of_lt_of_le z9 hz)); (try (have z9 := Nat.lt_of_lt_of_le (Nat.lt_succ_self _) hz)); (try have z0 : w.heap.size < w'.heap.size := by omega); (try have z1 : w.heap.size + 1 < w'.heap.size := by omega); (try have z2 : w.heap.size + 1 + 1 < w'.heap.size := by omega); (try have z3 : w.heap.size + 1 + 1 + 1 < w'.heap.size := by omega); (try have y1 : w1.heap.size < w'.heap.size := by omega); (try have x1 : w1.heap.size + 1 < w'.heap.size := by omega))) | ((go_at_call 338; ((with_reducible refine (S.out _).mono ?_); rintro e w' ⟨rfl, hb⟩); (try replace hb := below_undrew hb); (try replace hb := below_undrewN hb); obtain ⟨hcell, hfroz⟩ := bcell hb; have hz := hb.size; (try simp at hz); (try (have z6 := Nat.lt_of_lt_of_le z7 hz)); (try (have z7 := Nat.lt_of_lt_of_le z8 hz)); (try (have z8 := Nat.lt_of_lt_of_le z9 hz)); (try (have z9 := Nat.lt_of_lt_of_le (Nat.lt_succ_self _) hz)); (try have z0 : w.heap.size < w'.heap.size := by omega); (try have z1 : w.heap.size + 1 < w'.heap.size := by omega); (try have z2 : w.heap.size + 1 + 1 < w'.heap.size := by omega); (try have z3 : w.heap.size + 1 + 1 + 1 < w'.heap.size := by omega); (try have y1 : w1.heap.size < w'.heap.size := by omega); (try have x1 : w1.heap.size + 1 < w'.heap.size := by omega))))
  go_wp2
  go_ret2
  exact ⟨rfl, by (repeat (first | exact Below.refl _ _ | refine bl_drewN ?_ | refine bl_drew ?_ | refine bl_alloc ?_ _ | refine Below.setCell ?_ (by (first | (simp; done) | (simp; omega) | omega)) _ | refine bl_step (by assumption) ?_))⟩
set_option maxHeartbeats 4000000 in
theorem sine_cos (n xa xb xc xd la lb lc ld sa sb sc sd : Int) (w : World) (n0 : n ≠ 5400000) (n1 : n ≤ 5400000) (n2 : ¬ 2 * n ≤ 5400000)
    (R : Hid (∀ w, Calls Tryz.prog 337 #[.int .i64 (5400000 - n)] w fun e w' => e = .returned (.agg #[.int .u64 xa, .int .u64 xb, .int .u64 xc, .int .u64 xd]) ∧ Below w.heap.size w w'))
    (L : Hid (∀ w, Calls Tryz.prog 340 #[.agg #[.int .u64 xa, .int .u64 xb, .int .u64 xc, .int .u64 xd], .int .u64 0] w fun e w' => e = .returned (.agg #[.int .u64 la, .int .u64 lb, .int .u64 lc, .int .u64 ld]) ∧ Below w.heap.size w w'))
    (S : Hid (∀ w, Calls Tryz.prog 338 #[.agg #[.int .u64 0, .int .u64 0, .int .u64 0, .int .u64 0], .agg #[.int .u64 la, .int .u64 lb, .int .u64 lc, .int .u64 ld]] w fun e w' => e = .returned (.agg #[.int .u64 sa, .int .u64 sb, .int .u64 sc, .int .u64 sd]) ∧ Below w.heap.size w w'))
    (s0 : 0 ≤ sa) (s1 : sa ≤ 18446744073709551615) :
    Calls Tryz.prog 304 #[.int .i64 n] w fun e w' => e = .returned (.tuple #[.int .i64 (sa / 17179869184), .bool false]) ∧ Below w.heap.size w w' := by
  have e1 : (n == 0) = false := by simp; omega
  have e2 : (n == 1800000) = false := by simp; omega
  have e3 : (n == 5400000) = false := by simpa using n0
  go_enter Tryz.func304, Tryz.ntmps304
  go_wp2_with (first | ((go_at_call 337; ((with_reducible refine (R.out _).mono ?_); rintro e w' ⟨rfl, hb⟩); (try replace hb := below_undrew hb); (try replace hb := below_undrewN hb); obtain ⟨hcell, hfroz⟩ := bcell hb; have hz := hb.size; (try simp at hz); (try (have z6 := Nat.lt_of_lt_of_le z7 hz)); (try (have z7 := Nat.lt_of_lt_of_le z8 hz)); (try (have z8 := Nat.lt_of_lt_of_le z9 hz)); (try (have z9 := Nat.lt_of_lt_of_le (Nat.lt_succ_self _) hz)); (try have z0 : w.heap.size < w'.heap.size := by omega); (try have z1 : w.heap.size + 1 < w'.heap.size := by omega); (try have z2 : w.heap.size + 1 + 1 < w'.heap.size := by omega); (try have z3 : w.heap.size + 1 + 1 + 1 < w'.heap.size := by omega))) | ((go_at_call 340; ((with_reducible refine (L.out _).mono ?_); rintro e w' ⟨rfl, hb⟩); (try replace hb := below_undrew hb); (try replace hb := below_undrewN hb); obtain ⟨hcell, hfroz⟩ := bcell hb; have hz := hb.size; (try simp at hz); (try (have z6 := Nat.lt_of_lt_of_le z7 hz)); (try (have z7 := Nat.lt_of_lt_of_le z8 hz)); (try (have z8 := Nat.lt_of_lt_of_le z9 hz)); (try (have z9 := Nat.lt_of_lt_of_le (Nat.lt_succ_self _) hz)); (try have z0 : w.heap.size < w'.heap.size := by omega); (try have z1 : w.heap.size + 1 < w'.heap.size := by omega); (try have z2 : w.heap.size + 1 + 1 < w'.heap.size := by omega); (try have z3 : w.heap.size + 1 + 1 + 1 < w'.heap.size := by omega))) | ((go_at_call 338; ((with_reducible refine (S.out _).mono ?_); rintro e w' ⟨rfl, hb⟩); (try replace hb := below_undrew hb); (try replace hb := below_undrewN hb); obtain ⟨hcell, hfroz⟩ := bcell hb; have hz := hb.size; (try simp at hz); (try (have z6 := Nat.lt_of_lt_of_le z7 hz)); (try (have z7 := Nat.lt_of_lt_of_le z8 hz)); (try (have z8 := Nat.lt_of_lt_of_le z9 hz)); (try (have z9 := Nat.lt_of_lt_of_le (Nat.lt_succ_self _) hz)); (try have z0 : w.heap.size < w'.heap.size := by omega); (try have z1 : w.heap.size + 1 < w'.heap.size := by omega); (try have z2 : w.heap.size + 1 + 1 < w'.heap.size := by omega); (try have z3 : w.heap.size + 1 + 1 + 1 < w'.heap.size := by omega))))
  go_ret2
  exact ⟨rfl, by (repeat (first | exact Below.refl _ _ | refine bl_drewN ?_ | refine bl_drew ?_ | refine bl_alloc ?_ _ | refine Below.setCell ?_ (by (first | (simp; done) | (simp; omega) | omega)) _ | refine bl_step (by assumption) ?_))⟩
theorem sine_exact (n : Int) (w : World) (h : exactB n = true) :
    Calls Tryz.prog 304 #[.int .i64 n] w fun e w' => e = .returned (.tuple #[.int .i64 (sinLo n), .bool true]) ∧ Below w.heap.size w w' := by
  have k : n = 0 ∨ n = 1800000 ∨ n = 5400000 := by
    unfold exactB at h; simp at h; omega
  rcases k with rfl | rfl | rfl
  · go_enter Tryz.func304, Tryz.ntmps304
    go_wp2
    go_ret2
    exact ⟨rfl, by (repeat (first | exact Below.refl _ _ | refine bl_drewN ?_ | refine bl_drew ?_ | refine bl_alloc ?_ _ | refine Below.setCell ?_ (by (first | (simp; done) | (simp; omega) | omega)) _ | refine bl_step (by assumption) ?_))⟩
  · go_enter Tryz.func304, Tryz.ntmps304
    go_wp2
    go_ret2
    exact ⟨rfl, by (repeat (first | exact Below.refl _ _ | refine bl_drewN ?_ | refine bl_drew ?_ | refine bl_alloc ?_ _ | refine Below.setCell ?_ (by (first | (simp; done) | (simp; omega) | omega)) _ | refine bl_step (by assumption) ?_))⟩
  · go_enter Tryz.func304, Tryz.ntmps304
    go_wp2
    go_ret2
    exact ⟨rfl, by (repeat (first | exact Below.refl _ _ | refine bl_drewN ?_ | refine bl_drew ?_ | refine bl_alloc ?_ _ | refine Below.setCell ?_ (by (first | (simp; done) | (simp; omega) | omega)) _ | refine bl_step (by assumption) ?_))⟩
theorem sinN_bd (n : Int) : 0 ≤ sinN n ∧ sinN n < W256 := by
  unfold sinN; split <;> exact mod_bd _
theorem sinLo_lt (r : Int) (_h0 : 0 ≤ r) (_h1 : r ≤ 5400000) (h : exactB r = false) : 0 ≤ sinLo r ∧ sinLo r < 1073741824 := by
  have k : ¬ r = 0 ∧ ¬ r = 1800000 ∧ ¬ r = 5400000 := by
    unfold exactB at h; simp at h; omega
  have b := sinN_bd r
  unfold sinLo
  rw [if_neg k.1, if_neg k.2.1, if_neg k.2.2]
  unfold W256 W64 at *
  omega
theorem sinLo_bd (r : Int) (h0 : 0 ≤ r) (h1 : r ≤ 5400000) : 0 ≤ sinLo r ∧ sinLo r ≤ 1073741824 := by
  cases h : exactB r
  · have := sinLo_lt r h0 h1 h; omega
  · have k : r = 0 ∨ r = 1800000 ∨ r = 5400000 := by
      unfold exactB at h; simp at h; omega
    rcases k with rfl | rfl | rfl <;> decide
theorem sine_any (n : Int) (w : World) (n0 : 0 ≤ n) (n1 : n ≤ 5400000) :
    Calls Tryz.prog 304 #[.int .i64 n] w fun e w' => e = .returned (.tuple #[.int .i64 (sinLo n), .bool (exactB n)]) ∧ Below w.heap.size w w' := by
  cases h : exactB n
  · have k : ¬ n = 0 ∧ ¬ n = 1800000 ∧ ¬ n = 5400000 := by
      unfold exactB at h; simp at h; omega
    have ev : sinLo n = sinN n / (W64 * W64 * W64) / 17179869184 := by
      unfold sinLo; rw [if_neg k.1, if_neg k.2.1, if_neg k.2.2]
    have sb := sinN_bd n
    obtain ⟨sa, sb2, sc, sd, wa, _, _, _, eS, nS⟩ := NUM_words (sinN n) sb.1 sb.2
    have es : sinN n / (W64 * W64 * W64) = sa := by
      have := nS
      unfold NUM at this
      injection this with this
      simp at this
      exact this.1
    rw [ev, es]
    by_cases h2 : 2 * n ≤ 5400000
    · have e : sinN n = sinS n := if_pos h2
      rw [e] at nS
      have R := fun w => rad_any n w n0 (by omega)
      have X : 0 ≤ radV n ∧ radV n < W256 := radV_bd n n0 (by omega)
      have lb := lessV_bd (radV n) 1
      have mb := mulV_bd (radV n) (lessV (radV n) 1) X.1 X.2 lb.1 lb.2
      obtain ⟨xa, xb, xc, xd, _, _, _, _, _, nX⟩ := NUM_words (radV n) X.1 X.2
      obtain ⟨la, lb2, lc, ld, _, _, _, _, _, nL⟩ := NUM_words _ lb.1 lb.2
      obtain ⟨ma, mb2, mc, md, _, _, _, _, _, nM⟩ := NUM_words _ mb.1 mb.2
      refine sine_sin n xa xb xc xd la lb2 lc ld ma mb2 mc md sa sb2 sc sd w (by omega) k.2.1 h2 (hidden fun w => ?_) (hidden fun w => ?_) (hidden fun w => ?_) (hidden fun w => ?_) wa.1 wa.2
      · rw [← nX]; exact (R w).mono fun _ _ h => ⟨h.1, h.2.1⟩
      · rw [← nX, ← nL]; exact less_any _ _ w X.1 X.2 (by omega) (by omega)
      · rw [← nX, ← nL, ← nM]; exact (nmul_any _ _ w X.1 X.2 lb.1 lb.2).mono fun _ _ h => ⟨h.1, h.2.1⟩
      · rw [← nX, ← nM, ← nS]; exact nsub_any _ _ w X.1 X.2 mb.1 mb.2
    · have e : sinN n = cosS (5400000 - n) := if_neg h2
      rw [e] at nS
      have X : 0 ≤ radV (5400000 - n) ∧ radV (5400000 - n) < W256 := radV_bd (5400000 - n) (by omega) (by omega)
      have lb := lessV_bd (radV (5400000 - n)) 0
      obtain ⟨xa, xb, xc, xd, _, _, _, _, _, nX⟩ := NUM_words (radV (5400000 - n)) X.1 X.2
      obtain ⟨la, lb2, lc, ld, _, _, _, _, _, nL⟩ := NUM_words _ lb.1 lb.2
      refine sine_cos n xa xb xc xd la lb2 lc ld sa sb2 sc sd w k.2.2 n1 h2 (hidden fun w => ?_) (hidden fun w => ?_) (hidden fun w => ?_) wa.1 wa.2
      · rw [← nX]; exact (rad_any _ w (by omega) (by omega)).mono fun _ _ h => ⟨h.1, h.2.1⟩
      · rw [← nX, ← nL]; exact less_any _ _ w X.1 X.2 (by omega) (by omega)
      · rw [← NUM_zero, ← nL, ← nS]; exact nsub_any _ _ w (by omega) W256_pos lb.1 lb.2
  · exact sine_exact n w h
theorem turned_any (n : Int) (w : World) :
    Calls Tryz.prog 303 #[.int .i64 n] w fun e w' => e = .returned (.int .i64 (n % 21600000)) ∧ w = w' := by
  obtain ⟨t, ht⟩ : ∃ t, n.tmod 21600000 = t := ⟨_, rfl⟩
  have hd := Int.mul_tdiv_add_tmod n 21600000
  rw [ht] at hd
  have h1 : -21600000 < t ∧ t < 21600000 := by
    have e := Int.natAbs_tmod n 21600000
    have e2 : Int.natAbs 21600000 = 21600000 := rfl
    rw [ht, e2] at e
    omega
  by_cases hn : 0 ≤ n
  · have ht2 : n.tmod 21600000 = n % 21600000 := Int.tmod_eq_emod_of_nonneg hn
    clear hd h1 ht
    have h0 : 0 ≤ n % 21600000 := by omega
    go_enter Tryz.func303, Tryz.ntmps303
    go_wp2
    go_ret
    exact ⟨rfl, rfl⟩
  · have hs : t ≤ 0 := by
      have e : n.tmod 21600000 = -((-n).tmod 21600000) := by rw [Int.neg_tmod, Int.neg_neg]
      rw [ht, Int.tmod_eq_emod_of_nonneg (show 0 ≤ -n by omega)] at e
      omega
    generalize n.tdiv 21600000 = q at *
    by_cases hz : t < 0
    · have E : Hid (t + 21600000 = n % 21600000) := by unfold Hid; omega
      have l1 := h1.1
      have l2 := h1.2
      clear hd h1
      go_enter Tryz.func303, Tryz.ntmps303
      go_wp2
      go_ret
      exact ⟨ret_one E.out, rfl⟩
    · have E : Hid (t = n % 21600000) := by unfold Hid; omega
      have l1 := h1.1
      have l2 := h1.2
      clear hd h1
      go_enter Tryz.func303, Tryz.ntmps303
      go_wp2
      go_ret
      exact ⟨ret_one E.out, rfl⟩
def upB (r : Int) : Int := if exactB r then sinLo r else sinLo r + 1
/-- the angle of the first quarter that has the same sine, but for the sign -/
def redA (n : Int) : Int :=
  if 10800000 < n % 21600000 then (if 5400000 < n % 21600000 - 10800000 then 10800000 - (n % 21600000 - 10800000) else n % 21600000 - 10800000)
  else (if 5400000 < n % 21600000 then 10800000 - n % 21600000 else n % 21600000)
def bLo (n : Int) : Int := if 10800000 < n % 21600000 then -(upB (redA n)) else sinLo (redA n)
def bHi (n : Int) : Int := if 10800000 < n % 21600000 then -(sinLo (redA n)) else upB (redA n)
theorem redA_bd (n : Int) : 0 ≤ redA n ∧ redA n ≤ 5400000 := by unfold redA; split <;> split <;> omega
theorem upB_bd (r : Int) (h : 0 ≤ r ∧ r ≤ 5400000) : sinLo r ≤ upB r ∧ upB r ≤ sinLo r + 1 ∧ upB r ≤ 1073741824 := by
  have b := sinLo_bd r h.1 h.2
  unfold upB
  split
  · omega
  · rename_i e
    have := (sinLo_lt r h.1 h.2 (by simpa using e)).2
    omega
theorem b_bd (n : Int) : -1073741824 ≤ bLo n ∧ bLo n ≤ bHi n ∧ bHi n ≤ bLo n + 1 ∧ bHi n ≤ 1073741824 := by
  have r := redA_bd n
  have u := upB_bd (redA n) r
  have b := sinLo_bd (redA n) r.1 r.2
  unfold bLo bHi
  split <;> omega
set_option maxHeartbeats 1000000 in
theorem bounds_walk (n m r lo : Int) (E : Bool) (up : Int) (w : World) (hm : n % 21600000 = m) (m0 : 0 ≤ m) (m1 : m < 21600000)
    (hr : r = if 10800000 < m then (if 5400000 < m - 10800000 then 10800000 - (m - 10800000) else m - 10800000) else (if 5400000 < m then 10800000 - m else m))
    (S : Hid (∀ w, Calls Tryz.prog 304 #[.int .i64 r] w fun e w' => e = .returned (.tuple #[.int .i64 lo, .bool E]) ∧ Below w.heap.size w w')) (l0 : 0 ≤ lo) (l1 : lo ≤ 1073741824) (hu : up = if E then lo else lo + 1) :
    Calls Tryz.prog 266 #[.int .i64 n] w fun e w' => e = .returned (.tuple #[.int .i64 (if 10800000 < m then -up else lo), .int .i64 (if 10800000 < m then -lo else up)]) ∧ Below w.heap.size w w' := by
  have T := hidden fun w => turned_any n w
  rw [hm] at T
  clear hm
  by_cases h1 : 10800000 < m
  · rw [if_pos h1] at hr
    rw [if_pos h1, if_pos h1]
    by_cases h2 : 5400000 < m - 10800000
    · rw [if_pos h2] at hr
      subst hr
      cases E
      all_goals
        simp at hu
        subst hu
        go_enter Tryz.func266, Tryz.ntmps266
        go_wp2_with (first | (go_at_call 303; ((with_reducible refine (T.out _).mono ?_); rintro e w' ⟨rfl, rfl⟩)) | (go_at_call 304; ((with_reducible refine (S.out _).mono ?_); rintro e w' ⟨rfl, hb⟩); (try replace hb := below_undrew hb); (try replace hb := below_undrewN hb); obtain ⟨hcell, hfroz⟩ := bcell hb; have hz := hb.size; (try simp at hz); (try (have z6 := Nat.lt_of_lt_of_le z7 hz)); (try (have z7 := Nat.lt_of_lt_of_le z8 hz)); (try (have z8 := Nat.lt_of_lt_of_le z9 hz)); (try (have z9 := Nat.lt_of_lt_of_le (Nat.lt_succ_self _) hz)); (try have z0 : w.heap.size < w'.heap.size := by omega); (try have z1 : w.heap.size + 1 < w'.heap.size := by omega); (try have z2 : w.heap.size + 1 + 1 < w'.heap.size := by omega); (try have z3 : w.heap.size + 1 + 1 + 1 < w'.heap.size := by omega)))
        go_ret2
        exact ⟨rfl, by (repeat (first | exact Below.refl _ _ | refine bl_drewN ?_ | refine bl_drew ?_ | refine bl_alloc ?_ _ | refine Below.setCell ?_ (by (first | (simp; done) | (simp; omega) | omega)) _ | refine bl_step (by assumption) ?_))⟩
    · rw [if_neg h2] at hr
      subst hr
      cases E
      all_goals
        simp at hu
        subst hu
        go_enter Tryz.func266, Tryz.ntmps266
        go_wp2_with (first | (go_at_call 303; ((with_reducible refine (T.out _).mono ?_); rintro e w' ⟨rfl, rfl⟩)) | (go_at_call 304; ((with_reducible refine (S.out _).mono ?_); rintro e w' ⟨rfl, hb⟩); (try replace hb := below_undrew hb); (try replace hb := below_undrewN hb); obtain ⟨hcell, hfroz⟩ := bcell hb; have hz := hb.size; (try simp at hz); (try (have z6 := Nat.lt_of_lt_of_le z7 hz)); (try (have z7 := Nat.lt_of_lt_of_le z8 hz)); (try (have z8 := Nat.lt_of_lt_of_le z9 hz)); (try (have z9 := Nat.lt_of_lt_of_le (Nat.lt_succ_self _) hz)); (try have z0 : w.heap.size < w'.heap.size := by omega); (try have z1 : w.heap.size + 1 < w'.heap.size := by omega); (try have z2 : w.heap.size + 1 + 1 < w'.heap.size := by omega); (try have z3 : w.heap.size + 1 + 1 + 1 < w'.heap.size := by omega)))
        go_ret2
        exact ⟨rfl, by (repeat (first | exact Below.refl _ _ | refine bl_drewN ?_ | refine bl_drew ?_ | refine bl_alloc ?_ _ | refine Below.setCell ?_ (by (first | (simp; done) | (simp; omega) | omega)) _ | refine bl_step (by assumption) ?_))⟩
  · rw [if_neg h1] at hr
    rw [if_neg h1, if_neg h1]
    by_cases h2 : 5400000 < m
    · rw [if_pos h2] at hr
      subst hr
      cases E
      all_goals
        simp at hu
        subst hu
        go_enter Tryz.func266, Tryz.ntmps266
        go_wp2_with (first | (go_at_call 303; ((with_reducible refine (T.out _).mono ?_); rintro e w' ⟨rfl, rfl⟩)) | (go_at_call 304; ((with_reducible refine (S.out _).mono ?_); rintro e w' ⟨rfl, hb⟩); (try replace hb := below_undrew hb); (try replace hb := below_undrewN hb); obtain ⟨hcell, hfroz⟩ := bcell hb; have hz := hb.size; (try simp at hz); (try (have z6 := Nat.lt_of_lt_of_le z7 hz)); (try (have z7 := Nat.lt_of_lt_of_le z8 hz)); (try (have z8 := Nat.lt_of_lt_of_le z9 hz)); (try (have z9 := Nat.lt_of_lt_of_le (Nat.lt_succ_self _) hz)); (try have z0 : w.heap.size < w'.heap.size := by omega); (try have z1 : w.heap.size + 1 < w'.heap.size := by omega); (try have z2 : w.heap.size + 1 + 1 < w'.heap.size := by omega); (try have z3 : w.heap.size + 1 + 1 + 1 < w'.heap.size := by omega)))
        go_ret2
        exact ⟨rfl, by (repeat (first | exact Below.refl _ _ | refine bl_drewN ?_ | refine bl_drew ?_ | refine bl_alloc ?_ _ | refine Below.setCell ?_ (by (first | (simp; done) | (simp; omega) | omega)) _ | refine bl_step (by assumption) ?_))⟩
    · rw [if_neg h2] at hr
      subst hr
      cases E
      all_goals
        simp at hu
        subst hu
        go_enter Tryz.func266, Tryz.ntmps266
        go_wp2_with (first | (go_at_call 303; ((with_reducible refine (T.out _).mono ?_); rintro e w' ⟨rfl, rfl⟩)) | (go_at_call 304; ((with_reducible refine (S.out _).mono ?_); rintro e w' ⟨rfl, hb⟩); (try replace hb := below_undrew hb); (try replace hb := below_undrewN hb); obtain ⟨hcell, hfroz⟩ := bcell hb; have hz := hb.size; (try simp at hz); (try (have z6 := Nat.lt_of_lt_of_le z7 hz)); (try (have z7 := Nat.lt_of_lt_of_le z8 hz)); (try (have z8 := Nat.lt_of_lt_of_le z9 hz)); (try (have z9 := Nat.lt_of_lt_of_le (Nat.lt_succ_self _) hz)); (try have z0 : w.heap.size < w'.heap.size := by omega); (try have z1 : w.heap.size + 1 < w'.heap.size := by omega); (try have z2 : w.heap.size + 1 + 1 < w'.heap.size := by omega); (try have z3 : w.heap.size + 1 + 1 + 1 < w'.heap.size := by omega)))
        go_ret2
        exact ⟨rfl, by (repeat (first | exact Below.refl _ _ | refine bl_drewN ?_ | refine bl_drew ?_ | refine bl_alloc ?_ _ | refine Below.setCell ?_ (by (first | (simp; done) | (simp; omega) | omega)) _ | refine bl_step (by assumption) ?_))⟩
theorem bounds_any (n : Int) (w : World) :
    Calls Tryz.prog 266 #[.int .i64 n] w fun e w' => e = .returned (.tuple #[.int .i64 (bLo n), .int .i64 (bHi n)]) ∧ Below w.heap.size w w' := by
  have r := redA_bd n
  have b := sinLo_bd (redA n) r.1 r.2
  exact bounds_walk n (n % 21600000) (redA n) (sinLo (redA n)) (exactB (redA n)) (upB (redA n)) w rfl (by omega) (by omega) rfl (hidden fun w => sine_any (redA n) w r.1 r.2) b.1 b.2 rfl
def arcV (lo hi : Int) : Bool := decide (-1099511627776 ≤ lo) && decide (lo ≤ hi) && decide (hi ≤ 1099511627776)
theorem arcV_t {lo hi : Int} (h : arcV lo hi = true) : -1099511627776 ≤ lo ∧ lo ≤ hi ∧ hi ≤ 1099511627776 := by simp [arcV] at h; omega
theorem arcV_mk {lo hi : Int} (h : -1099511627776 ≤ lo ∧ lo ≤ hi ∧ hi ≤ 1099511627776) : arcV lo hi = true := by simp [arcV]; omega
theorem arcV_not {lo hi : Int} (h : ¬ (-1099511627776 ≤ lo ∧ lo ≤ hi ∧ hi ≤ 1099511627776)) : arcV lo hi = false := by simp [arcV]; omega
set_option maxHeartbeats 400000 in
theorem tvalid6_any (a b : Int) (w : World) :
    Calls Tryz.prog 216 #[.agg #[.int .i64 a, .int .i64 b]] w fun e w' => e = .returned (.bool (arcV a b)) ∧ Below w.heap.size w w' := by
  by_cases h1 : -1099511627776 ≤ a
  · by_cases h2 : a ≤ b
    · by_cases h3 : b ≤ 1099511627776
      · have H := hidden (arcV_mk ⟨h1, h2, h3⟩)
        go_enter Tryz.func216, Tryz.ntmps216
        go_wp2
        go_ret
        exact ⟨by rw [H.out]; rfl, by (repeat (first | exact Below.refl _ _ | refine bl_drewN ?_ | refine bl_drew ?_ | refine bl_alloc ?_ _ | refine Below.setCell ?_ (by (first | (simp; done) | (simp; omega) | omega)) _ | refine bl_step (by assumption) ?_))⟩
      · have H := hidden (arcV_not (lo := a) (hi := b) (by omega))
        go_enter Tryz.func216, Tryz.ntmps216
        go_wp2
        go_ret
        exact ⟨by rw [H.out]; rfl, by (repeat (first | exact Below.refl _ _ | refine bl_drewN ?_ | refine bl_drew ?_ | refine bl_alloc ?_ _ | refine Below.setCell ?_ (by (first | (simp; done) | (simp; omega) | omega)) _ | refine bl_step (by assumption) ?_))⟩
    · have H := hidden (arcV_not (lo := a) (hi := b) (by omega))
      go_enter Tryz.func216, Tryz.ntmps216
      go_wp2
      go_ret
      exact ⟨by rw [H.out]; rfl, by (repeat (first | exact Below.refl _ _ | refine bl_drewN ?_ | refine bl_drew ?_ | refine bl_alloc ?_ _ | refine Below.setCell ?_ (by (first | (simp; done) | (simp; omega) | omega)) _ | refine bl_step (by assumption) ?_))⟩
  · have H := hidden (arcV_not (lo := a) (hi := b) (by omega))
    go_enter Tryz.func216, Tryz.ntmps216
    go_wp2
    go_ret
    exact ⟨by rw [H.out]; rfl, by (repeat (first | exact Below.refl _ _ | refine bl_drewN ?_ | refine bl_drew ?_ | refine bl_alloc ?_ _ | refine Below.setCell ?_ (by (first | (simp; done) | (simp; omega) | omega)) _ | refine bl_step (by assumption) ?_))⟩
/-- whether an arc has an angle with the direction of n -/
def meetB (a b n : Int) : Bool := decide ((n - a) % 21600000 ≤ b - a)
set_option maxHeartbeats 400000 in
theorem meets_any (a b n : Int) (w : World) (a0 : -1099517027776 ≤ a) (a1 : a ≤ 1099517027776) (b0 : -1099517027776 ≤ b) (b1 : b ≤ 1099517027776) (n0 : 0 ≤ n) (n1 : n ≤ 21600000) :
    Calls Tryz.prog 267 #[.agg #[.int .i64 a, .int .i64 b], .int .i64 n] w fun e w' => e = .returned (.bool (meetB a b n)) ∧ Below w.heap.size w w' := by
  obtain ⟨t, ht⟩ : ∃ t, (n - a) % 21600000 = t := ⟨_, rfl⟩
  have T := fun w => turned_any (n - a) w
  have E : Hid (decide (t ≤ b - a) = meetB a b n) := by unfold Hid meetB; rw [ht]
  rw [ht] at T
  replace T := hidden T
  clear ht
  go_enter Tryz.func267, Tryz.ntmps267
  go_wp2
  go_quiet ((go_at_call 303; (with_reducible exact quiet_same (T.out _))))
  go_wp2
  go_ret
  exact ⟨by rw [← E.out]; rfl, by (repeat (first | exact Below.refl _ _ | refine bl_drewN ?_ | refine bl_drew ?_ | refine bl_alloc ?_ _ | refine Below.setCell ?_ (by (first | (simp; done) | (simp; omega) | omega)) _ | refine bl_step (by assumption) ?_))⟩
/-- the ends of the least enclosure over an arc -/
def encLo (a b : Int) : Int := if meetB a b 16200000 then -1073741824 else min (bLo a) (bLo b)
def encHi (a b : Int) : Int := if meetB a b 5400000 then 1073741824 else max (bHi a) (bHi b)
set_option maxHeartbeats 1000000 in
theorem enc_walk (a b p q r s L H : Int) (U V : Bool) (w : World) (_a0 : -1099517027776 ≤ a) (_a1 : a ≤ 1099517027776) (_b0 : -1099517027776 ≤ b) (_b1 : b ≤ 1099517027776)
    (A : Hid (∀ w, Calls Tryz.prog 266 #[.int .i64 a] w fun e w' => e = .returned (.tuple #[.int .i64 p, .int .i64 q]) ∧ Below w.heap.size w w'))
    (B : Hid (∀ w, Calls Tryz.prog 266 #[.int .i64 b] w fun e w' => e = .returned (.tuple #[.int .i64 r, .int .i64 s]) ∧ Below w.heap.size w w'))
    (M1 : Hid (∀ w, Calls Tryz.prog 267 #[.agg #[.int .i64 a, .int .i64 b], .int .i64 5400000] w fun e w' => e = .returned (.bool U) ∧ Below w.heap.size w w'))
    (M3 : Hid (∀ w, Calls Tryz.prog 267 #[.agg #[.int .i64 a, .int .i64 b], .int .i64 16200000] w fun e w' => e = .returned (.bool V) ∧ Below w.heap.size w w'))
    (hL : (if V then -1073741824 else min p r) = L) (hH : (if U then 1073741824 else max q s) = H) :
    Calls Tryz.prog 217 #[.agg #[.int .i64 a, .int .i64 b]] w fun e w' => e = .returned (.agg #[.int .i64 L, .int .i64 H]) ∧ Below w.heap.size w w' := by
  cases U <;> cases V
  all_goals
    simp at hL hH
    subst hL hH
    go_enter Tryz.func217, Tryz.ntmps217
    go_wp2_with (((first | (go_at_call 266; ((with_reducible refine (A.out _).mono ?_); rintro e w' ⟨rfl, hb⟩)) | (go_at_call 266; ((with_reducible refine (B.out _).mono ?_); rintro e w' ⟨rfl, hb⟩)) | (go_at_call 267; ((with_reducible refine (M1.out _).mono ?_); rintro e w' ⟨rfl, hb⟩)) | (go_at_call 267; ((with_reducible refine (M3.out _).mono ?_); rintro e w' ⟨rfl, hb⟩))); (try replace hb := below_undrew hb); (try replace hb := below_undrewN hb); obtain ⟨hcell, hfroz⟩ := bcell hb; have hz := hb.size; (try simp at hz); (try (have z6 := Nat.lt_of_lt_of_le z7 hz)); (try (have z7 := Nat.lt_of_lt_of_le z8 hz)); (try (have z8 := Nat.lt_of_lt_of_le z9 hz)); (try (have z9 := Nat.lt_of_lt_of_le (Nat.lt_succ_self _) hz)); (try have z0 : w.heap.size < w'.heap.size := by omega); (try have z1 : w.heap.size + 1 < w'.heap.size := by omega); (try have z2 : w.heap.size + 1 + 1 < w'.heap.size := by omega); (try have z3 : w.heap.size + 1 + 1 + 1 < w'.heap.size := by omega)))
    first
      | exact bodyPost_ret (v := .agg #[.int .i64 (min p r), .int .i64 (max q s)]) (by first | (simp only [results, Tryz.results217]; go_simp; done) | simp [results, Tryz.results217, go_sem, *]) rfl ⟨rfl, by (repeat (first | exact Below.refl _ _ | refine bl_drewN ?_ | refine bl_drew ?_ | refine bl_alloc ?_ _ | refine Below.setCell ?_ (by (first | (simp; done) | (simp; omega) | omega)) _ | refine bl_step (by assumption) ?_))⟩
      | exact bodyPost_ret (v := .agg #[.int .i64 (-1073741824), .int .i64 (max q s)]) (by first | (simp only [results, Tryz.results217]; go_simp; done) | simp [results, Tryz.results217, go_sem, *]) rfl ⟨rfl, by (repeat (first | exact Below.refl _ _ | refine bl_drewN ?_ | refine bl_drew ?_ | refine bl_alloc ?_ _ | refine Below.setCell ?_ (by (first | (simp; done) | (simp; omega) | omega)) _ | refine bl_step (by assumption) ?_))⟩
      | exact bodyPost_ret (v := .agg #[.int .i64 (min p r), .int .i64 1073741824]) (by first | (simp only [results, Tryz.results217]; go_simp; done) | simp [results, Tryz.results217, go_sem, *]) rfl ⟨rfl, by (repeat (first | exact Below.refl _ _ | refine bl_drewN ?_ | refine bl_drew ?_ | refine bl_alloc ?_ _ | refine Below.setCell ?_ (by (first | (simp; done) | (simp; omega) | omega)) _ | refine bl_step (by assumption) ?_))⟩
      | exact bodyPost_ret (v := .agg #[.int .i64 (-1073741824), .int .i64 1073741824]) (by first | (simp only [results, Tryz.results217]; go_simp; done) | simp [results, Tryz.results217, go_sem, *]) rfl ⟨rfl, by (repeat (first | exact Below.refl _ _ | refine bl_drewN ?_ | refine bl_drew ?_ | refine bl_alloc ?_ _ | refine Below.setCell ?_ (by (first | (simp; done) | (simp; omega) | omega)) _ | refine bl_step (by assumption) ?_))⟩
theorem enc_any (a b : Int) (w : World) (a0 : -1099517027776 ≤ a) (a1 : a ≤ 1099517027776) (b0 : -1099517027776 ≤ b) (b1 : b ≤ 1099517027776) :
    Calls Tryz.prog 217 #[.agg #[.int .i64 a, .int .i64 b]] w fun e w' => e = .returned (.agg #[.int .i64 (encLo a b), .int .i64 (encHi a b)]) ∧ Below w.heap.size w w' :=
  enc_walk a b _ _ _ _ _ _ _ _ w a0 a1 b0 b1 (hidden fun w => bounds_any a w) (hidden fun w => bounds_any b w) (hidden fun w => meets_any a b 5400000 w a0 a1 b0 b1 (by omega) (by omega)) (hidden fun w => meets_any a b 16200000 w a0 a1 b0 b1 (by omega) (by omega)) rfl rfl
theorem further_any (a b : Int) (w : World) (a0 : -1099511627776 ≤ a) (a1 : a ≤ 1099511627776) (b0 : -1099511627776 ≤ b) (b1 : b ≤ 1099511627776) :
    Calls Tryz.prog 218 #[.agg #[.int .i64 a, .int .i64 b]] w fun e w' => e = .returned (.agg #[.int .i64 (a + 5400000), .int .i64 (b + 5400000)]) ∧ Below w.heap.size w w' := by
  go_enter Tryz.func218, Tryz.ntmps218
  go_wp2
  exact bodyPost_ret (v := .agg #[.int .i64 (a + 5400000), .int .i64 (b + 5400000)]) (by first | (simp only [results, Tryz.results218]; go_simp; done) | simp [results, Tryz.results218, go_sem, *]) rfl ⟨rfl, by (repeat (first | exact Below.refl _ _ | refine bl_drewN ?_ | refine bl_drew ?_ | refine bl_alloc ?_ _ | refine Below.setCell ?_ (by (first | (simp; done) | (simp; omega) | omega)) _ | refine bl_step (by assumption) ?_))⟩
set_option maxHeartbeats 400000 in
theorem sin_ok (a b : Int) (w : World) (h : arcV a b = true) :
    Calls Tryz.prog 125 #[.agg #[.int .i64 a, .int .i64 b]] w fun e w' => e = .returned (.tuple #[.agg #[.int .i64 (encLo a b), .int .i64 (encHi a b)], .int .i64 0]) ∧ Below w.heap.size w w' := by
  obtain ⟨a1, a2, a3⟩ := arcV_t h
  have E := hidden fun w => enc_any a b w (by omega) (by omega) (by omega) (by omega)
  go_enter Tryz.func125, Tryz.ntmps125
  go_wp2_with (((first | (go_at_call 216; ((with_reducible refine (tvalid6_any _ _ _).mono ?_); rintro e w' ⟨rfl, hb⟩)) | (go_at_call 217; ((with_reducible refine (E.out _).mono ?_); rintro e w' ⟨rfl, hb⟩))); (try replace hb := below_undrew hb); (try replace hb := below_undrewN hb); obtain ⟨hcell, hfroz⟩ := bcell hb; have hz := hb.size; (try simp at hz); (try (have z6 := Nat.lt_of_lt_of_le z7 hz)); (try (have z7 := Nat.lt_of_lt_of_le z8 hz)); (try (have z8 := Nat.lt_of_lt_of_le z9 hz)); (try (have z9 := Nat.lt_of_lt_of_le (Nat.lt_succ_self _) hz)); (try have z0 : w.heap.size < w'.heap.size := by omega); (try have z1 : w.heap.size + 1 < w'.heap.size := by omega); (try have z2 : w.heap.size + 1 + 1 < w'.heap.size := by omega); (try have z3 : w.heap.size + 1 + 1 + 1 < w'.heap.size := by omega)))
  exact bodyPost_ret (v := .tuple #[.agg #[.int .i64 (encLo a b), .int .i64 (encHi a b)], .int .i64 0]) (by first | (simp only [results, Tryz.results125]; go_simp; done) | simp [results, Tryz.results125, go_sem, *]) rfl ⟨rfl, by (repeat (first | exact Below.refl _ _ | refine bl_drewN ?_ | refine bl_drew ?_ | refine bl_alloc ?_ _ | refine Below.setCell ?_ (by (first | (simp; done) | (simp; omega) | omega)) _ | refine bl_step (by assumption) ?_))⟩
set_option maxHeartbeats 400000 in
theorem cos_ok (a b : Int) (w : World) (h : arcV a b = true) :
    Calls Tryz.prog 124 #[.agg #[.int .i64 a, .int .i64 b]] w fun e w' => e = .returned (.tuple #[.agg #[.int .i64 (encLo (a + 5400000) (b + 5400000)), .int .i64 (encHi (a + 5400000) (b + 5400000))], .int .i64 0]) ∧ Below w.heap.size w w' := by
  obtain ⟨a1, a2, a3⟩ := arcV_t h
  have E := hidden fun w => enc_any (a + 5400000) (b + 5400000) w (by omega) (by omega) (by omega) (by omega)
  have F := hidden fun w => further_any a b w (by omega) (by omega) (by omega) (by omega)
  go_enter Tryz.func124, Tryz.ntmps124
  go_wp2_with (((first | (go_at_call 216; ((with_reducible refine (tvalid6_any _ _ _).mono ?_); rintro e w' ⟨rfl, hb⟩)) | (go_at_call 218; ((with_reducible refine (F.out _).mono ?_); rintro e w' ⟨rfl, hb⟩)) | (go_at_call 217; ((with_reducible refine (E.out _).mono ?_); rintro e w' ⟨rfl, hb⟩))); (try replace hb := below_undrew hb); (try replace hb := below_undrewN hb); obtain ⟨hcell, hfroz⟩ := bcell hb; have hz := hb.size; (try simp at hz); (try (have z6 := Nat.lt_of_lt_of_le z7 hz)); (try (have z7 := Nat.lt_of_lt_of_le z8 hz)); (try (have z8 := Nat.lt_of_lt_of_le z9 hz)); (try (have z9 := Nat.lt_of_lt_of_le (Nat.lt_succ_self _) hz)); (try have z0 : w.heap.size < w'.heap.size := by omega); (try have z1 : w.heap.size + 1 < w'.heap.size := by omega); (try have z2 : w.heap.size + 1 + 1 < w'.heap.size := by omega); (try have z3 : w.heap.size + 1 + 1 + 1 < w'.heap.size := by omega)))
  exact bodyPost_ret (v := .tuple #[.agg #[.int .i64 (encLo (a + 5400000) (b + 5400000)), .int .i64 (encHi (a + 5400000) (b + 5400000))], .int .i64 0]) (by first | (simp only [results, Tryz.results124]; go_simp; done) | simp [results, Tryz.results124, go_sem, *]) rfl ⟨rfl, by (repeat (first | exact Below.refl _ _ | refine bl_drewN ?_ | refine bl_drew ?_ | refine bl_alloc ?_ _ | refine Below.setCell ?_ (by (first | (simp; done) | (simp; omega) | omega)) _ | refine bl_step (by assumption) ?_))⟩
theorem enc_bd (a b : Int) : -1073741824 ≤ encLo a b ∧ encLo a b ≤ 1073741824 ∧ -1073741824 ≤ encHi a b ∧ encHi a b ≤ 1073741824 := by
  have x := b_bd a
  have y := b_bd b
  unfold encLo encHi
  split <;> split <;> omega
/-- the ends of a haversine's enclosure -/
def havLo (a b : Int) : Int := (1073741824 - encHi (a + 5400000) (b + 5400000)) / 2
def havHi (a b : Int) : Int := (1073741824 - encLo (a + 5400000) (b + 5400000) + 1) / 2
set_option maxHeartbeats 400000 in
theorem hav_ok (a b : Int) (w : World) (h : arcV a b = true) :
    Calls Tryz.prog 147 #[.agg #[.int .i64 a, .int .i64 b]] w fun e w' => e = .returned (.tuple #[.agg #[.int .i64 (havLo a b), .int .i64 (havHi a b)], .int .i64 0]) ∧ Below w.heap.size w w' := by
  obtain ⟨a1, a2, a3⟩ := arcV_t h
  have E := fun w => enc_any (a + 5400000) (b + 5400000) w (by omega) (by omega) (by omega) (by omega)
  have F := hidden fun w => further_any a b w (by omega) (by omega) (by omega) (by omega)
  have bd := enc_bd (a + 5400000) (b + 5400000)
  have HL : Hid (havLo a b = havLo a b) := rfl
  unfold havLo havHi
  generalize encLo (a + 5400000) (b + 5400000) = x at *
  generalize encHi (a + 5400000) (b + 5400000) = y at *
  clear HL
  obtain ⟨b1, b2, b3, b4⟩ := bd
  replace E := hidden E
  go_enter Tryz.func147, Tryz.ntmps147
  go_wp2_with (((first | (go_at_call 216; ((with_reducible refine (tvalid6_any _ _ _).mono ?_); rintro e w' ⟨rfl, hb⟩)) | (go_at_call 218; ((with_reducible refine (F.out _).mono ?_); rintro e w' ⟨rfl, hb⟩)) | (go_at_call 217; ((with_reducible refine (E.out _).mono ?_); rintro e w' ⟨rfl, hb⟩))); (try replace hb := below_undrew hb); (try replace hb := below_undrewN hb); obtain ⟨hcell, hfroz⟩ := bcell hb; have hz := hb.size; (try simp at hz); (try (have z6 := Nat.lt_of_lt_of_le z7 hz)); (try (have z7 := Nat.lt_of_lt_of_le z8 hz)); (try (have z8 := Nat.lt_of_lt_of_le z9 hz)); (try (have z9 := Nat.lt_of_lt_of_le (Nat.lt_succ_self _) hz)); (try have z0 : w.heap.size < w'.heap.size := by omega); (try have z1 : w.heap.size + 1 < w'.heap.size := by omega); (try have z2 : w.heap.size + 1 + 1 < w'.heap.size := by omega); (try have z3 : w.heap.size + 1 + 1 + 1 < w'.heap.size := by omega)))
  exact bodyPost_ret (v := .tuple #[.agg #[.int .i64 ((1073741824 - y) / 2), .int .i64 ((1073741824 - x + 1) / 2)], .int .i64 0]) (by first | (simp only [results, Tryz.results147]; go_simp; done) | simp [results, Tryz.results147, go_sem, *]) rfl ⟨rfl, by (repeat (first | exact Below.refl _ _ | refine bl_drewN ?_ | refine bl_drew ?_ | refine bl_alloc ?_ _ | refine Below.setCell ?_ (by (first | (simp; done) | (simp; omega) | omega)) _ | refine bl_step (by assumption) ?_))⟩
/-- how a number lies to the sine -/
def belowV (lo hi v : Int) : Int := if hi ≤ v ∧ lo < v then -1 else if v ≤ lo ∧ v < hi then 1 else if v = lo then 0 else if v < lo then 1 else -1
set_option maxHeartbeats 1000000 in
theorem below_walk (n v lo hi : Int) (w : World)
    (B : Hid (∀ w, Calls Tryz.prog 266 #[.int .i64 n] w fun e w' => e = .returned (.tuple #[.int .i64 lo, .int .i64 hi]) ∧ Below w.heap.size w w')) :
    Calls Tryz.prog 298 #[.int .i64 n, .int .i64 v] w fun e w' => e = .returned (.int .i64 (belowV lo hi v)) ∧ Below w.heap.size w w' := by
  have K : ∀ r, belowV lo hi v = r → Hid (belowV lo hi v = r) := fun r h => hidden h
  by_cases h1 : hi ≤ v
  · by_cases h2 : lo < v
    · have E := K (-1) (by unfold belowV; simp [h1, h2])
      clear K
      go_enter Tryz.func298, Tryz.ntmps298
      go_wp2_with (go_at_call 266; ((with_reducible refine (B.out _).mono ?_); rintro e w' ⟨rfl, hb⟩); (try replace hb := below_undrew hb); (try replace hb := below_undrewN hb); obtain ⟨hcell, hfroz⟩ := bcell hb; have hz := hb.size; (try simp at hz); (try (have z6 := Nat.lt_of_lt_of_le z7 hz)); (try (have z7 := Nat.lt_of_lt_of_le z8 hz)); (try (have z8 := Nat.lt_of_lt_of_le z9 hz)); (try (have z9 := Nat.lt_of_lt_of_le (Nat.lt_succ_self _) hz)); (try have z0 : w.heap.size < w'.heap.size := by omega); (try have z1 : w.heap.size + 1 < w'.heap.size := by omega); (try have z2 : w.heap.size + 1 + 1 < w'.heap.size := by omega); (try have z3 : w.heap.size + 1 + 1 + 1 < w'.heap.size := by omega))
      go_ret
      exact ⟨ret_one E.out.symm, by (repeat (first | exact Below.refl _ _ | refine bl_drewN ?_ | refine bl_drew ?_ | refine bl_alloc ?_ _ | refine Below.setCell ?_ (by (first | (simp; done) | (simp; omega) | omega)) _ | refine bl_step (by assumption) ?_))⟩
    · by_cases h3 : v = lo
      · have E := K 0 (by unfold belowV; subst h3; simp; omega)
        subst h3
        clear K h2
        have h4 : ¬ v < hi := by omega
        go_enter Tryz.func298, Tryz.ntmps298
        go_wp2_with (go_at_call 266; ((with_reducible refine (B.out _).mono ?_); rintro e w' ⟨rfl, hb⟩); (try replace hb := below_undrew hb); (try replace hb := below_undrewN hb); obtain ⟨hcell, hfroz⟩ := bcell hb; have hz := hb.size; (try simp at hz); (try (have z6 := Nat.lt_of_lt_of_le z7 hz)); (try (have z7 := Nat.lt_of_lt_of_le z8 hz)); (try (have z8 := Nat.lt_of_lt_of_le z9 hz)); (try (have z9 := Nat.lt_of_lt_of_le (Nat.lt_succ_self _) hz)); (try have z0 : w.heap.size < w'.heap.size := by omega); (try have z1 : w.heap.size + 1 < w'.heap.size := by omega); (try have z2 : w.heap.size + 1 + 1 < w'.heap.size := by omega); (try have z3 : w.heap.size + 1 + 1 + 1 < w'.heap.size := by omega))
        go_ret
        exact ⟨ret_one E.out.symm, by (repeat (first | exact Below.refl _ _ | refine bl_drewN ?_ | refine bl_drew ?_ | refine bl_alloc ?_ _ | refine Below.setCell ?_ (by (first | (simp; done) | (simp; omega) | omega)) _ | refine bl_step (by assumption) ?_))⟩
      · have E := K 1 (by unfold belowV; rw [if_neg (by omega), if_neg (by omega), if_neg h3, if_pos (by omega)])
        clear K
        have h4 : ¬ v < hi := by omega
        have h5 : (v == lo) = false := by simpa using h3
        have h6 : v < lo := by omega
        go_enter Tryz.func298, Tryz.ntmps298
        go_wp2_with (go_at_call 266; ((with_reducible refine (B.out _).mono ?_); rintro e w' ⟨rfl, hb⟩); (try replace hb := below_undrew hb); (try replace hb := below_undrewN hb); obtain ⟨hcell, hfroz⟩ := bcell hb; have hz := hb.size; (try simp at hz); (try (have z6 := Nat.lt_of_lt_of_le z7 hz)); (try (have z7 := Nat.lt_of_lt_of_le z8 hz)); (try (have z8 := Nat.lt_of_lt_of_le z9 hz)); (try (have z9 := Nat.lt_of_lt_of_le (Nat.lt_succ_self _) hz)); (try have z0 : w.heap.size < w'.heap.size := by omega); (try have z1 : w.heap.size + 1 < w'.heap.size := by omega); (try have z2 : w.heap.size + 1 + 1 < w'.heap.size := by omega); (try have z3 : w.heap.size + 1 + 1 + 1 < w'.heap.size := by omega))
        go_ret
        exact ⟨ret_one E.out.symm, by (repeat (first | exact Below.refl _ _ | refine bl_drewN ?_ | refine bl_drew ?_ | refine bl_alloc ?_ _ | refine Below.setCell ?_ (by (first | (simp; done) | (simp; omega) | omega)) _ | refine bl_step (by assumption) ?_))⟩
  · have h4 : v < hi := by omega
    by_cases h2 : v ≤ lo
    · have E := K 1 (by unfold belowV; rw [if_neg (by omega), if_pos (by omega)])
      clear K
      go_enter Tryz.func298, Tryz.ntmps298
      go_wp2_with (go_at_call 266; ((with_reducible refine (B.out _).mono ?_); rintro e w' ⟨rfl, hb⟩); (try replace hb := below_undrew hb); (try replace hb := below_undrewN hb); obtain ⟨hcell, hfroz⟩ := bcell hb; have hz := hb.size; (try simp at hz); (try (have z6 := Nat.lt_of_lt_of_le z7 hz)); (try (have z7 := Nat.lt_of_lt_of_le z8 hz)); (try (have z8 := Nat.lt_of_lt_of_le z9 hz)); (try (have z9 := Nat.lt_of_lt_of_le (Nat.lt_succ_self _) hz)); (try have z0 : w.heap.size < w'.heap.size := by omega); (try have z1 : w.heap.size + 1 < w'.heap.size := by omega); (try have z2 : w.heap.size + 1 + 1 < w'.heap.size := by omega); (try have z3 : w.heap.size + 1 + 1 + 1 < w'.heap.size := by omega))
      go_ret
      exact ⟨ret_one E.out.symm, by (repeat (first | exact Below.refl _ _ | refine bl_drewN ?_ | refine bl_drew ?_ | refine bl_alloc ?_ _ | refine Below.setCell ?_ (by (first | (simp; done) | (simp; omega) | omega)) _ | refine bl_step (by assumption) ?_))⟩
    · have E := K (-1) (by unfold belowV; rw [if_neg (by omega), if_neg (by omega), if_neg (by omega), if_neg (by omega)])
      clear K
      have h5 : (v == lo) = false := by simp; omega
      have h6 : ¬ v < lo := by omega
      go_enter Tryz.func298, Tryz.ntmps298
      go_wp2_with (go_at_call 266; ((with_reducible refine (B.out _).mono ?_); rintro e w' ⟨rfl, hb⟩); (try replace hb := below_undrew hb); (try replace hb := below_undrewN hb); obtain ⟨hcell, hfroz⟩ := bcell hb; have hz := hb.size; (try simp at hz); (try (have z6 := Nat.lt_of_lt_of_le z7 hz)); (try (have z7 := Nat.lt_of_lt_of_le z8 hz)); (try (have z8 := Nat.lt_of_lt_of_le z9 hz)); (try (have z9 := Nat.lt_of_lt_of_le (Nat.lt_succ_self _) hz)); (try have z0 : w.heap.size < w'.heap.size := by omega); (try have z1 : w.heap.size + 1 < w'.heap.size := by omega); (try have z2 : w.heap.size + 1 + 1 < w'.heap.size := by omega); (try have z3 : w.heap.size + 1 + 1 + 1 < w'.heap.size := by omega))
      go_ret
      exact ⟨ret_one E.out.symm, by (repeat (first | exact Below.refl _ _ | refine bl_drewN ?_ | refine bl_drew ?_ | refine bl_alloc ?_ _ | refine Below.setCell ?_ (by (first | (simp; done) | (simp; omega) | omega)) _ | refine bl_step (by assumption) ?_))⟩
theorem below_any (n v : Int) (w : World) :
    Calls Tryz.prog 298 #[.int .i64 n, .int .i64 v] w fun e w' => e = .returned (.int .i64 (belowV (bLo n) (bHi n) v)) ∧ Below w.heap.size w w' :=
  below_walk n v _ _ w (hidden fun w => bounds_any n w)
end Go.Proofs.YtdhbeoahpfimbaaGreat
