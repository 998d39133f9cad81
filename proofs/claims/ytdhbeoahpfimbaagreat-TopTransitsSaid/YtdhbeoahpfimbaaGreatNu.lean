/- Several small texts in one: XNum, XNum2, XMulV. -/
import Derived.Test.YtdhbeoahpfimbaaGreatDv
import Derived.Test.YtdhbeoahpfimbaaGreatBase
import Derived.LoopN
import Derived.Shelf.Spec.BitsCarry
import Derived.BigRegion
namespace Go.Proofs.YtdhbeoahpfimbaaGreat
open Go.RowKit
theorem add64_run (x y c : Int) (x0 : 0 ≤ x) (y0 : 0 ≤ y) (c0 : 0 ≤ c) (c1 : c ≤ 1) (w : World) :
    (callFunc 309 #[.int .u64 x, .int .u64 y, .int .u64 c]).run Tryz.prog w = .ok (.value (.tuple #[.int .u64 ((x + y + c) % 18446744073709551616), .int .u64 ((x + y + c) / 18446744073709551616)])) w := by
  obtain ⟨X, rfl⟩ := Int.eq_ofNat_of_zero_le x0
  obtain ⟨Y, rfl⟩ := Int.eq_ofNat_of_zero_le y0
  obtain ⟨C, rfl⟩ := Int.eq_ofNat_of_zero_le c0
  have h := Any7.bits_Add64 Tryz.lays7_25 X Y C (by omega) w
  have e1 : (((X + Y + C) % 18446744073709551616 : Nat) : Int) = ((X : Int) + Y + C) % 18446744073709551616 := by omega
  have e2 : (((X + Y + C) / 18446744073709551616 : Nat) : Int) = ((X : Int) + Y + C) / 18446744073709551616 := by omega
  rw [e1, e2] at h
  exact h
theorem sub64_run (x y b : Int) (x0 : 0 ≤ x) (y0 : 0 ≤ y) (y1 : y ≤ 18446744073709551615) (b0 : 0 ≤ b) (b1 : b ≤ 1) (w : World) :
    (callFunc 344 #[.int .u64 x, .int .u64 y, .int .u64 b]).run Tryz.prog w = .ok (.value (.tuple #[.int .u64 ((x - y - b) % 18446744073709551616), .int .u64 (if x < y + b then 1 else 0)])) w := by
  obtain ⟨X, rfl⟩ := Int.eq_ofNat_of_zero_le x0
  obtain ⟨Y, rfl⟩ := Int.eq_ofNat_of_zero_le y0
  obtain ⟨B, rfl⟩ := Int.eq_ofNat_of_zero_le b0
  have h := Any7.bits_Sub64 Tryz.lays7_26 X Y B (by omega) w
  have e1 : (((X + 18446744073709551616 - Y - B) % 18446744073709551616 : Nat) : Int) = ((X : Int) - Y - B) % 18446744073709551616 := by omega
  have e2 : ((if X < Y + B then 1 else 0 : Nat) : Int) = if (X : Int) < Y + B then 1 else 0 := by
    by_cases g : X < Y + B
    · rw [if_pos g, if_pos (by omega)]; rfl
    · rw [if_neg g, if_neg (by omega)]; rfl
  rw [e1, e2] at h
  exact h
set_option maxHeartbeats 2000000 in
theorem nsub_walk (a0 a1 a2 a3 b0 b1 b2 b3 d0 d1 d2 d3 o0 o1 o2 o3 : Int) (w : World)
    (h3 : ∀ w, (callFunc 344 #[.int .u64 a3, .int .u64 b3, .int .u64 0]).run Tryz.prog w = .ok (.value (.tuple #[.int .u64 d3, .int .u64 o3])) w)
    (h2 : ∀ w, (callFunc 344 #[.int .u64 a2, .int .u64 b2, .int .u64 o3]).run Tryz.prog w = .ok (.value (.tuple #[.int .u64 d2, .int .u64 o2])) w)
    (h1 : ∀ w, (callFunc 344 #[.int .u64 a1, .int .u64 b1, .int .u64 o2]).run Tryz.prog w = .ok (.value (.tuple #[.int .u64 d1, .int .u64 o1])) w)
    (h0 : ∀ w, (callFunc 344 #[.int .u64 a0, .int .u64 b0, .int .u64 o1]).run Tryz.prog w = .ok (.value (.tuple #[.int .u64 d0, .int .u64 o0])) w) :
    Calls Tryz.prog 338 #[.agg #[.int .u64 a0, .int .u64 a1, .int .u64 a2, .int .u64 a3], .agg #[.int .u64 b0, .int .u64 b1, .int .u64 b2, .int .u64 b3]] w fun e w' => e = .returned (.agg #[.int .u64 d0, .int .u64 d1, .int .u64 d2, .int .u64 d3]) ∧ Below w.heap.size w w' := by
  go_enter Tryz.func338, Tryz.ntmps338
  go_wp2
  refine wp_loop_rounds 5 ?_
  rw [rounds_succ]
  go_wp2
  go_region
  go_wp2
  rw [rounds_succ]
  go_wp2
  go_region
  go_wp2
  rw [rounds_succ]
  go_wp2
  go_region
  go_wp2
  rw [rounds_succ]
  go_wp2
  go_region
  go_wp2
  rw [rounds_succ]
  go_wp2
  exact bodyPost_ret (v := .agg #[.int .u64 d0, .int .u64 d1, .int .u64 d2, .int .u64 d3]) (by first | (simp only [results, Tryz.results338]; go_simp; done) | simp [results, Tryz.results338, go_sem, *]) rfl ⟨rfl, by (repeat (first | exact Below.refl _ _ | refine bl_drewN ?_ | refine bl_drew ?_ | refine bl_alloc ?_ _ | refine Below.setCell ?_ (by (first | (simp; done) | (simp; omega) | omega)) _ | refine bl_step (by assumption) ?_))⟩
theorem div64_below (hi lo y : Int) (w : World) (h0 : 0 ≤ hi) (h1 : hi < y) (h2 : y ≤ 18446744073709551615) (h3 : 0 ≤ lo) (h4 : lo ≤ 18446744073709551615) :
    Calls Tryz.prog 110 #[.int .u64 hi, .int .u64 lo, .int .u64 y] w fun e w' => e = .returned (.tuple #[.int .u64 ((hi * 18446744073709551616 + lo) / y), .int .u64 ((hi * 18446744073709551616 + lo) % y)]) ∧ Below w.heap.size w w' :=
  (div64_any hi lo y w h0 h1 h2 h3 h4).mono fun _ _ ⟨he, n, hw⟩ => ⟨he, by subst hw; (repeat (first | exact Below.refl _ _ | refine bl_drewN ?_ | refine bl_drew ?_ | refine bl_alloc ?_ _ | refine Below.setCell ?_ (by (first | (simp; done) | (simp; omega) | omega)) _ | refine bl_step (by assumption) ?_))⟩
set_option maxHeartbeats 2000000 in
theorem ndiv_walk (a0 a1 a2 a3 t d q0 q1 q2 q3 r0 r1 r2 r3 : Int) (w : World)
    (h0 : Hid (∀ w, Calls Tryz.prog 110 #[.int .u64 t, .int .u64 a0, .int .u64 d] w fun e w' => e = .returned (.tuple #[.int .u64 q0, .int .u64 r0]) ∧ Below w.heap.size w w'))
    (h1 : Hid (∀ w, Calls Tryz.prog 110 #[.int .u64 r0, .int .u64 a1, .int .u64 d] w fun e w' => e = .returned (.tuple #[.int .u64 q1, .int .u64 r1]) ∧ Below w.heap.size w w'))
    (h2 : Hid (∀ w, Calls Tryz.prog 110 #[.int .u64 r1, .int .u64 a2, .int .u64 d] w fun e w' => e = .returned (.tuple #[.int .u64 q2, .int .u64 r2]) ∧ Below w.heap.size w w'))
    (h3 : Hid (∀ w, Calls Tryz.prog 110 #[.int .u64 r2, .int .u64 a3, .int .u64 d] w fun e w' => e = .returned (.tuple #[.int .u64 q3, .int .u64 r3]) ∧ Below w.heap.size w w')) :
    Calls Tryz.prog 355 #[.agg #[.int .u64 a0, .int .u64 a1, .int .u64 a2, .int .u64 a3], .int .u64 t, .int .u64 d] w fun e w' => e = .returned (.agg #[.int .u64 q0, .int .u64 q1, .int .u64 q2, .int .u64 q3]) ∧ Below w.heap.size w w' := by
  go_enter Tryz.func355, Tryz.ntmps355
  go_wp2
  refine wp_loop_rounds 5 ?_
  rw [rounds_succ]
  go_wp2_with (go_at_call 110; ((with_reducible refine (h0.out _).mono ?_); rintro e w' ⟨rfl, hb⟩); (try replace hb := below_undrew hb); (try replace hb := below_undrewN hb); obtain ⟨hcell, hfroz⟩ := bcell hb; have hz := hb.size; (try simp at hz); (try (have z6 := Nat.lt_of_lt_of_le z7 hz)); (try (have z7 := Nat.lt_of_lt_of_le z8 hz)); (try (have z8 := Nat.lt_of_lt_of_le z9 hz)); (try (have z9 := Nat.lt_of_lt_of_le (Nat.lt_succ_self _) hz)); (try have z0 : w.heap.size < w'.heap.size := by omega); (try have z1 : w.heap.size + 1 < w'.heap.size := by omega); (try have z2 : w.heap.size + 1 + 1 < w'.heap.size := by omega); (try have z3 : w.heap.size + 1 + 1 + 1 < w'.heap.size := by omega))
  rw [rounds_succ]
  go_wp2_with (go_at_call 110; ((with_reducible refine (h1.out _).mono ?_); rintro e w' ⟨rfl, hb⟩); (try replace hb := below_undrew hb); (try replace hb := below_undrewN hb); obtain ⟨hcell, hfroz⟩ := bcell hb; have hz := hb.size; (try simp at hz); (try (have z6 := Nat.lt_of_lt_of_le z7 hz)); (try (have z7 := Nat.lt_of_lt_of_le z8 hz)); (try (have z8 := Nat.lt_of_lt_of_le z9 hz)); (try (have z9 := Nat.lt_of_lt_of_le (Nat.lt_succ_self _) hz)); (try have z0 : w.heap.size < w'.heap.size := by omega); (try have z1 : w.heap.size + 1 < w'.heap.size := by omega); (try have z2 : w.heap.size + 1 + 1 < w'.heap.size := by omega); (try have z3 : w.heap.size + 1 + 1 + 1 < w'.heap.size := by omega))
  rw [rounds_succ]
  go_wp2_with (go_at_call 110; ((with_reducible refine (h2.out _).mono ?_); rintro e w' ⟨rfl, hb⟩); (try replace hb := below_undrew hb); (try replace hb := below_undrewN hb); obtain ⟨hcell, hfroz⟩ := bcell hb; have hz := hb.size; (try simp at hz); (try (have z6 := Nat.lt_of_lt_of_le z7 hz)); (try (have z7 := Nat.lt_of_lt_of_le z8 hz)); (try (have z8 := Nat.lt_of_lt_of_le z9 hz)); (try (have z9 := Nat.lt_of_lt_of_le (Nat.lt_succ_self _) hz)); (try have z0 : w.heap.size < w'.heap.size := by omega); (try have z1 : w.heap.size + 1 < w'.heap.size := by omega); (try have z2 : w.heap.size + 1 + 1 < w'.heap.size := by omega); (try have z3 : w.heap.size + 1 + 1 + 1 < w'.heap.size := by omega))
  rw [rounds_succ]
  go_wp2_with (go_at_call 110; ((with_reducible refine (h3.out _).mono ?_); rintro e w' ⟨rfl, hb⟩); (try replace hb := below_undrew hb); (try replace hb := below_undrewN hb); obtain ⟨hcell, hfroz⟩ := bcell hb; have hz := hb.size; (try simp at hz); (try (have z6 := Nat.lt_of_lt_of_le z7 hz)); (try (have z7 := Nat.lt_of_lt_of_le z8 hz)); (try (have z8 := Nat.lt_of_lt_of_le z9 hz)); (try (have z9 := Nat.lt_of_lt_of_le (Nat.lt_succ_self _) hz)); (try have z0 : w.heap.size < w'.heap.size := by omega); (try have z1 : w.heap.size + 1 < w'.heap.size := by omega); (try have z2 : w.heap.size + 1 + 1 < w'.heap.size := by omega); (try have z3 : w.heap.size + 1 + 1 + 1 < w'.heap.size := by omega))
  rw [rounds_succ]
  go_wp2
  exact bodyPost_ret (v := .agg #[.int .u64 q0, .int .u64 q1, .int .u64 q2, .int .u64 q3]) (by first | (simp only [results, Tryz.results355]; go_simp; done) | simp [results, Tryz.results355, go_sem, *]) rfl ⟨rfl, by (repeat (first | exact Below.refl _ _ | refine bl_drewN ?_ | refine bl_drew ?_ | refine bl_alloc ?_ _ | refine Below.setCell ?_ (by (first | (simp; done) | (simp; omega) | omega)) _ | refine bl_step (by assumption) ?_))⟩
/-- the number of four words -/
def nv (a b c d : Int) : Int := ((a * 18446744073709551616 + b) * 18446744073709551616 + c) * 18446744073709551616 + d
def W64 : Int := 18446744073709551616
def W256 : Int := W64 * W64 * (W64 * W64)
/-- a number as a value of four words -/
def NUM (A : Int) : Value := .agg #[.int .u64 (A / (W64 * W64 * W64)), .int .u64 (A / (W64 * W64) % W64), .int .u64 (A / W64 % W64), .int .u64 (A % W64)]
def word (a : Int) : Prop := 0 ≤ a ∧ a ≤ 18446744073709551615
theorem nv_digits (a b c d : Int) (ha : word a) (hb : word b) (hc : word c) (hd : word d) :
    nv a b c d / (W64 * W64 * W64) = a ∧ nv a b c d / (W64 * W64) % W64 = b ∧ nv a b c d / W64 % W64 = c ∧ nv a b c d % W64 = d ∧ 0 ≤ nv a b c d ∧ nv a b c d < W256 := by
  unfold word at *
  unfold nv W64 W256 W64
  omega
theorem NUM_nv (a b c d : Int) (ha : word a) (hb : word b) (hc : word c) (hd : word d) : NUM (nv a b c d) = .agg #[.int .u64 a, .int .u64 b, .int .u64 c, .int .u64 d] := by
  obtain ⟨h1, h2, h3, h4, _⟩ := nv_digits a b c d ha hb hc hd
  unfold NUM; rw [h1, h2, h3, h4]
theorem NUM_words (A : Int) (h0 : 0 ≤ A) (h1 : A < W256) : ∃ a b c d, word a ∧ word b ∧ word c ∧ word d ∧ A = nv a b c d ∧ NUM A = .agg #[.int .u64 a, .int .u64 b, .int .u64 c, .int .u64 d] := by
  refine ⟨A / (W64 * W64 * W64), A / (W64 * W64) % W64, A / W64 % W64, A % W64, ?_, ?_, ?_, ?_, ?_, rfl⟩ <;> unfold W64 W256 at * <;> (try unfold word) <;> (try unfold nv) <;> (try unfold W64 at *) <;> omega
/-- what a difference of words is -/
theorem sub_word (x y b : Int) (hx : word x) (hy : word y) (hb : 0 ≤ b ∧ b ≤ 1) : ∃ d o, (∀ w, (callFunc 344 #[.int .u64 x, .int .u64 y, .int .u64 b]).run Tryz.prog w = .ok (.value (.tuple #[.int .u64 d, .int .u64 o])) w) ∧ word d ∧ 0 ≤ o ∧ o ≤ 1 ∧ d = x - y - b + o * 18446744073709551616 := by
  refine ⟨_, _, fun w => sub64_run x y b hx.1 hy.1 hy.2 hb.1 hb.2 w, ?_⟩
  unfold word at *
  split <;> omega
theorem nsub_any (A B : Int) (w : World) (a0 : 0 ≤ A) (a1 : A < W256) (b0 : 0 ≤ B) (b1 : B < W256) :
    Calls Tryz.prog 338 #[NUM A, NUM B] w fun e w' => e = .returned (NUM ((A - B) % W256)) ∧ Below w.heap.size w w' := by
  obtain ⟨a, b, c, d, ha, hb, hc, hd, eA, nA⟩ := NUM_words A a0 a1
  obtain ⟨p, q, r, s, hp, hq, hr, hs, eB, nB⟩ := NUM_words B b0 b1
  obtain ⟨d3, o3, f3, w3, l3, u3, e3⟩ := sub_word d s 0 hd hs (by omega)
  obtain ⟨d2, o2, f2, w2, l2, u2, e2⟩ := sub_word c r o3 hc hr ⟨l3, u3⟩
  obtain ⟨d1, o1, f1, w1, l1, u1, e1⟩ := sub_word b q o2 hb hq ⟨l2, u2⟩
  obtain ⟨d0, o0, f0, w0, l0, u0, e0⟩ := sub_word a p o1 ha hp ⟨l1, u1⟩
  have h := nsub_walk a b c d p q r s d0 d1 d2 d3 o0 o1 o2 o3 w f3 f2 f1 f0
  rw [nA, nB]
  have e : (A - B) % W256 = nv d0 d1 d2 d3 := by
    have k := nv_digits d0 d1 d2 d3 w0 w1 w2 w3
    have : A - B = nv d0 d1 d2 d3 - o0 * W256 := by
      rw [eA, eB]; unfold nv W256 W64; omega
    rw [this]
    have k5 := k.2.2.2.2.1
    have k6 := k.2.2.2.2.2
    generalize nv d0 d1 d2 d3 = N at *
    unfold W256 W64 at *
    omega
  rw [e, NUM_nv d0 d1 d2 d3 w0 w1 w2 w3]
  exact h
/-- what a quotient of two words by one is -/
theorem div_word (t x d : Int) (ht : 0 ≤ t ∧ t < d) (hd : d ≤ 18446744073709551615) (hx : word x) : ∃ q r, Hid (∀ w, Calls Tryz.prog 110 #[.int .u64 t, .int .u64 x, .int .u64 d] w fun e w' => e = .returned (.tuple #[.int .u64 q, .int .u64 r]) ∧ Below w.heap.size w w') ∧ word q ∧ 0 ≤ r ∧ r < d ∧ q * d + r = t * 18446744073709551616 + x := by
  refine ⟨_, _, hidden fun w => div64_below t x d w ht.1 ht.2 hd hx.1 hx.2, ?_⟩
  unfold word at *
  have hd0 : 0 < d := by omega
  have e := Int.mul_ediv_add_emod (t * 18446744073709551616 + x) d
  have r0 := Int.emod_nonneg (t * 18446744073709551616 + x) (show d ≠ 0 by omega)
  have r1 := Int.emod_lt_of_pos (t * 18446744073709551616 + x) hd0
  have q0 : 0 ≤ (t * 18446744073709551616 + x) / d := Int.ediv_nonneg (by omega) (by omega)
  have q1 : (t * 18446744073709551616 + x) / d < 18446744073709551616 := by
    apply Int.ediv_lt_of_lt_mul hd0
    have : t + 1 ≤ d := by omega
    have := Int.mul_le_mul_of_nonneg_left this (show (0 : Int) ≤ 18446744073709551616 by omega)
    omega
  refine ⟨⟨q0, by omega⟩, r0, r1, ?_⟩
  rw [Int.mul_comm]; exact e
theorem ndiv_any (A t d : Int) (w : World) (a0 : 0 ≤ A) (a1 : A < W256) (t0 : 0 ≤ t) (t1 : t < d) (d1 : d ≤ 18446744073709551615) :
    Calls Tryz.prog 355 #[NUM A, .int .u64 t, .int .u64 d] w fun e w' => e = .returned (NUM ((t * W256 + A) / d)) ∧ Below w.heap.size w w' ∧ 0 ≤ (t * W256 + A) / d ∧ (t * W256 + A) / d < W256 := by
  obtain ⟨a, b, c, e, ha, hb, hc, hd, eA, nA⟩ := NUM_words A a0 a1
  obtain ⟨q0, r0, f0, w0, l0, u0, e0⟩ := div_word t a d ⟨t0, t1⟩ d1 ha
  obtain ⟨q1, r1, f1, w1, l1, u1, e1⟩ := div_word r0 b d ⟨l0, u0⟩ d1 hb
  obtain ⟨q2, r2, f2, w2, l2, u2, e2⟩ := div_word r1 c d ⟨l1, u1⟩ d1 hc
  obtain ⟨q3, r3, f3, w3, l3, u3, e3⟩ := div_word r2 e d ⟨l2, u2⟩ d1 hd
  have k := nv_digits q0 q1 q2 q3 w0 w1 w2 w3
  have key : (t * W256 + A) / d = nv q0 q1 q2 q3 := by
    have : t * W256 + A = r3 + nv q0 q1 q2 q3 * d := by
      rw [eA]
      have x0 : nv q0 q1 q2 q3 * d = ((q0 * d * 18446744073709551616 + q1 * d) * 18446744073709551616 + q2 * d) * 18446744073709551616 + q3 * d := by unfold nv; grind
      rw [x0]
      unfold nv W256 W64
      omega
    rw [this, Int.add_mul_ediv_right _ _ (show d ≠ 0 by omega), Int.ediv_eq_zero_of_lt l3 u3]; omega
  rw [key, nA]
  refine (ndiv_walk a b c e t d q0 q1 q2 q3 r0 r1 r2 r3 w f0 f1 f2 f3).mono fun _ _ ⟨he, hw⟩ => ⟨?_, hw, k.2.2.2.2.1, k.2.2.2.2.2⟩
  rw [he, NUM_nv q0 q1 q2 q3 w0 w1 w2 w3]
end Go.Proofs.YtdhbeoahpfimbaaGreat
