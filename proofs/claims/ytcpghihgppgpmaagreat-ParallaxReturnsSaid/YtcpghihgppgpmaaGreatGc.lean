/- Several small texts in one: XRoot, XRef4a, XRef4b, XFixB, XRef4c, XRef4d, XRef4e, XRef4f. -/
import Derived.Test.YtcpghihgppgpmaaGreatGb
import Derived.LoopN
namespace Go.Proofs.YtcpghihgppgpmaaGreat
open Go.RowKit


theorem sq_mono {a b : Int} (h0 : 0 ≤ a) (h : a ≤ b) : a * a ≤ b * b := Int.mul_le_mul h h h0 (by omega)
theorem sq_lt {a b : Int} (hb : 0 ≤ b) (h : a * a < b * b) : a < b := by
  rcases Int.lt_or_le a b with g | g
  · exact g
  · exact absurd (sq_mono hb g) (by omega)

theorem isqrt_ex (n : Nat) : ∃ r : Nat, r * r ≤ n ∧ n < (r + 1) * (r + 1) := by
  induction n with
  | zero => exact ⟨0, by omega, by omega⟩
  | succ n ih =>
    obtain ⟨r, h1, h2⟩ := ih
    by_cases h : (r + 1) * (r + 1) ≤ n + 1
    · refine ⟨r + 1, h, ?_⟩
      have : (r + 1 + 1) * (r + 1 + 1) = (r + 1) * (r + 1) + 2 * (r + 1) + 1 := by grind
      omega
    · exact ⟨r, by omega, by omega⟩

theorem iroot_ex (n : Int) (h : 0 ≤ n) : ∃ r : Int, 0 ≤ r ∧ r * r ≤ n ∧ n < (r + 1) * (r + 1) := by
  obtain ⟨r, h1, h2⟩ := isqrt_ex n.toNat
  refine ⟨r, by omega, ?_, ?_⟩
  · have : ((r * r : Nat) : Int) ≤ (n.toNat : Int) := by exact_mod_cast h1
    rw [Int.toNat_of_nonneg h] at this; simpa using this
  · have : ((n.toNat : Nat) : Int) < (((r + 1) * (r + 1) : Nat) : Int) := by exact_mod_cast h2
    rw [Int.toNat_of_nonneg h] at this; simpa using this

theorem iroot_one {n r k : Int} (r0 : 0 ≤ r) (r1 : r * r ≤ n) (r2 : n < (r + 1) * (r + 1)) (k0 : 0 ≤ k) (k1 : k * k ≤ n) (k2 : n < (k + 1) * (k + 1)) : k = r := by
  have a := sq_lt (show 0 ≤ k + 1 by omega) (show r * r < (k + 1) * (k + 1) by omega)
  have b := sq_lt (show 0 ≤ r + 1 by omega) (show k * k < (r + 1) * (r + 1) by omega)
  omega

theorem iroot_bd {n k : Int} (h : k * k ≤ n) (h1 : n ≤ 2305843009213693952) : k ≤ 1518500249 := by
  have := sq_lt (a := k) (b := 1518500250) (by omega) (by omega)
  omega

/-- what holds at the head of each round of the root of package fixed: the root lies from k to less than k + 2 b (k + 1 at the end) -/
def rootI (n k b : Int) : Prop := ∃ j : Nat, j ≤ 32 ∧ b = 2 ^ j / 2 ∧ 0 ≤ k ∧ k * k ≤ n ∧ n < (k + 2 ^ j) * (k + 2 ^ j) ∧ (j = 32 → k = 0)

theorem rootI_start (n : Int) (h0 : 0 ≤ n) (h1 : n ≤ 2305843009213693952) : rootI n 0 2147483648 :=
  ⟨32, by omega, by decide, by omega, by omega, by omega, fun _ => rfl⟩

theorem pow_pos_i (j : Nat) : (0 : Int) < 2 ^ j := by exact_mod_cast Nat.two_pow_pos j
theorem pow_le_i {j k : Nat} (h : j ≤ k) : (2 : Int) ^ j ≤ 2 ^ k := by exact_mod_cast Nat.pow_le_pow_right (by omega) h

theorem rootI_bd {n k b : Int} (h1 : n ≤ 2305843009213693952) (h : rootI n k b) : 0 ≤ k ∧ k ≤ 1518500249 ∧ 0 ≤ b ∧ b ≤ 2147483648 ∧ k + b ≤ 2592242073 := by
  obtain ⟨j, hj, rfl, k0, k1, k2, k3⟩ := h
  have kb := iroot_bd k1 h1
  have p := pow_pos_i j
  by_cases e : j = 32
  · have := k3 e
    subst e; omega
  · have q := pow_le_i (show j ≤ 31 by omega)
    omega

theorem rootI_end {n k b r : Int} (h : rootI n k b) (hb : ¬ 0 < b) (r0 : 0 ≤ r) (r1 : r * r ≤ n) (r2 : n < (r + 1) * (r + 1)) : k = r := by
  obtain ⟨j, hj, rfl, k0, k1, k2, k3⟩ := h
  have e : j = 0 := by
    cases j with
    | zero => rfl
    | succ j => have := pow_pos_i j; rw [Int.pow_succ] at hb; omega
  subst e
  exact iroot_one r0 r1 r2 k0 k1 (by simpa using k2)

theorem rootI_next {n k b : Int} (h : rootI n k b) (hb : 0 < b) : ((k + b) * (k + b) ≤ n → rootI n (k + b) (b / 2)) ∧ (¬ (k + b) * (k + b) ≤ n → rootI n k (b / 2)) := by
  obtain ⟨j, hj, rfl, k0, k1, k2, k3⟩ := h
  cases j with
  | zero => simp at hb
  | succ j =>
    have p := pow_pos_i j
    have e : (2 : Int) ^ (j + 1) / 2 = 2 ^ j := by rw [Int.pow_succ]; omega
    rw [e] at hb ⊢
    have e2 : (2 : Int) ^ (j + 1) = 2 ^ j + 2 ^ j := by rw [Int.pow_succ]; omega
    rw [e2] at k2
    refine ⟨fun h => ⟨j, by omega, rfl, by omega, h, ?_, by omega⟩, fun h => ⟨j, by omega, rfl, k0, k1, by omega, by omega⟩⟩
    rw [Int.add_assoc]; exact k2

/-- what holds at the head of each round of the root of the reference: the root lies from k to less than h, whose distance is a power of two -/
def rootJ (n k h : Int) : Prop := ∃ j : Nat, j ≤ 31 ∧ h = k + 2 ^ j ∧ 0 ≤ k ∧ h ≤ 2147483648 ∧ k * k ≤ n ∧ n < h * h

theorem rootJ_start (n : Int) (h0 : 0 ≤ n) (h1 : n ≤ 2305843009213693952) : rootJ n 0 2147483648 :=
  ⟨31, by omega, by decide, by omega, by omega, by omega, by omega⟩
theorem rootJ_bd {n k h : Int} (hJ : rootJ n k h) : 0 ≤ k ∧ k < h ∧ h ≤ 2147483648 := by
  obtain ⟨j, hj, rfl, k0, k1, _, _⟩ := hJ
  have p := pow_pos_i j
  omega
theorem rootJ_end {n k h r : Int} (hJ : rootJ n k h) (hb : ¬ 1 < h - k) (r0 : 0 ≤ r) (r1 : r * r ≤ n) (r2 : n < (r + 1) * (r + 1)) : k = r := by
  have b := rootJ_bd hJ
  obtain ⟨j, hj, e, k0, _, k1, k2⟩ := hJ
  have e2 : h = k + 1 := by omega
  rw [e2] at k2
  exact iroot_one r0 r1 r2 k0 k1 k2
theorem rootJ_next {n k h : Int} (hJ : rootJ n k h) (hb : 1 < h - k) : ((k + h) / 2 * ((k + h) / 2) ≤ n → rootJ n ((k + h) / 2) h) ∧ (¬ (k + h) / 2 * ((k + h) / 2) ≤ n → rootJ n k ((k + h) / 2)) := by
  obtain ⟨j, hj, rfl, k0, k1, k2, k3⟩ := hJ
  cases j with
  | zero => simp at hb; omega
  | succ j =>
    have p := pow_pos_i j
    have e2 : (2 : Int) ^ (j + 1) = 2 ^ j + 2 ^ j := by rw [Int.pow_succ]; omega
    rw [e2] at hb k1 k3 ⊢
    have e : (k + (k + (2 ^ j + 2 ^ j))) / 2 = k + 2 ^ j := by omega
    rw [e]
    exact ⟨fun h => ⟨j, by omega, by omega, by omega, by omega, h, k3⟩, fun h => ⟨j, by omega, rfl, k0, by omega, k2, by omega⟩⟩

end Go.Proofs.YtcpghihgppgpmaaGreat

namespace Go.Proofs.YtcpghihgppgpmaaGreat
open Go.RowKit

theorem fit4_any (a b : Int) (w : World) (hab : a ≤ b) :
    Calls Tryz.prog 57 #[.int .i64 a, .int .i64 b] w fun e w' => e = .returned (fitF a b) ∧ Below w.heap.size w w' := by
  by_cases h1 : -2147483648 ≤ a
  · by_cases h2 : b ≤ 2147483648
    · rw [fitF_ok (fixB_mk ⟨h1, hab, h2⟩)]
      go_enter Tryz.func57, Tryz.ntmps57
      go_wp2
      exact bodyPost_ret (v := .tuple #[.agg #[.int .i64 (a), .int .i64 (b)], .int .i64 (0)]) (by first | (simp only [results, Tryz.results57]; go_simp; done) | simp [results, Tryz.results57, go_sem, *]) rfl ⟨rfl, by (repeat (first | exact Below.refl _ _ | refine bl_drewN ?_ | refine bl_drew ?_ | refine bl_alloc ?_ _ | refine Below.setCell ?_ (by (first | (simp; done) | (simp; omega) | omega)) _ | refine bl_step (by assumption) ?_))⟩
    · rw [fitF_no (fixB_not (by omega))]
      go_enter Tryz.func57, Tryz.ntmps57
      go_wp2
      exact bodyPost_ret (v := .tuple #[.agg #[.int .i64 (0), .int .i64 (0)], .int .i64 (5)]) (by first | (simp only [results, Tryz.results57]; go_simp; done) | simp [results, Tryz.results57, go_sem, *]) rfl ⟨rfl, by (repeat (first | exact Below.refl _ _ | refine bl_drewN ?_ | refine bl_drew ?_ | refine bl_alloc ?_ _ | refine Below.setCell ?_ (by (first | (simp; done) | (simp; omega) | omega)) _ | refine bl_step (by assumption) ?_))⟩
  · rw [fitF_no (fixB_not (by omega))]
    go_enter Tryz.func57, Tryz.ntmps57
    go_wp2
    exact bodyPost_ret (v := .tuple #[.agg #[.int .i64 (0), .int .i64 (0)], .int .i64 (5)]) (by first | (simp only [results, Tryz.results57]; go_simp; done) | simp [results, Tryz.results57, go_sem, *]) rfl ⟨rfl, by (repeat (first | exact Below.refl _ _ | refine bl_drewN ?_ | refine bl_drew ?_ | refine bl_alloc ?_ _ | refine Below.setCell ?_ (by (first | (simp; done) | (simp; omega) | omega)) _ | refine bl_step (by assumption) ?_))⟩

theorem fl_le_ce (n m d : Int) (hd : 0 < d) (h : n ≤ m) : n / d ≤ -(-m / d) := by
  have a := Int.ediv_le_ediv hd h
  have : m / d ≤ -(-m / d) := by
    rcases Int.lt_or_le (-(-m / d)) (m / d) with g | g
    · have b1 := Int.mul_ediv_add_emod m d
      have b2 := Int.mul_ediv_add_emod (-m) d
      have b3 := Int.emod_nonneg m (show d ≠ 0 by omega)
      have b4 := Int.emod_nonneg (-m) (show d ≠ 0 by omega)
      have b5 : d * (m / d) + d * (-m / d) ≤ 0 := by omega
      have b6 : d * (m / d + -m / d) ≤ 0 := by rw [Int.mul_add]; exact b5
      have b7 : 0 < m / d + -m / d := by omega
      have := Int.mul_pos hd b7
      omega
    · exact g
  omega
theorem fl_30 (n : Int) : fl n 1073741824 = n / 1073741824 := by unfold fl; rw [if_pos (by omega)]
theorem ce_30 (n : Int) : ce n 1073741824 = -(-n / 1073741824) := by unfold ce; rw [fl_30]

set_option maxHeartbeats 1000000 in
theorem mul4_any (a b c d : Int) (w : World) (h1 : fixB a b = true) (h2 : fixB c d = true) :
    Calls Tryz.prog 35 #[.agg #[.int .i64 (a), .int .i64 (b)], .agg #[.int .i64 (c), .int .i64 (d)]] w fun e w' => e = .returned (fitF (fl (min (a * c) (min (a * d) (min (b * c) (b * d)))) 1073741824) (ce (max (a * c) (max (a * d) (max (b * c) (b * d)))) 1073741824)) ∧ Below w.heap.size w w' := by
  obtain ⟨a1, a2, a3⟩ := fixB_t h1
  obtain ⟨c1, c2, c3⟩ := fixB_t h2
  clear h1 h2
  obtain ⟨p1, p2⟩ := prod_bd a c (by omega) (by omega) (by omega) (by omega)
  obtain ⟨p3, p4⟩ := prod_bd a d (by omega) (by omega) (by omega) (by omega)
  obtain ⟨p5, p6⟩ := prod_bd b c (by omega) (by omega) (by omega) (by omega)
  obtain ⟨p7, p8⟩ := prod_bd b d (by omega) (by omega) (by omega) (by omega)
  have r1 : IntKind.i64.wrap (a * c) = a * c := wrap_id (by omega) (by omega)
  have r2 : IntKind.i64.wrap (a * d) = a * d := wrap_id (by omega) (by omega)
  have r3 : IntKind.i64.wrap (b * c) = b * c := wrap_id (by omega) (by omega)
  have r4 : IntKind.i64.wrap (b * d) = b * d := wrap_id (by omega) (by omega)
  have mm : min (a * c) (min (a * d) (min (b * c) (b * d))) ≤ max (a * c) (max (a * d) (max (b * c) (b * d))) := by omega
  rw [fl_30, ce_30]
  have FI := fun w => fit4_any (min (a * c) (min (a * d) (min (b * c) (b * d))) / 1073741824) (-(-max (a * c) (max (a * d) (max (b * c) (b * d))) / 1073741824)) w (fl_le_ce _ _ _ (by omega) mm)
  have FA := fun w => floor4_any (min (a * c) (min (a * d) (min (b * c) (b * d)))) 1073741824 w (by omega) (by omega) (by omega) (by omega)
  have FB := fun w => ceil4_any (max (a * c) (max (a * d) (max (b * c) (b * d)))) 1073741824 w (by omega) (by omega) (by omega) (by omega)
  clear mm
  obtain ⟨p, q, k, e⟩ := fitF_form (min (a * c) (min (a * d) (min (b * c) (b * d))) / 1073741824) (-(-max (a * c) (max (a * d) (max (b * c) (b * d))) / 1073741824))
  rw [e] at FI ⊢
  clear e
  generalize min (a * c) (min (a * d) (min (b * c) (b * d))) / 1073741824 = X at *
  generalize -(-max (a * c) (max (a * d) (max (b * c) (b * d))) / 1073741824) = Y at *
  replace FI := hidden FI
  replace FA := hidden FA
  replace FB := hidden FB
  clear p1 p2 p3 p4 p5 p6 p7 p8
  go_enter Tryz.func35, Tryz.ntmps35
  go_wp2
  go_quiet (fail)
  go_wp2_with (first | (go_at_call 56; refine (least_any _ _ _).mono ?_; rintro e w' ⟨rfl, rfl⟩) | (go_at_call 60; refine (most_any _ _ _).mono ?_; rintro e w' ⟨rfl, rfl⟩) | (go_at_call 57; refine (FI.out _).mono ?_; rintro e w' ⟨rfl, hb⟩; (try replace hb := below_undrew hb); (try replace hb := below_undrewN hb); obtain ⟨hcell, hfroz⟩ := bcell hb; have hz := hb.size; (try simp at hz); (try (have z6 := Nat.lt_of_lt_of_le z7 hz)); (try (have z7 := Nat.lt_of_lt_of_le z8 hz)); (try (have z8 := Nat.lt_of_lt_of_le z9 hz)); (try (have z9 := Nat.lt_of_lt_of_le (Nat.lt_succ_self _) hz)); (try (have z0 : w.heap.size < w'.heap.size := by omega)); (try (have z1 : w.heap.size + 1 < w'.heap.size := by omega)); (try (have z2 : w.heap.size + 1 + 1 < w'.heap.size := by omega)); (try (have z3 : w.heap.size + 1 + 1 + 1 < w'.heap.size := by omega)); (try (have y1 : w1.heap.size < w'.heap.size := by omega)); (try (have y2 : w2.heap.size < w'.heap.size := by omega)); (try (have y3 : w3.heap.size < w'.heap.size := by omega)); (try (have y4 : w4.heap.size < w'.heap.size := by omega)); (try (have y5 : w5.heap.size < w'.heap.size := by omega)); (try (have y6 : w6.heap.size < w'.heap.size := by omega))) | (go_at_call 58; refine (FA.out _).mono ?_; rintro e w' ⟨rfl, rfl⟩) | (go_at_call 59; refine (FB.out _).mono ?_; rintro e w' ⟨rfl, rfl⟩))
  exact bodyPost_ret (v := .tuple #[.agg #[.int .i64 (p), .int .i64 (q)], .int .i64 (k)]) (by first | (simp only [results, Tryz.results35]; go_simp; done) | simp [results, Tryz.results35, go_sem, *]) rfl ⟨rfl, by (repeat (first | exact Below.refl _ _ | refine bl_drewN ?_ | refine bl_drew ?_ | refine bl_alloc ?_ _ | refine Below.setCell ?_ (by (first | (simp; done) | (simp; omega) | omega)) _ | refine bl_step (by assumption) ?_))⟩

set_option maxHeartbeats 1000000 in
theorem square4_walk (a b m X Y : Int) (w : World) (h : fixB a b = true) (hm : m = sqLo a b) (hX : m / 1073741824 = X) (hY : -(-max (a * a) (b * b) / 1073741824) = Y) (r : Value)
    (FI : ∀ w, Calls Tryz.prog 57 #[.int .i64 X, .int .i64 Y] w fun e w' => e = .returned r ∧ Below w.heap.size w w') (hr : ∃ p q k : Int, r = .tuple #[.agg #[.int .i64 (p), .int .i64 (q)], .int .i64 (k)]) :
    Calls Tryz.prog 31 #[.agg #[.int .i64 (a), .int .i64 (b)]] w fun e w' => e = .returned r ∧ Below w.heap.size w w' := by
  obtain ⟨p, q, k, rfl⟩ := hr
  obtain ⟨a1, a2, a3⟩ := fixB_t h
  clear h
  obtain ⟨p1, p2⟩ := prod_bd a a (by omega) (by omega) (by omega) (by omega)
  obtain ⟨p3, p4⟩ := prod_bd b b (by omega) (by omega) (by omega) (by omega)
  have r1 : IntKind.i64.wrap (a * a) = a * a := wrap_id (by omega) (by omega)
  have r2 : IntKind.i64.wrap (b * b) = b * b := wrap_id (by omega) (by omega)
  have m0 : -4611686018427387904 ≤ m ∧ m ≤ 4611686018427387904 := by rw [hm]; unfold sqLo; split <;> omega
  have FA := fun w => floor4_any m 1073741824 w m0.1 m0.2 (by omega) (by omega)
  have FB := fun w => ceil4_any (max (a * a) (b * b)) 1073741824 w (by omega) (by omega) (by omega) (by omega)
  rw [hX] at FA
  rw [hY] at FB
  replace FA := hidden FA
  replace FB := hidden FB
  replace FI := hidden FI
  clear p1 p2 p3 p4 hX hY m0
  by_cases h1 : a ≤ 0
  · by_cases h2 : 0 ≤ b
    · have e : m = 0 := by rw [hm]; simp [sqLo, zeroB_mk ⟨h1, h2⟩]
      subst e
      clear hm
      go_enter Tryz.func31, Tryz.ntmps31
      go_wp2
      go_quiet (fail)
      go_wp2_with (first | (go_at_call 56; refine (least_any _ _ _).mono ?_; rintro e w' ⟨rfl, rfl⟩) | (go_at_call 60; refine (most_any _ _ _).mono ?_; rintro e w' ⟨rfl, rfl⟩) | (go_at_call 58; refine (FA.out _).mono ?_; rintro e w' ⟨rfl, rfl⟩) | (go_at_call 59; refine (FB.out _).mono ?_; rintro e w' ⟨rfl, rfl⟩) | (go_at_call 57; refine (FI.out _).mono ?_; rintro e w' ⟨rfl, hb⟩; (try replace hb := below_undrew hb); (try replace hb := below_undrewN hb); obtain ⟨hcell, hfroz⟩ := bcell hb; have hz := hb.size; (try simp at hz); (try (have z6 := Nat.lt_of_lt_of_le z7 hz)); (try (have z7 := Nat.lt_of_lt_of_le z8 hz)); (try (have z8 := Nat.lt_of_lt_of_le z9 hz)); (try (have z9 := Nat.lt_of_lt_of_le (Nat.lt_succ_self _) hz)); (try (have z0 : w.heap.size < w'.heap.size := by omega)); (try (have z1 : w.heap.size + 1 < w'.heap.size := by omega)); (try (have z2 : w.heap.size + 1 + 1 < w'.heap.size := by omega)); (try (have z3 : w.heap.size + 1 + 1 + 1 < w'.heap.size := by omega)); (try (have y1 : w1.heap.size < w'.heap.size := by omega)); (try (have y2 : w2.heap.size < w'.heap.size := by omega)); (try (have y3 : w3.heap.size < w'.heap.size := by omega)); (try (have y4 : w4.heap.size < w'.heap.size := by omega)); (try (have y5 : w5.heap.size < w'.heap.size := by omega)); (try (have y6 : w6.heap.size < w'.heap.size := by omega))))
      exact bodyPost_ret (v := .tuple #[.agg #[.int .i64 (p), .int .i64 (q)], .int .i64 (k)]) (by first | (simp only [results, Tryz.results31]; go_simp; done) | simp [results, Tryz.results31, go_sem, *]) rfl ⟨rfl, by (repeat (first | exact Below.refl _ _ | refine bl_drewN ?_ | refine bl_drew ?_ | refine bl_alloc ?_ _ | refine Below.setCell ?_ (by (first | (simp; done) | (simp; omega) | omega)) _ | refine bl_step (by assumption) ?_))⟩
    · have e : m = min (a * a) (b * b) := by rw [hm]; simp [sqLo, zeroB_not (lo := a) (hi := b) (by omega)]
      subst e
      clear hm
      go_enter Tryz.func31, Tryz.ntmps31
      go_wp2
      go_quiet (fail)
      go_wp2_with (first | (go_at_call 56; refine (least_any _ _ _).mono ?_; rintro e w' ⟨rfl, rfl⟩) | (go_at_call 60; refine (most_any _ _ _).mono ?_; rintro e w' ⟨rfl, rfl⟩) | (go_at_call 58; refine (FA.out _).mono ?_; rintro e w' ⟨rfl, rfl⟩) | (go_at_call 59; refine (FB.out _).mono ?_; rintro e w' ⟨rfl, rfl⟩) | (go_at_call 57; refine (FI.out _).mono ?_; rintro e w' ⟨rfl, hb⟩; (try replace hb := below_undrew hb); (try replace hb := below_undrewN hb); obtain ⟨hcell, hfroz⟩ := bcell hb; have hz := hb.size; (try simp at hz); (try (have z6 := Nat.lt_of_lt_of_le z7 hz)); (try (have z7 := Nat.lt_of_lt_of_le z8 hz)); (try (have z8 := Nat.lt_of_lt_of_le z9 hz)); (try (have z9 := Nat.lt_of_lt_of_le (Nat.lt_succ_self _) hz)); (try (have z0 : w.heap.size < w'.heap.size := by omega)); (try (have z1 : w.heap.size + 1 < w'.heap.size := by omega)); (try (have z2 : w.heap.size + 1 + 1 < w'.heap.size := by omega)); (try (have z3 : w.heap.size + 1 + 1 + 1 < w'.heap.size := by omega)); (try (have y1 : w1.heap.size < w'.heap.size := by omega)); (try (have y2 : w2.heap.size < w'.heap.size := by omega)); (try (have y3 : w3.heap.size < w'.heap.size := by omega)); (try (have y4 : w4.heap.size < w'.heap.size := by omega)); (try (have y5 : w5.heap.size < w'.heap.size := by omega)); (try (have y6 : w6.heap.size < w'.heap.size := by omega))))
      exact bodyPost_ret (v := .tuple #[.agg #[.int .i64 (p), .int .i64 (q)], .int .i64 (k)]) (by first | (simp only [results, Tryz.results31]; go_simp; done) | simp [results, Tryz.results31, go_sem, *]) rfl ⟨rfl, by (repeat (first | exact Below.refl _ _ | refine bl_drewN ?_ | refine bl_drew ?_ | refine bl_alloc ?_ _ | refine Below.setCell ?_ (by (first | (simp; done) | (simp; omega) | omega)) _ | refine bl_step (by assumption) ?_))⟩
  · have e : m = min (a * a) (b * b) := by rw [hm]; simp [sqLo, zeroB_not (lo := a) (hi := b) (by omega)]
    subst e
    clear hm
    go_enter Tryz.func31, Tryz.ntmps31
    go_wp2
    go_quiet (fail)
    go_wp2_with (first | (go_at_call 56; refine (least_any _ _ _).mono ?_; rintro e w' ⟨rfl, rfl⟩) | (go_at_call 60; refine (most_any _ _ _).mono ?_; rintro e w' ⟨rfl, rfl⟩) | (go_at_call 58; refine (FA.out _).mono ?_; rintro e w' ⟨rfl, rfl⟩) | (go_at_call 59; refine (FB.out _).mono ?_; rintro e w' ⟨rfl, rfl⟩) | (go_at_call 57; refine (FI.out _).mono ?_; rintro e w' ⟨rfl, hb⟩; (try replace hb := below_undrew hb); (try replace hb := below_undrewN hb); obtain ⟨hcell, hfroz⟩ := bcell hb; have hz := hb.size; (try simp at hz); (try (have z6 := Nat.lt_of_lt_of_le z7 hz)); (try (have z7 := Nat.lt_of_lt_of_le z8 hz)); (try (have z8 := Nat.lt_of_lt_of_le z9 hz)); (try (have z9 := Nat.lt_of_lt_of_le (Nat.lt_succ_self _) hz)); (try (have z0 : w.heap.size < w'.heap.size := by omega)); (try (have z1 : w.heap.size + 1 < w'.heap.size := by omega)); (try (have z2 : w.heap.size + 1 + 1 < w'.heap.size := by omega)); (try (have z3 : w.heap.size + 1 + 1 + 1 < w'.heap.size := by omega)); (try (have y1 : w1.heap.size < w'.heap.size := by omega)); (try (have y2 : w2.heap.size < w'.heap.size := by omega)); (try (have y3 : w3.heap.size < w'.heap.size := by omega)); (try (have y4 : w4.heap.size < w'.heap.size := by omega)); (try (have y5 : w5.heap.size < w'.heap.size := by omega)); (try (have y6 : w6.heap.size < w'.heap.size := by omega))))
    exact bodyPost_ret (v := .tuple #[.agg #[.int .i64 (p), .int .i64 (q)], .int .i64 (k)]) (by first | (simp only [results, Tryz.results31]; go_simp; done) | simp [results, Tryz.results31, go_sem, *]) rfl ⟨rfl, by (repeat (first | exact Below.refl _ _ | refine bl_drewN ?_ | refine bl_drew ?_ | refine bl_alloc ?_ _ | refine Below.setCell ?_ (by (first | (simp; done) | (simp; omega) | omega)) _ | refine bl_step (by assumption) ?_))⟩

theorem sqLo_le (a b : Int) : sqLo a b ≤ max (a * a) (b * b) := by
  have h1 : 0 ≤ a * a := by
    rcases Int.le_total 0 a with h | h
    · exact Int.mul_nonneg h h
    · exact Int.mul_nonneg_of_nonpos_of_nonpos h h
  unfold sqLo; split <;> omega

theorem square4_any (a b : Int) (w : World) (h : fixB a b = true) :
    Calls Tryz.prog 31 #[.agg #[.int .i64 (a), .int .i64 (b)]] w fun e w' => e = .returned (fitF (fl (sqLo a b) 1073741824) (ce (max (a * a) (b * b)) 1073741824)) ∧ Below w.heap.size w w' :=
  square4_walk a b _ _ _ w h rfl (fl_30 _).symm (ce_30 _).symm _ (fun w => fit4_any _ _ w (by rw [fl_30, ce_30]; exact fl_le_ce _ _ _ (by omega) (sqLo_le a b))) (fitF_form _ _)

end Go.Proofs.YtcpghihgppgpmaaGreat

namespace Go.Proofs.YtcpghihgppgpmaaGreat
open Go.RowKit

/-- k digits of a binary quotient: m, and the rest r -/
def makI (A B : Int) (k : Nat) (m r : Int) : Prop := m * B + r = A * 2 ^ k ∧ 0 ≤ r ∧ r < B ∧ 0 ≤ m ∧ m ≤ 2 * 2 ^ k + (2 ^ k - 1)
theorem makI_start (A B : Int) (hA : 0 ≤ A) (hB : 0 < B) (hq : A / B ≤ 2) : makI A B 0 (A / B) (A % B) := by
  have e := Int.mul_ediv_add_emod A B
  have r0 := Int.emod_nonneg A (Int.ne_of_gt hB)
  have r1 := Int.emod_lt_of_pos A hB
  have q0 := Int.ediv_nonneg hA (Int.le_of_lt hB)
  rw [Int.mul_comm] at e
  exact ⟨by simp [e], r0, r1, q0, by simp; omega⟩
theorem makI_bd {A B m r : Int} {k : Nat} (hk : k ≤ 30) (h : makI A B k m r) : 0 ≤ m ∧ m ≤ 3221225471 ∧ 0 ≤ r ∧ r < B := by
  obtain ⟨_, h1, h2, h3, h4⟩ := h
  have := pow_le_i hk
  omega
theorem makI_more {A B m r : Int} {k : Nat} (h : makI A B k m r) (hr : B - r ≤ r) : makI A B (k + 1) (2 * m + 1) (r - (B - r)) := by
  obtain ⟨h0, h1, h2, h3, h4⟩ := h
  have e : (2 : Int) ^ (k + 1) = 2 * 2 ^ k := by rw [Int.pow_succ]; omega
  have e2 : A * (2 * 2 ^ k) = 2 * (A * 2 ^ k) := by grind
  have e3 : (2 * m + 1) * B = 2 * (m * B) + B := by grind
  refine ⟨?_, by omega, by omega, by omega, ?_⟩
  · rw [e, e2, ← h0, e3]; omega
  · rw [e]; omega
theorem makI_less {A B m r : Int} {k : Nat} (h : makI A B k m r) (hr : ¬ B - r ≤ r) : makI A B (k + 1) (2 * m) (2 * r) := by
  obtain ⟨h0, h1, h2, h3, h4⟩ := h
  have e : (2 : Int) ^ (k + 1) = 2 * 2 ^ k := by rw [Int.pow_succ]; omega
  have e2 : A * (2 * 2 ^ k) = 2 * (A * 2 ^ k) := by grind
  have e3 : (2 * m) * B = 2 * (m * B) := by grind
  refine ⟨?_, by omega, by omega, by omega, ?_⟩
  · rw [e, e2, ← h0, e3]; omega
  · rw [e]; omega
theorem makI_end {A B m r : Int} (h : makI A B 30 m r) : A * 1073741824 / B = m ∧ A * 1073741824 % B = r := by
  obtain ⟨h0, h1, h2, h3, h4⟩ := h
  have e : A * 1073741824 = m * B + r := by rw [h0]; rfl
  have hB : B ≠ 0 := by omega
  rw [e]
  constructor
  · rw [Int.add_comm, Int.add_mul_ediv_right _ _ hB, Int.ediv_eq_zero_of_lt h1 h2]; omega
  · rw [Int.add_comm, Int.add_mul_emod_self_right]; exact Int.emod_eq_of_lt h1 h2

theorem absI_scale (n : Int) : absI (n * 1073741824) = absI n * 1073741824 := by unfold absI; split <;> split <;> omega
theorem make_ends {n d m r : Int} (hd : d ≠ 0) (h : makI (absI n) (absI d) 30 m r) (S : Bool) (hS : (decide (n < 0) != decide (d < 0)) = S) :
    fl (n * 1073741824) d = (if S then (if 0 < r then -m - 1 else -m) else m) ∧ ce (n * 1073741824) d = (if S then -m else (if 0 < r then m + 1 else m)) := by
  obtain ⟨e1, e2⟩ := makI_end h
  have e3 : decide (n * 1073741824 < 0) = decide (n < 0) := by rw [decide_eq_decide]; omega
  rw [fl_abs _ _ hd, ce_abs _ _ hd, absI_scale, e1, e2, e3, hS]
  exact ⟨rfl, rfl⟩
theorem make_big {n d : Int} (hd : d ≠ 0) (h : 2 < absI n / absI d ∨ (absI n / absI d = 2 ∧ 0 < absI n % absI d)) : fixB (fl (n * 1073741824) d) (ce (n * 1073741824) d) = false := by
  have hB : 0 < absI d := by unfold absI; split <;> omega
  have hA : 0 ≤ absI n := by unfold absI; split <;> omega
  have e3 : decide (n * 1073741824 < 0) = decide (n < 0) := by rw [decide_eq_decide]; omega
  have e := Int.mul_ediv_add_emod (absI n) (absI d)
  have r0 := Int.emod_nonneg (absI n) (Int.ne_of_gt hB)
  have r1 := Int.emod_lt_of_pos (absI n) hB
  rw [fl_abs _ _ hd, ce_abs _ _ hd, absI_scale, e3]
  generalize (decide (n < 0) != decide (d < 0)) = S
  generalize absI n = A at *
  generalize absI d = B at *
  have g : 2147483648 < A * 1073741824 / B ∨ (2147483648 ≤ A * 1073741824 / B ∧ 0 < A * 1073741824 % B) := by
    rcases h with h | ⟨h, k⟩
    · left
      have : 3 * 1073741824 ≤ A * 1073741824 / B := by
        apply (Int.le_ediv_iff_mul_le hB).2
        have h3 : B * 3 ≤ B * (A / B) := Int.mul_le_mul_of_nonneg_left (by omega) (by omega)
        omega
      omega
    · have h3 : B * 2 = B * (A / B) := by rw [h]
      have e5 := Int.mul_ediv_add_emod (A * 1073741824) B
      have r5 := Int.emod_nonneg (A * 1073741824) (Int.ne_of_gt hB)
      have q5 : 2147483648 ≤ A * 1073741824 / B := by
        apply (Int.le_ediv_iff_mul_le hB).2
        omega
      by_cases z : A * 1073741824 / B = 2147483648
      · right; rw [z] at e5; omega
      · left; omega
  generalize A * 1073741824 / B = M at *
  generalize A * 1073741824 % B = R at *
  apply fixB_not
  cases S <;> simp <;> split <;> omega

end Go.Proofs.YtcpghihgppgpmaaGreat

namespace Go.Proofs.YtcpghihgppgpmaaGreat
open Go.RowKit


/-- the least enclosure of a root: r is the root of n rounded down, s that of m; up: m's root rounded up -/
def upRoot (m s : Int) : Int := if s * s < m then s + 1 else s
def isRoot (n r : Int) : Prop := 0 ≤ r ∧ r * r ≤ n ∧ n < (r + 1) * (r + 1)
theorem isRoot_bd {n r : Int} (hn : n ≤ 2305843009213693952) (h : isRoot n r) : 0 ≤ r ∧ r ≤ 1518500249 := ⟨h.1, iroot_bd h.2.1 hn⟩
theorem isRoot_le {n m r s : Int} (h : n ≤ m) (hr : isRoot n r) (hs : isRoot m s) : r ≤ s := by
  have := sq_lt (a := r) (b := s + 1) (by have := hs.1; omega) (by have := hr.2.1; have := hs.2.2; omega)
  omega

/-- the least and the greatest of the four quotients of the ends -/
def divLo (a b c d : Int) : Int := min (fl (a * 1073741824) c) (min (fl (a * 1073741824) d) (min (fl (b * 1073741824) c) (fl (b * 1073741824) d)))
def divHi (a b c d : Int) : Int := max (ce (a * 1073741824) c) (max (ce (a * 1073741824) d) (max (ce (b * 1073741824) c) (ce (b * 1073741824) d)))

theorem ffit_to (x y X Y p q k : Int) (w : World) (hx : x = X) (hy : y = Y) (hv : fitF X Y = .tuple #[.agg #[.int .i64 (p), .int .i64 (q)], .int .i64 (k)]) :
    Calls Tryz.prog 44 #[.int .i64 x, .int .i64 y] w fun e w' => e = .returned (.tuple #[.agg #[.int .i64 (p), .int .i64 (q)], .int .i64 (k)]) ∧ Below w.heap.size w w' := by
  subst hx hy
  rw [← hv]; exact ffit_any _ _ w

end Go.Proofs.YtcpghihgppgpmaaGreat

namespace Go.Proofs.YtcpghihgppgpmaaGreat
open Go.RowKit

theorem fit4_to (x y X Y p q k : Int) (w : World) (hxy : X ≤ Y) (hx : x = X) (hy : y = Y) (hv : fitF X Y = .tuple #[.agg #[.int .i64 (p), .int .i64 (q)], .int .i64 (k)]) :
    Calls Tryz.prog 57 #[.int .i64 x, .int .i64 y] w fun e w' => e = .returned (.tuple #[.agg #[.int .i64 (p), .int .i64 (q)], .int .i64 (k)]) ∧ Below w.heap.size w w' := by
  subst hx hy
  rw [← hv]; exact fit4_any _ _ w hxy

theorem ce_pos_le (n m d : Int) (hd : 0 < d) (h : n ≤ m) : -(-n / d) ≤ -(-m / d) := by
  have := Int.ediv_le_ediv hd (show -m ≤ -n by omega)
  omega

theorem fl_pos' {n d : Int} (h : 0 < d) : fl n d = n / d := by unfold fl; rw [if_pos h]
theorem fl_neg' {n d : Int} (h : d < 0) : fl n d = -n / -d := by unfold fl; rw [if_neg (by omega)]

theorem div_turned_pos (a b c d : Int) (hab : a ≤ b) (hcd : c ≤ d) (hc : 0 < c) :
    divLo a b c d = min (a * 1073741824 / c) (a * 1073741824 / d) ∧ divHi a b c d = max (-(-(b * 1073741824) / c)) (-(-(b * 1073741824) / d)) := by
  have hd : 0 < d := by omega
  have m1 := Int.ediv_le_ediv hc (show a * 1073741824 ≤ b * 1073741824 by omega)
  have m2 := Int.ediv_le_ediv hd (show a * 1073741824 ≤ b * 1073741824 by omega)
  have m3 := ce_pos_le (a * 1073741824) (b * 1073741824) c hc (by omega)
  have m4 := ce_pos_le (a * 1073741824) (b * 1073741824) d hd (by omega)
  unfold divLo divHi ce
  simp only [fl_pos' hc, fl_pos' hd]
  constructor
  · generalize a * 1073741824 / c = x1 at *
    generalize b * 1073741824 / c = x2 at *
    generalize a * 1073741824 / d = x3 at *
    generalize b * 1073741824 / d = x4 at *
    clear m3 m4
    omega
  · clear m1 m2
    generalize -(a * 1073741824) / c = x1 at *
    generalize -(b * 1073741824) / c = x2 at *
    generalize -(a * 1073741824) / d = x3 at *
    generalize -(b * 1073741824) / d = x4 at *
    omega

theorem div_turned_neg (a b c d : Int) (hab : a ≤ b) (hcd : c ≤ d) (hd : d < 0) :
    divLo a b c d = min (-b * 1073741824 / -d) (-b * 1073741824 / -c) ∧ divHi a b c d = max (-(-(-a * 1073741824) / -d)) (-(-(-a * 1073741824) / -c)) := by
  have hc : c < 0 := by omega
  have hc' : 0 < -c := by omega
  have hd' : 0 < -d := by omega
  have m1 := Int.ediv_le_ediv hc' (show -b * 1073741824 ≤ -a * 1073741824 by omega)
  have m2 := Int.ediv_le_ediv hd' (show -b * 1073741824 ≤ -a * 1073741824 by omega)
  have m3 := ce_pos_le (-b * 1073741824) (-a * 1073741824) (-c) hc' (by omega)
  have m4 := ce_pos_le (-b * 1073741824) (-a * 1073741824) (-d) hd' (by omega)
  unfold divLo divHi ce
  simp only [fl_neg' hc, fl_neg' hd, Int.neg_neg]
  have ea : -(a * 1073741824) = -a * 1073741824 := by omega
  have eb : -(b * 1073741824) = -b * 1073741824 := by omega
  have ea2 : a * 1073741824 = -(-a * 1073741824) := by omega
  have eb2 : b * 1073741824 = -(-b * 1073741824) := by omega
  rw [ea, eb, ea2, eb2]
  constructor
  · generalize -a * 1073741824 / -c = x1 at *
    generalize -b * 1073741824 / -c = x2 at *
    generalize -a * 1073741824 / -d = x3 at *
    generalize -b * 1073741824 / -d = x4 at *
    clear m3 m4 ea eb ea2 eb2
    omega
  · clear m1 m2 ea eb ea2 eb2
    generalize -(-a * 1073741824) / -c = x1 at *
    generalize -(-b * 1073741824) / -c = x2 at *
    generalize -(-a * 1073741824) / -d = x3 at *
    generalize -(-b * 1073741824) / -d = x4 at *
    omega

end Go.Proofs.YtcpghihgppgpmaaGreat

namespace Go.Proofs.YtcpghihgppgpmaaGreat
open Go.RowKit

def reachB (n : Int) : Bool := decide (-1099511627776 ≤ n) && decide (n ≤ 1099511627776)
theorem reachB_t {n : Int} (h : reachB n = true) : -1099511627776 ≤ n ∧ n ≤ 1099511627776 := by simp [reachB] at h; omega
theorem reachB_f {n : Int} (h : reachB n = false) : ¬ (-1099511627776 ≤ n ∧ n ≤ 1099511627776) := by intro ⟨a, b⟩; simp [reachB, a, b] at h
theorem reachB_mk {n : Int} (h : -1099511627776 ≤ n ∧ n ≤ 1099511627776) : reachB n = true := by simp [reachB]; omega
theorem reachB_not {n : Int} (h : ¬ (-1099511627776 ≤ n ∧ n ≤ 1099511627776)) : reachB n = false := by simp [reachB]; omega

theorem reaches_any (n : Int) (w : World) :
    Calls Tryz.prog 71 #[.int .i64 n] w fun e w' => e = .returned (.bool (reachB n)) ∧ w = w' := by
  by_cases h1 : -1099511627776 ≤ n
  · by_cases h2 : n ≤ 1099511627776
    · have H := hidden (reachB_mk ⟨h1, h2⟩)
      go_enter Tryz.func71, Tryz.ntmps71
      go_wp2
      go_ret
      exact ⟨by rw [H.out]; rfl, rfl⟩
    · have H := hidden (reachB_not (n := n) (by omega))
      go_enter Tryz.func71, Tryz.ntmps71
      go_wp2
      go_ret
      exact ⟨by rw [H.out]; rfl, rfl⟩
  · have H := hidden (reachB_not (n := n) (by omega))
    go_enter Tryz.func71, Tryz.ntmps71
    go_wp2
    go_ret
    exact ⟨by rw [H.out]; rfl, rfl⟩

theorem factor_any (n : Int) (w : World) :
    Calls Tryz.prog 64 #[.int .i64 n] w fun e w' => e = .returned (.bool (reachB n)) ∧ w = w' := by
  by_cases h1 : -1099511627776 ≤ n
  · by_cases h2 : n ≤ 1099511627776
    · have H := hidden (reachB_mk ⟨h1, h2⟩)
      go_enter Tryz.func64, Tryz.ntmps64
      go_wp2
      go_ret
      exact ⟨by rw [H.out]; rfl, rfl⟩
    · have H := hidden (reachB_not (n := n) (by omega))
      go_enter Tryz.func64, Tryz.ntmps64
      go_wp2
      go_ret
      exact ⟨by rw [H.out]; rfl, rfl⟩
  · have H := hidden (reachB_not (n := n) (by omega))
    go_enter Tryz.func64, Tryz.ntmps64
    go_wp2
    go_ret
    exact ⟨by rw [H.out]; rfl, rfl⟩

theorem mul_bd {x y X Y : Int} (hx : -X ≤ x ∧ x ≤ X) (hy : -Y ≤ y ∧ y ≤ Y) : -(X * Y) ≤ x * y ∧ x * y ≤ X * Y := by
  have e := Int.natAbs_mul x y
  have h : x.natAbs * y.natAbs ≤ X.toNat * Y.toNat := Nat.mul_le_mul (by omega) (by omega)
  rw [← e] at h
  have h2 : ((x * y).natAbs : Int) ≤ ((X.toNat * Y.toNat : Nat) : Int) := by exact_mod_cast h
  rw [Int.natCast_mul, Int.toNat_of_nonneg (by omega), Int.toNat_of_nonneg (by omega)] at h2
  omega

theorem times_math (x n y : Int) (x0 : -2147483648 ≤ x) (x1 : x ≤ 2147483648) (n0 : -1099511627776 ≤ n) (n1 : n ≤ 1099511627776) (y0 : 1 ≤ y) (y1 : y ≤ 2147483648)
    (o0 : -1152921504606846976 * y ≤ x * n) (o1 : x * n ≤ 1152921504606846976 * y) : ∃ low high p q s m f : Int,
    n.tmod 1048576 = low ∧ -1048576 ≤ low ∧ low ≤ 1048576 ∧ (n - low).tdiv 1048576 = high ∧ -1048576 ≤ high ∧ high ≤ 1048576 ∧ x * high = p ∧ -2251799813685248 ≤ p ∧ p ≤ 2251799813685248 ∧
    p / y = q ∧ -2199023255552 ≤ q ∧ q ≤ 2199023255552 ∧ q * y = s ∧ 0 ≤ p - s ∧ p - s ≤ 2147483648 ∧ x * low = m ∧ -2251799813685248 ≤ m ∧ m ≤ 2251799813685248 ∧
    ((p - s) * 1048576 + m) / y = f ∧ -4503599627370497 ≤ f ∧ f ≤ 4503599627370497 ∧ q * 1048576 + f = x * n / y := by
  have hl : n.tmod 1048576 = n - 1048576 * n.tdiv 1048576 := by have := Int.mul_tdiv_add_tmod n 1048576; omega
  have hb : -1048576 < n.tmod 1048576 ∧ n.tmod 1048576 < 1048576 := by
    have e := tmod_abs n 1048576
    have e2 : absI 1048576 = 1048576 := by decide
    rw [e2] at e
    have q1 := Int.emod_nonneg (absI n) (show (1048576 : Int) ≠ 0 by omega)
    have q2 := Int.emod_lt_of_pos (absI n) (show (0 : Int) < 1048576 by omega)
    split at e <;> omega
  have hh : (n - n.tmod 1048576).tdiv 1048576 = n.tdiv 1048576 := by
    rw [hl, show n - (n - 1048576 * n.tdiv 1048576) = n.tdiv 1048576 * 1048576 by omega]
    exact Int.mul_tdiv_cancel _ (by omega)
  generalize hlow : n.tmod 1048576 = low at *
  generalize hhigh : n.tdiv 1048576 = high at *
  have en : n = high * 1048576 + low := by omega
  have hb2 : -1048576 ≤ high ∧ high ≤ 1048576 := by omega
  have bp := mul_bd (X := 2147483648) (Y := 1048576) (x := x) (y := high) (by omega) (by omega)
  have bm := mul_bd (X := 2147483648) (Y := 1048576) (x := x) (y := low) (by omega) (by omega)
  have exn : x * n = x * high * 1048576 + x * low := by rw [en, Int.mul_add]; grind
  generalize hp : x * high = p at *
  generalize hm : x * low = m at *
  have ey : y ≠ 0 := by omega
  have e := Int.mul_ediv_add_emod p y
  have r0 := Int.emod_nonneg p ey
  have r1 := Int.emod_lt_of_pos p (show 0 < y by omega)
  have eq : y * (p / y) = p / y * y := Int.mul_comm _ _
  have q0 : -2199023255552 ≤ p / y := by
    apply (Int.le_ediv_iff_mul_le (by omega)).2; omega
  have q1 : p / y ≤ 2199023255552 := by
    have : p / y < 2199023255552 + 1 := Int.ediv_lt_of_lt_mul (by omega) (by omega)
    omega
  generalize hq : p / y = q at *
  generalize hs : q * y = s at *
  have f0 : -4503599627370497 ≤ ((p - s) * 1048576 + m) / y := by
    apply (Int.le_ediv_iff_mul_le (by omega)).2; omega
  have f1 : ((p - s) * 1048576 + m) / y ≤ 4503599627370497 := by
    have : ((p - s) * 1048576 + m) / y < 4503599627370497 + 1 := Int.ediv_lt_of_lt_mul (by omega) (by omega)
    omega
  refine ⟨low, high, p, q, s, m, _, rfl, by omega, by omega, hh, by omega, by omega, hp, by omega, by omega, hq, q0, q1, hs, by omega, by omega, hm, by omega, by omega, rfl, f0, f1, ?_⟩
  have e2 : x * n = q * 1048576 * y + ((p - s) * 1048576 + m) := by
    have : q * 1048576 * y = s * 1048576 := by rw [← hs]; grind
    rw [exn, this]; omega
  rw [e2, Int.add_comm (q * 1048576 * y), Int.add_mul_ediv_right _ _ ey]; omega

set_option maxHeartbeats 1000000 in
theorem times_any (x n y : Int) (w : World) (x0 : -2147483648 ≤ x) (x1 : x ≤ 2147483648) (n0 : -1099511627776 ≤ n) (n1 : n ≤ 1099511627776) (y0 : 1 ≤ y) (y1 : y ≤ 2147483648)
    (o0 : -1152921504606846976 * y ≤ x * n) (o1 : x * n ≤ 1152921504606846976 * y) :
    Calls Tryz.prog 80 #[.int .i64 x, .int .i64 n, .int .i64 y] w fun e w' => e = .returned (.int .i64 (x * n / y)) ∧ w = w' := by
  obtain ⟨low, high, p, q, s, m, f, e1, l0, l1, e2, h0, h1, e3, p0, p1, e4, q0, q1, e5, r0, r1, e6, m0, m1, e7, f0, f1, e8⟩ := times_math x n y x0 x1 n0 n1 y0 y1 o0 o1
  have FA := fun w => floor4_any p y w (by omega) (by omega) (by omega) (by omega)
  have FB := fun w => floor4_any ((p - s) * 1048576 + m) y w (by omega) (by omega) (by omega) (by omega)
  rw [e4] at FA
  rw [e7] at FB
  have w1 : IntKind.i64.wrap (x * high) = p := by rw [e3]; exact wrap_id (by omega) (by omega)
  have w2 : IntKind.i64.wrap (q * y) = s := by rw [e5]; exact wrap_id (by omega) (by omega)
  have w3 : IntKind.i64.wrap (x * low) = m := by rw [e6]; exact wrap_id (by omega) (by omega)
  replace FA := hidden FA
  replace FB := hidden FB
  replace e8 := hidden e8
  clear e3 e4 e5 e6 e7 o0 o1
  go_enter Tryz.func80, Tryz.ntmps80
  go_wp2_with (first | (go_at_call 58; ((with_reducible refine (FA.out _).mono ?_); rintro e w' ⟨rfl, rfl⟩)) | (go_at_call 58; ((with_reducible refine (FB.out _).mono ?_); rintro e w' ⟨rfl, rfl⟩)))
  go_ret
  exact ⟨ret_one e8.out, rfl⟩

end Go.Proofs.YtcpghihgppgpmaaGreat

namespace Go.Proofs.YtcpghihgppgpmaaGreat
open Go.RowKit

/-- the least and the greatest of the four corners, for positive divisors -/
def cLo (a b c d n : Int) : Int := min (a * n / c) (min (a * n / d) (min (b * n / c) (b * n / d)))
def cHi (a b c d n : Int) : Int := max (-(-(a * n) / c)) (max (-(-(a * n) / d)) (max (-(-(b * n) / c)) (-(-(b * n) / d))))
/-- no product with n, divided by c or more, overflows -/
def okC (a n c : Int) : Prop := -1152921504606846976 * c ≤ a * n ∧ a * n ≤ 1152921504606846976 * c
theorem okC_more {a n c d : Int} (h : okC a n c) (hcd : c ≤ d) : okC a n d := by unfold okC at *; omega
theorem okC_neg {a n c : Int} (h : okC a n c) : okC a (-n) c := by unfold okC at *; rw [Int.mul_neg]; omega

theorem ret_pair {a b c d : Int} (h1 : a = c) (h2 : b = d) : Ending.returned (.tuple #[.int .i64 a, .int .i64 b]) = Ending.returned (.tuple #[.int .i64 c, .int .i64 d]) := by rw [h1, h2]

set_option maxHeartbeats 2000000 in
theorem corners_walk (a b c d n x1 x2 x3 x4 y1 y2 y3 y4 L H : Int) (w : World) (n0 : -1099511627776 ≤ n) (n1 : n ≤ 1099511627776)
    (bx1 : -9223372036854775807 ≤ y1 ∧ y1 ≤ 9223372036854775807) (bx2 : -9223372036854775807 ≤ y2 ∧ y2 ≤ 9223372036854775807) (bx3 : -9223372036854775807 ≤ y3 ∧ y3 ≤ 9223372036854775807) (bx4 : -9223372036854775807 ≤ y4 ∧ y4 ≤ 9223372036854775807)
    (X1 : Hid (∀ w, Calls Tryz.prog 80 #[.int .i64 a, .int .i64 n, .int .i64 c] w fun e w' => e = .returned (.int .i64 x1) ∧ w = w'))
    (X2 : Hid (∀ w, Calls Tryz.prog 80 #[.int .i64 a, .int .i64 n, .int .i64 d] w fun e w' => e = .returned (.int .i64 x2) ∧ w = w'))
    (X3 : Hid (∀ w, Calls Tryz.prog 80 #[.int .i64 b, .int .i64 n, .int .i64 c] w fun e w' => e = .returned (.int .i64 x3) ∧ w = w'))
    (X4 : Hid (∀ w, Calls Tryz.prog 80 #[.int .i64 b, .int .i64 n, .int .i64 d] w fun e w' => e = .returned (.int .i64 x4) ∧ w = w'))
    (Y1 : Hid (∀ w, Calls Tryz.prog 80 #[.int .i64 a, .int .i64 (-n), .int .i64 c] w fun e w' => e = .returned (.int .i64 y1) ∧ w = w'))
    (Y2 : Hid (∀ w, Calls Tryz.prog 80 #[.int .i64 a, .int .i64 (-n), .int .i64 d] w fun e w' => e = .returned (.int .i64 y2) ∧ w = w'))
    (Y3 : Hid (∀ w, Calls Tryz.prog 80 #[.int .i64 b, .int .i64 (-n), .int .i64 c] w fun e w' => e = .returned (.int .i64 y3) ∧ w = w'))
    (Y4 : Hid (∀ w, Calls Tryz.prog 80 #[.int .i64 b, .int .i64 (-n), .int .i64 d] w fun e w' => e = .returned (.int .i64 y4) ∧ w = w'))
    (hL : min x1 (min x2 (min x3 x4)) = L) (hH : -(min y1 (min y2 (min y3 y4))) = H) :
    Calls Tryz.prog 72 #[.agg #[.int .i64 (a), .int .i64 (b)], .agg #[.int .i64 (c), .int .i64 (d)], .int .i64 n] w fun e w' => e = .returned (.tuple #[.int .i64 L, .int .i64 H]) ∧ Below w.heap.size w w' := by
  replace hL := hidden hL
  replace hH := hidden hH
  obtain ⟨u1, v1⟩ := bx1
  obtain ⟨u2, v2⟩ := bx2
  obtain ⟨u3, v3⟩ := bx3
  obtain ⟨u4, v4⟩ := bx4
  go_enter Tryz.func72, Tryz.ntmps72
  go_wp2
  go_quiet (first | (go_at_call 80; (with_reducible exact quiet_same (X1.out _))) | (go_at_call 80; (with_reducible exact quiet_same (X2.out _))) | (go_at_call 80; (with_reducible exact quiet_same (X3.out _))) | (go_at_call 80; (with_reducible exact quiet_same (X4.out _))) | (go_at_call 56; exact quiet_same (least_any _ _ _)))
  obtain ⟨w1, hw1⟩ : ∃ v, v = w := ⟨_, rfl⟩
  (refine name_world (F := Exit.then _ _ _ _) ?_; intro w' hb; (try replace hb := below_undrew hb); (try replace hb := below_undrewN hb); obtain ⟨hcell, hfroz⟩ := bcell hb; have hz := hb.size; (try simp at hz); (try (have z6 := Nat.lt_of_lt_of_le z7 hz)); (try (have z7 := Nat.lt_of_lt_of_le z8 hz)); (try (have z8 := Nat.lt_of_lt_of_le z9 hz)); (try (have z9 := Nat.lt_of_lt_of_le (Nat.lt_succ_self _) hz)); (try (have z0 : w.heap.size < w'.heap.size := by omega)); (try (have z1 : w.heap.size + 1 < w'.heap.size := by omega)); (try (have z2 : w.heap.size + 1 + 1 < w'.heap.size := by omega)); (try (have z3 : w.heap.size + 1 + 1 + 1 < w'.heap.size := by omega)); (try (have y1 : w1.heap.size < w'.heap.size := by omega)); (try (have y2 : w2.heap.size < w'.heap.size := by omega)); (try (have y3 : w3.heap.size < w'.heap.size := by omega)); (try (have y4 : w4.heap.size < w'.heap.size := by omega)); (try (have y5 : w5.heap.size < w'.heap.size := by omega)); (try (have y6 : w6.heap.size < w'.heap.size := by omega)))
  go_wp2
  go_quiet (first | (go_at_call 80; (with_reducible exact quiet_same (Y1.out _))) | (go_at_call 80; (with_reducible exact quiet_same (Y2.out _))) | (go_at_call 80; (with_reducible exact quiet_same (Y3.out _))) | (go_at_call 80; (with_reducible exact quiet_same (Y4.out _))) | (go_at_call 56; exact quiet_same (least_any _ _ _)))
  go_wp2
  go_ret2
  exact ⟨ret_pair (by have := hL.out; omega) (by have := hH.out; omega), by (repeat (first | exact Below.refl _ _ | refine bl_drewN ?_ | refine bl_drew ?_ | refine bl_alloc ?_ _ | refine Below.setCell ?_ (by (first | (simp; done) | (simp; omega) | omega)) _ | refine bl_step (by assumption) ?_))⟩

theorem ediv_bd {a y : Int} (hy : 0 < y) (h : -1152921504606846976 * y ≤ a ∧ a ≤ 1152921504606846976 * y) : -1152921504606846976 ≤ a / y ∧ a / y ≤ 1152921504606846976 := by
  constructor
  · apply (Int.le_ediv_iff_mul_le hy).2; omega
  · have : a / y < 1152921504606846976 + 1 := Int.ediv_lt_of_lt_mul hy (by omega)
    omega

theorem corners_any (a b c d n : Int) (w : World) (a0 : -2147483648 ≤ a) (a1 : a ≤ 2147483648) (b0 : -2147483648 ≤ b) (b1 : b ≤ 2147483648) (c0 : 1 ≤ c) (cd : c ≤ d) (d1 : d ≤ 2147483648)
    (n0 : -1099511627776 ≤ n) (n1 : n ≤ 1099511627776) (ha : okC a n c) (hb : okC b n c) :
    Calls Tryz.prog 72 #[.agg #[.int .i64 (a), .int .i64 (b)], .agg #[.int .i64 (c), .int .i64 (d)], .int .i64 n] w fun e w' => e = .returned (.tuple #[.int .i64 (cLo a b c d n), .int .i64 (cHi a b c d n)]) ∧ Below w.heap.size w w' := by
  have ha' := okC_more ha cd
  have hb' := okC_more hb cd
  have na := okC_neg ha
  have nb := okC_neg hb
  have na' := okC_neg ha'
  have nb' := okC_neg hb'
  have q1 := ediv_bd (show 0 < c by omega) na
  have q2 := ediv_bd (show 0 < d by omega) na'
  have q3 := ediv_bd (show 0 < c by omega) nb
  have q4 := ediv_bd (show 0 < d by omega) nb'
  refine corners_walk a b c d n _ _ _ _ _ _ _ _ _ _ w n0 n1 (by omega) (by omega) (by omega) (by omega)
    (hidden fun w => times_any a n c w a0 a1 n0 n1 c0 (by omega) ha.1 ha.2) (hidden fun w => times_any a n d w a0 a1 n0 n1 (by omega) d1 ha'.1 ha'.2)
    (hidden fun w => times_any b n c w b0 b1 n0 n1 c0 (by omega) hb.1 hb.2) (hidden fun w => times_any b n d w b0 b1 n0 n1 (by omega) d1 hb'.1 hb'.2)
    (hidden fun w => times_any a (-n) c w a0 a1 (by omega) (by omega) c0 (by omega) na.1 na.2) (hidden fun w => times_any a (-n) d w a0 a1 (by omega) (by omega) (by omega) d1 na'.1 na'.2)
    (hidden fun w => times_any b (-n) c w b0 b1 (by omega) (by omega) c0 (by omega) nb.1 nb.2) (hidden fun w => times_any b (-n) d w b0 b1 (by omega) (by omega) (by omega) d1 nb'.1 nb'.2) rfl ?_
  unfold cHi
  simp only [Int.mul_neg]
  clear q1 q2 q3 q4 ha hb ha' hb' na nb na' nb'
  generalize -(a * n) / c = z1
  generalize -(a * n) / d = z2
  generalize -(b * n) / c = z3
  generalize -(b * n) / d = z4
  omega

theorem scale4_range (a b n : Int) (w : World) (h : reachB n = false) :
    Calls Tryz.prog 53 #[.agg #[.int .i64 (a), .int .i64 (b)], .int .i64 n] w fun e w' => e = .returned (.tuple #[.int .i64 0, .int .i64 0, .int .i64 2]) ∧ Below w.heap.size w w' := by
  go_enter Tryz.func53, Tryz.ntmps53
  go_wp2_with (go_at_call 71; ((with_reducible refine (reaches_any _ _).mono ?_); rintro e w' ⟨rfl, rfl⟩))
  go_ret3
  exact ⟨rfl, by (repeat (first | exact Below.refl _ _ | refine bl_drewN ?_ | refine bl_drew ?_ | refine bl_alloc ?_ _ | refine Below.setCell ?_ (by (first | (simp; done) | (simp; omega) | omega)) _ | refine bl_step (by assumption) ?_))⟩

theorem okC_one {a n : Int} (a0 : -2147483648 ≤ a) (a1 : a ≤ 2147483648) (n0 : -1099511627776 ≤ n) (n1 : n ≤ 1099511627776) : okC a n 1073741824 := by
  have := mul_bd (X := 2147483648) (Y := 1099511627776) (x := a) (y := n) (by omega) (by omega)
  unfold okC; omega

set_option maxHeartbeats 400000 in
theorem scale4_any (a b n : Int) (w : World) (h1 : fixB a b = true) (h : reachB n = true) :
    Calls Tryz.prog 53 #[.agg #[.int .i64 (a), .int .i64 (b)], .int .i64 n] w fun e w' => e = .returned (.tuple #[.int .i64 (cLo a b 1073741824 1073741824 n), .int .i64 (cHi a b 1073741824 1073741824 n), .int .i64 0]) ∧ Below w.heap.size w w' := by
  obtain ⟨a1, a2, a3⟩ := fixB_t h1
  have C := hidden fun w => corners_any a b 1073741824 1073741824 n w (by omega) (by omega) (by omega) (by omega) (by omega) (by omega) (by omega) (reachB_t h).1 (reachB_t h).2 (okC_one (by omega) (by omega) (reachB_t h).1 (reachB_t h).2) (okC_one (by omega) (by omega) (reachB_t h).1 (reachB_t h).2)
  clear h1
  go_enter Tryz.func53, Tryz.ntmps53
  go_wp2_with (first | (go_at_call 71; ((with_reducible refine (reaches_any _ _).mono ?_); rintro e w' ⟨rfl, rfl⟩)) | (go_at_call 72; ((with_reducible refine (C.out _).mono ?_); rintro e w' ⟨rfl, hb⟩); (try replace hb := below_undrew hb); (try replace hb := below_undrewN hb); obtain ⟨hcell, hfroz⟩ := bcell hb; have hz := hb.size; (try simp at hz); (try (have z6 := Nat.lt_of_lt_of_le z7 hz)); (try (have z7 := Nat.lt_of_lt_of_le z8 hz)); (try (have z8 := Nat.lt_of_lt_of_le z9 hz)); (try (have z9 := Nat.lt_of_lt_of_le (Nat.lt_succ_self _) hz)); (try (have z0 : w.heap.size < w'.heap.size := by omega)); (try (have z1 : w.heap.size + 1 < w'.heap.size := by omega)); (try (have z2 : w.heap.size + 1 + 1 < w'.heap.size := by omega)); (try (have z3 : w.heap.size + 1 + 1 + 1 < w'.heap.size := by omega)); (try (have y1 : w1.heap.size < w'.heap.size := by omega)); (try (have y2 : w2.heap.size < w'.heap.size := by omega)); (try (have y3 : w3.heap.size < w'.heap.size := by omega)); (try (have y4 : w4.heap.size < w'.heap.size := by omega)); (try (have y5 : w5.heap.size < w'.heap.size := by omega)); (try (have y6 : w6.heap.size < w'.heap.size := by omega)); (try (have x1 : w1.heap.size + 1 < w'.heap.size := by omega)); (try (have x2 : w2.heap.size + 1 < w'.heap.size := by omega)); (try (have x3 : w3.heap.size + 1 < w'.heap.size := by omega)); (try (have x4 : w4.heap.size + 1 < w'.heap.size := by omega)); (try (have x5 : w5.heap.size + 1 < w'.heap.size := by omega)); (try (have x6 : w6.heap.size + 1 < w'.heap.size := by omega))))
  go_ret3
  exact ⟨rfl, by (repeat (first | exact Below.refl _ _ | refine bl_drewN ?_ | refine bl_drew ?_ | refine bl_alloc ?_ _ | refine Below.setCell ?_ (by (first | (simp; done) | (simp; omega) | omega)) _ | refine bl_step (by assumption) ?_))⟩

end Go.Proofs.YtcpghihgppgpmaaGreat

namespace Go.Proofs.YtcpghihgppgpmaaGreat
open Go.RowKit

def bigB (x n y : Int) : Bool := decide (2 ≤ absI x / y) && decide (4194304 < absI n / 1048576 * (absI x / y))
theorem bigB_t {x n y : Int} (h : bigB x n y = true) : 2 ≤ absI x / y ∧ 4194304 < absI n / 1048576 * (absI x / y) := by simp [bigB] at h; exact h
theorem bigB_f {x n y : Int} (h : bigB x n y = false) : absI x / y < 2 ∨ absI n / 1048576 * (absI x / y) ≤ 4194304 := by
  rcases Int.lt_or_le (absI x / y) 2 with g | g
  · exact Or.inl g
  · right
    simp [bigB, g] at h; omega
theorem bigB_mk {x n y : Int} (h1 : 2 ≤ absI x / y) (h2 : 4194304 < absI n / 1048576 * (absI x / y)) : bigB x n y = true := by simp [bigB, h1, h2]
theorem bigB_no1 {x n y : Int} (h1 : ¬ 2 ≤ absI x / y) : bigB x n y = false := by simp [bigB, h1]
theorem bigB_no2 {x n y : Int} (h2 : ¬ 4194304 < absI n / 1048576 * (absI x / y)) : bigB x n y = false := by simp [bigB, h2]
theorem absI_neg {x : Int} (h : x < 0) : absI x = -x := by unfold absI; rw [if_pos h]
theorem absI_pos {x : Int} (h : ¬ x < 0) : absI x = x := by unfold absI; rw [if_neg h]

theorem absI_mul (x n : Int) : absI (x * n) = absI x * absI n := by
  have e := Int.natAbs_mul x n
  have a : ∀ z : Int, absI z = (z.natAbs : Int) := fun z => by unfold absI; split <;> omega
  rw [a, a, a, e]; simp

theorem okC_of {x n y : Int} (x0 : -2147483648 ≤ x) (x1 : x ≤ 2147483648) (n0 : -1099511627776 ≤ n) (n1 : n ≤ 1099511627776) (y0 : 1 ≤ y) (h : bigB x n y = false) : okC x n y := by
  have X0 := absI_nn x
  have X1 : absI x ≤ 2147483648 := by unfold absI; split <;> omega
  have N1 : absI n ≤ 1099511627776 := by unfold absI; split <;> omega
  have N0 := absI_nn n
  have e := absI_mul x n
  have hx := Int.mul_ediv_add_emod (absI x) y
  have r0 := Int.emod_nonneg (absI x) (show y ≠ 0 by omega)
  have r1 := Int.emod_lt_of_pos (absI x) (show 0 < y by omega)
  have q0 : 0 ≤ absI x / y := Int.ediv_nonneg X0 (by omega)
  have q1 : absI x / y ≤ absI x := Int.ediv_le_self y X0
  have key : absI x * absI n ≤ 1152921504606846976 * y := by
    rcases bigB_f h with g | g
    · have : absI x ≤ 2 * y := by
        have : y * (absI x / y) ≤ y * 1 := Int.mul_le_mul_of_nonneg_left (by omega) (by omega)
        omega
      have := Int.mul_le_mul this N1 N0 (by omega)
      omega
    · generalize hf : absI x / y = f at *
      have hm : absI n ≤ (absI n / 1048576 + 1) * 1048576 := by omega
      have m0 : 0 ≤ absI n / 1048576 := by omega
      have m1 : absI n / 1048576 ≤ 1048576 := by omega
      generalize absI n / 1048576 = m at *
      have hx2 : absI x ≤ (f + 1) * y := by rw [Int.add_mul, Int.mul_comm f y]; omega
      have h1 := Int.mul_le_mul hx2 hm N0 (by have := Int.mul_nonneg (show 0 ≤ f + 1 by omega) (show 0 ≤ y by omega); omega)
      have e2 : (f + 1) * y * ((m + 1) * 1048576) = (m * f + m + f + 1) * 1048576 * y := by grind
      have h3 : (m * f + m + f + 1) * 1048576 * y ≤ 1152921504606846976 * y := Int.mul_le_mul_of_nonneg_right (by omega) (by omega)
      omega
  unfold okC
  rw [← e] at key
  unfold absI at key
  split at key <;> omega

theorem far_of {x n y : Int} (y0 : 1 ≤ y) (h : bigB x n y = true) : x * n / y < -1099511627776 ∨ 1099511627776 < -(-(x * n) / y) := by
  obtain ⟨h1, h2⟩ := bigB_t h
  have X0 := absI_nn x
  have N0 := absI_nn n
  have e := absI_mul x n
  have hx := Int.mul_ediv_add_emod (absI x) y
  have r0 := Int.emod_nonneg (absI x) (show y ≠ 0 by omega)
  generalize absI x / y = f at *
  have hm : absI n / 1048576 * 1048576 ≤ absI n := by omega
  have m0 : 0 ≤ absI n / 1048576 := by omega
  generalize absI n / 1048576 = m at *
  have hx2 : f * y ≤ absI x := by rw [Int.mul_comm]; omega
  have k1 := Int.mul_le_mul hx2 hm (by omega) X0
  have e2 : f * y * (m * 1048576) = m * f * 1048576 * y := by grind
  have k3 : 4194304 * 1048576 * y ≤ m * f * 1048576 * y := Int.mul_le_mul_of_nonneg_right (by omega) (by omega)
  have k4 : 4398046511104 * y ≤ absI (x * n) := by rw [e]; omega
  unfold absI at k4
  split at k4
  · left
    have : x * n / y < -1099511627776 := Int.ediv_lt_of_lt_mul (by omega) (by omega)
    exact this
  · right
    have : -(x * n) / y < -1099511627776 := Int.ediv_lt_of_lt_mul (by omega) (by omega)
    omega

theorem far_reach {a b c d n : Int} (c0 : 1 ≤ c) (h : bigB a n c = true ∨ bigB b n c = true) : (reachB (cLo a b c d n) && reachB (cHi a b c d n)) = false := by
  have k : cLo a b c d n < -1099511627776 ∨ 1099511627776 < cHi a b c d n := by
    rcases h with h | h <;> rcases far_of c0 h with g | g
    · left; unfold cLo; omega
    · right; unfold cHi; omega
    · left; unfold cLo; omega
    · right; unfold cHi; omega
  rcases k with k | k
  · rw [reachB_not (n := cLo a b c d n) (by omega)]; rfl
  · rw [reachB_not (n := cHi a b c d n) (by omega), Bool.and_false]

/-- the ends of a quotient times a number, if they reach -/
def quoV (L H : Int) : Value := if (reachB L && reachB H) = true then .tuple #[.int .i64 L, .int .i64 H, .int .i64 0] else .tuple #[.int .i64 0, .int .i64 0, .int .i64 5]
theorem quoV_ok {L H : Int} (h1 : reachB L = true) (h2 : reachB H = true) : quoV L H = .tuple #[.int .i64 L, .int .i64 H, .int .i64 0] := by unfold quoV; rw [h1, h2]; rfl
theorem quoV_no {L H : Int} (h : (reachB L && reachB H) = false) : quoV L H = .tuple #[.int .i64 0, .int .i64 0, .int .i64 5] := by unfold quoV; rw [h]; rfl

/-- the least and the greatest of the four quotients of the ends, times a number -/
def qLo (a b c d n : Int) : Int := min (fl (a * n) c) (min (fl (a * n) d) (min (fl (b * n) c) (fl (b * n) d)))
def qHi (a b c d n : Int) : Int := max (ce (a * n) c) (max (ce (a * n) d) (max (ce (b * n) c) (ce (b * n) d)))

theorem q_pos (a b c d n : Int) (hcd : c ≤ d) (hc : 0 < c) : qLo a b c d n = cLo a b c d n ∧ qHi a b c d n = cHi a b c d n := by
  have hd : 0 < d := by omega
  constructor
  · simp only [qLo, cLo, fl_pos' hc, fl_pos' hd]
  · simp only [qHi, cHi, ce, fl_pos' hc, fl_pos' hd]
theorem q_neg (a b c d n : Int) (hcd : c ≤ d) (hd : d < 0) : qLo a b c d n = cLo (-b) (-a) (-d) (-c) n ∧ qHi a b c d n = cHi (-b) (-a) (-d) (-c) n := by
  have hc : c < 0 := by omega
  unfold qLo qHi cLo cHi ce
  simp only [fl_neg' hc, fl_neg' hd, Int.neg_neg, Int.neg_mul]
  constructor
  · generalize -(a * n) / -c = x1
    generalize -(a * n) / -d = x2
    generalize -(b * n) / -c = x3
    generalize -(b * n) / -d = x4
    omega
  · generalize a * n / -c = x1
    generalize a * n / -d = x2
    generalize b * n / -c = x3
    generalize b * n / -d = x4
    omega

end Go.Proofs.YtcpghihgppgpmaaGreat
