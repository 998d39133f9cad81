/- The reference of layer 4: sums, products, squares, hulls and meets, each as a contract. -/
import Derived.Test.YtbglnncejfhlmaaFixA
import Derived.Test.YtbglnncejfhlmaaRoot
namespace Go.Proofs.Ytbglnncejfhlmaa
open Go.RowKit

theorem fit4_any (a b : Int) (w : World) (hab : a ≤ b) :
    Calls Try.prog 51 #[.int .i64 a, .int .i64 b] w fun e w' => e = .returned (fitF a b) ∧ Below w.heap.size w w' := by
  by_cases h1 : -2147483648 ≤ a
  · by_cases h2 : b ≤ 2147483648
    · rw [fitF_ok (fixB_mk ⟨h1, hab, h2⟩)]
      go_enter Try.func51, Try.ntmps51
      go_wp2
      exact bodyPost_ret (v := .tuple #[.agg #[.int .i64 (a), .int .i64 (b)], .int .i64 (0)]) (by first | (simp only [results, Try.results51]; go_simp; done) | simp [results, Try.results51, go_sem, *]) rfl ⟨rfl, by (repeat (first | exact Below.refl _ _ | refine bl_drewN ?_ | refine bl_drew ?_ | refine bl_alloc ?_ _ | refine Below.setCell ?_ (by (first | (simp; done) | (simp; omega) | omega)) _ | refine bl_step (by assumption) ?_))⟩
    · rw [fitF_no (fixB_not (by omega))]
      go_enter Try.func51, Try.ntmps51
      go_wp2
      exact bodyPost_ret (v := .tuple #[.agg #[.int .i64 (0), .int .i64 (0)], .int .i64 (5)]) (by first | (simp only [results, Try.results51]; go_simp; done) | simp [results, Try.results51, go_sem, *]) rfl ⟨rfl, by (repeat (first | exact Below.refl _ _ | refine bl_drewN ?_ | refine bl_drew ?_ | refine bl_alloc ?_ _ | refine Below.setCell ?_ (by (first | (simp; done) | (simp; omega) | omega)) _ | refine bl_step (by assumption) ?_))⟩
  · rw [fitF_no (fixB_not (by omega))]
    go_enter Try.func51, Try.ntmps51
    go_wp2
    exact bodyPost_ret (v := .tuple #[.agg #[.int .i64 (0), .int .i64 (0)], .int .i64 (5)]) (by first | (simp only [results, Try.results51]; go_simp; done) | simp [results, Try.results51, go_sem, *]) rfl ⟨rfl, by (repeat (first | exact Below.refl _ _ | refine bl_drewN ?_ | refine bl_drew ?_ | refine bl_alloc ?_ _ | refine Below.setCell ?_ (by (first | (simp; done) | (simp; omega) | omega)) _ | refine bl_step (by assumption) ?_))⟩

theorem neg4_any (a b : Int) (w : World) (h : fixB a b = true) :
    Calls Try.prog 32 #[.agg #[.int .i64 (a), .int .i64 (b)]] w fun e w' => e = .returned (.agg #[.int .i64 (-b), .int .i64 (-a)]) ∧ Below w.heap.size w w' := by
  obtain ⟨a1, a2, a3⟩ := fixB_t h
  clear h
  go_enter Try.func32, Try.ntmps32
  go_wp2
  exact bodyPost_ret (v := .agg #[.int .i64 (-b), .int .i64 (-a)]) (by first | (simp only [results, Try.results32]; go_simp; done) | simp [results, Try.results32, go_sem, *]) rfl ⟨rfl, by (repeat (first | exact Below.refl _ _ | refine bl_drewN ?_ | refine bl_drew ?_ | refine bl_alloc ?_ _ | refine Below.setCell ?_ (by (first | (simp; done) | (simp; omega) | omega)) _ | refine bl_step (by assumption) ?_))⟩

theorem add4_any (a b c d : Int) (w : World) (h1 : fixB a b = true) (h2 : fixB c d = true) :
    Calls Try.prog 33 #[.agg #[.int .i64 (a), .int .i64 (b)], .agg #[.int .i64 (c), .int .i64 (d)]] w fun e w' => e = .returned (fitF (a + c) (b + d)) ∧ Below w.heap.size w w' := by
  obtain ⟨a1, a2, a3⟩ := fixB_t h1
  obtain ⟨c1, c2, c3⟩ := fixB_t h2
  clear h1 h2
  have FI := fun w => fit4_any (a + c) (b + d) w (by omega)
  obtain ⟨p, q, k, e⟩ := fitF_form (a + c) (b + d)
  rw [e] at FI ⊢
  replace FI := hidden FI
  clear e
  go_enter Try.func33, Try.ntmps33
  go_wp2_with (go_at_call 51; refine (FI.out _).mono ?_; rintro e w' ⟨rfl, hb⟩; (try replace hb := below_undrew hb); (try replace hb := below_undrewN hb); obtain ⟨hcell, hfroz⟩ := bcell hb; have hz := hb.size; (try simp at hz); (try (have z6 := Nat.lt_of_lt_of_le z7 hz)); (try (have z7 := Nat.lt_of_lt_of_le z8 hz)); (try (have z8 := Nat.lt_of_lt_of_le z9 hz)); (try (have z9 := Nat.lt_of_lt_of_le (Nat.lt_succ_self _) hz)); (try (have z0 : w.heap.size < w'.heap.size := by omega)); (try (have z1 : w.heap.size + 1 < w'.heap.size := by omega)); (try (have z2 : w.heap.size + 1 + 1 < w'.heap.size := by omega)); (try (have z3 : w.heap.size + 1 + 1 + 1 < w'.heap.size := by omega)); (try (have y1 : w1.heap.size < w'.heap.size := by omega)); (try (have y2 : w2.heap.size < w'.heap.size := by omega)); (try (have y3 : w3.heap.size < w'.heap.size := by omega)); (try (have y4 : w4.heap.size < w'.heap.size := by omega)); (try (have y5 : w5.heap.size < w'.heap.size := by omega)); (try (have y6 : w6.heap.size < w'.heap.size := by omega)))
  exact bodyPost_ret (v := .tuple #[.agg #[.int .i64 (p), .int .i64 (q)], .int .i64 (k)]) (by first | (simp only [results, Try.results33]; go_simp; done) | simp [results, Try.results33, go_sem, *]) rfl ⟨rfl, by (repeat (first | exact Below.refl _ _ | refine bl_drewN ?_ | refine bl_drew ?_ | refine bl_alloc ?_ _ | refine Below.setCell ?_ (by (first | (simp; done) | (simp; omega) | omega)) _ | refine bl_step (by assumption) ?_))⟩

theorem sub4_any (a b c d : Int) (w : World) (h1 : fixB a b = true) (h2 : fixB c d = true) :
    Calls Try.prog 34 #[.agg #[.int .i64 (a), .int .i64 (b)], .agg #[.int .i64 (c), .int .i64 (d)]] w fun e w' => e = .returned (fitF (a - d) (b - c)) ∧ Below w.heap.size w w' := by
  obtain ⟨a1, a2, a3⟩ := fixB_t h1
  obtain ⟨c1, c2, c3⟩ := fixB_t h2
  clear h1 h2
  have FI := fun w => fit4_any (a - d) (b - c) w (by omega)
  obtain ⟨p, q, k, e⟩ := fitF_form (a - d) (b - c)
  rw [e] at FI ⊢
  replace FI := hidden FI
  clear e
  go_enter Try.func34, Try.ntmps34
  go_wp2_with (go_at_call 51; refine (FI.out _).mono ?_; rintro e w' ⟨rfl, hb⟩; (try replace hb := below_undrew hb); (try replace hb := below_undrewN hb); obtain ⟨hcell, hfroz⟩ := bcell hb; have hz := hb.size; (try simp at hz); (try (have z6 := Nat.lt_of_lt_of_le z7 hz)); (try (have z7 := Nat.lt_of_lt_of_le z8 hz)); (try (have z8 := Nat.lt_of_lt_of_le z9 hz)); (try (have z9 := Nat.lt_of_lt_of_le (Nat.lt_succ_self _) hz)); (try (have z0 : w.heap.size < w'.heap.size := by omega)); (try (have z1 : w.heap.size + 1 < w'.heap.size := by omega)); (try (have z2 : w.heap.size + 1 + 1 < w'.heap.size := by omega)); (try (have z3 : w.heap.size + 1 + 1 + 1 < w'.heap.size := by omega)); (try (have y1 : w1.heap.size < w'.heap.size := by omega)); (try (have y2 : w2.heap.size < w'.heap.size := by omega)); (try (have y3 : w3.heap.size < w'.heap.size := by omega)); (try (have y4 : w4.heap.size < w'.heap.size := by omega)); (try (have y5 : w5.heap.size < w'.heap.size := by omega)); (try (have y6 : w6.heap.size < w'.heap.size := by omega)))
  exact bodyPost_ret (v := .tuple #[.agg #[.int .i64 (p), .int .i64 (q)], .int .i64 (k)]) (by first | (simp only [results, Try.results34]; go_simp; done) | simp [results, Try.results34, go_sem, *]) rfl ⟨rfl, by (repeat (first | exact Below.refl _ _ | refine bl_drewN ?_ | refine bl_drew ?_ | refine bl_alloc ?_ _ | refine Below.setCell ?_ (by (first | (simp; done) | (simp; omega) | omega)) _ | refine bl_step (by assumption) ?_))⟩

theorem fl_le_ce (n m d : Int) (hd : 0 < d) (h : n ≤ m) : n / d ≤ -(-m / d) := by
  have a := Int.ediv_le_ediv hd h
  have : m / d ≤ -(-m / d) := by
    rcases Int.lt_or_le (-(-m / d)) (m / d) with g | g
    · have b1 := Int.mul_ediv_add_emod m d
      have b2 := Int.mul_ediv_add_emod (-m) d
      have b3 := Int.emod_nonneg m (show d ≠ 0 by omega)
      have b4 := Int.emod_nonneg (-m) (show d ≠ 0 by omega)
      have b5 : d * (m / d) + d * (-m / d) ≤ 0 := by omega
      have b6 : d * (m / d + -m / d) ≤ 0 := by rw [Int.mul_add]; exact b5
      have b7 : 0 < m / d + -m / d := by omega
      have := Int.mul_pos hd b7
      omega
    · exact g
  omega
theorem fl_30 (n : Int) : fl n 1073741824 = n / 1073741824 := by unfold fl; rw [if_pos (by omega)]
theorem ce_30 (n : Int) : ce n 1073741824 = -(-n / 1073741824) := by unfold ce; rw [fl_30]

set_option maxHeartbeats 1000000 in
theorem mul4_any (a b c d : Int) (w : World) (h1 : fixB a b = true) (h2 : fixB c d = true) :
    Calls Try.prog 18 #[.agg #[.int .i64 (a), .int .i64 (b)], .agg #[.int .i64 (c), .int .i64 (d)]] w fun e w' => e = .returned (fitF (fl (min (a * c) (min (a * d) (min (b * c) (b * d)))) 1073741824) (ce (max (a * c) (max (a * d) (max (b * c) (b * d)))) 1073741824)) ∧ Below w.heap.size w w' := by
  obtain ⟨a1, a2, a3⟩ := fixB_t h1
  obtain ⟨c1, c2, c3⟩ := fixB_t h2
  clear h1 h2
  obtain ⟨p1, p2⟩ := prod_bd a c (by omega) (by omega) (by omega) (by omega)
  obtain ⟨p3, p4⟩ := prod_bd a d (by omega) (by omega) (by omega) (by omega)
  obtain ⟨p5, p6⟩ := prod_bd b c (by omega) (by omega) (by omega) (by omega)
  obtain ⟨p7, p8⟩ := prod_bd b d (by omega) (by omega) (by omega) (by omega)
  have r1 : IntKind.i64.wrap (a * c) = a * c := wrap_id (by omega) (by omega)
  have r2 : IntKind.i64.wrap (a * d) = a * d := wrap_id (by omega) (by omega)
  have r3 : IntKind.i64.wrap (b * c) = b * c := wrap_id (by omega) (by omega)
  have r4 : IntKind.i64.wrap (b * d) = b * d := wrap_id (by omega) (by omega)
  have mm : min (a * c) (min (a * d) (min (b * c) (b * d))) ≤ max (a * c) (max (a * d) (max (b * c) (b * d))) := by omega
  rw [fl_30, ce_30]
  have FI := fun w => fit4_any (min (a * c) (min (a * d) (min (b * c) (b * d))) / 1073741824) (-(-max (a * c) (max (a * d) (max (b * c) (b * d))) / 1073741824)) w (fl_le_ce _ _ _ (by omega) mm)
  have FA := fun w => floor4_any (min (a * c) (min (a * d) (min (b * c) (b * d)))) 1073741824 w (by omega) (by omega) (by omega) (by omega)
  have FB := fun w => ceil4_any (max (a * c) (max (a * d) (max (b * c) (b * d)))) 1073741824 w (by omega) (by omega) (by omega) (by omega)
  clear mm
  obtain ⟨p, q, k, e⟩ := fitF_form (min (a * c) (min (a * d) (min (b * c) (b * d))) / 1073741824) (-(-max (a * c) (max (a * d) (max (b * c) (b * d))) / 1073741824))
  rw [e] at FI ⊢
  clear e
  generalize min (a * c) (min (a * d) (min (b * c) (b * d))) / 1073741824 = X at *
  generalize -(-max (a * c) (max (a * d) (max (b * c) (b * d))) / 1073741824) = Y at *
  replace FI := hidden FI
  replace FA := hidden FA
  replace FB := hidden FB
  clear p1 p2 p3 p4 p5 p6 p7 p8
  go_enter Try.func18, Try.ntmps18
  go_wp2
  go_quiet (fail)
  go_wp2_with (first | (go_at_call 50; refine (least_any _ _ _).mono ?_; rintro e w' ⟨rfl, rfl⟩) | (go_at_call 54; refine (most_any _ _ _).mono ?_; rintro e w' ⟨rfl, rfl⟩) | (go_at_call 51; refine (FI.out _).mono ?_; rintro e w' ⟨rfl, hb⟩; (try replace hb := below_undrew hb); (try replace hb := below_undrewN hb); obtain ⟨hcell, hfroz⟩ := bcell hb; have hz := hb.size; (try simp at hz); (try (have z6 := Nat.lt_of_lt_of_le z7 hz)); (try (have z7 := Nat.lt_of_lt_of_le z8 hz)); (try (have z8 := Nat.lt_of_lt_of_le z9 hz)); (try (have z9 := Nat.lt_of_lt_of_le (Nat.lt_succ_self _) hz)); (try (have z0 : w.heap.size < w'.heap.size := by omega)); (try (have z1 : w.heap.size + 1 < w'.heap.size := by omega)); (try (have z2 : w.heap.size + 1 + 1 < w'.heap.size := by omega)); (try (have z3 : w.heap.size + 1 + 1 + 1 < w'.heap.size := by omega)); (try (have y1 : w1.heap.size < w'.heap.size := by omega)); (try (have y2 : w2.heap.size < w'.heap.size := by omega)); (try (have y3 : w3.heap.size < w'.heap.size := by omega)); (try (have y4 : w4.heap.size < w'.heap.size := by omega)); (try (have y5 : w5.heap.size < w'.heap.size := by omega)); (try (have y6 : w6.heap.size < w'.heap.size := by omega))) | (go_at_call 52; refine (FA.out _).mono ?_; rintro e w' ⟨rfl, rfl⟩) | (go_at_call 53; refine (FB.out _).mono ?_; rintro e w' ⟨rfl, rfl⟩))
  exact bodyPost_ret (v := .tuple #[.agg #[.int .i64 (p), .int .i64 (q)], .int .i64 (k)]) (by first | (simp only [results, Try.results18]; go_simp; done) | simp [results, Try.results18, go_sem, *]) rfl ⟨rfl, by (repeat (first | exact Below.refl _ _ | refine bl_drewN ?_ | refine bl_drew ?_ | refine bl_alloc ?_ _ | refine Below.setCell ?_ (by (first | (simp; done) | (simp; omega) | omega)) _ | refine bl_step (by assumption) ?_))⟩

set_option maxHeartbeats 1000000 in
theorem square4_walk (a b m X Y : Int) (w : World) (h : fixB a b = true) (hm : m = sqLo a b) (hX : m / 1073741824 = X) (hY : -(-max (a * a) (b * b) / 1073741824) = Y) (r : Value)
    (FI : ∀ w, Calls Try.prog 51 #[.int .i64 X, .int .i64 Y] w fun e w' => e = .returned r ∧ Below w.heap.size w w') (hr : ∃ p q k : Int, r = .tuple #[.agg #[.int .i64 (p), .int .i64 (q)], .int .i64 (k)]) :
    Calls Try.prog 17 #[.agg #[.int .i64 (a), .int .i64 (b)]] w fun e w' => e = .returned r ∧ Below w.heap.size w w' := by
  obtain ⟨p, q, k, rfl⟩ := hr
  obtain ⟨a1, a2, a3⟩ := fixB_t h
  clear h
  obtain ⟨p1, p2⟩ := prod_bd a a (by omega) (by omega) (by omega) (by omega)
  obtain ⟨p3, p4⟩ := prod_bd b b (by omega) (by omega) (by omega) (by omega)
  have r1 : IntKind.i64.wrap (a * a) = a * a := wrap_id (by omega) (by omega)
  have r2 : IntKind.i64.wrap (b * b) = b * b := wrap_id (by omega) (by omega)
  have m0 : -4611686018427387904 ≤ m ∧ m ≤ 4611686018427387904 := by rw [hm]; unfold sqLo; split <;> omega
  have FA := fun w => floor4_any m 1073741824 w m0.1 m0.2 (by omega) (by omega)
  have FB := fun w => ceil4_any (max (a * a) (b * b)) 1073741824 w (by omega) (by omega) (by omega) (by omega)
  rw [hX] at FA
  rw [hY] at FB
  replace FA := hidden FA
  replace FB := hidden FB
  replace FI := hidden FI
  clear p1 p2 p3 p4 hX hY m0
  by_cases h1 : a ≤ 0
  · by_cases h2 : 0 ≤ b
    · have e : m = 0 := by rw [hm]; simp [sqLo, zeroB_mk ⟨h1, h2⟩]
      subst e
      clear hm
      go_enter Try.func17, Try.ntmps17
      go_wp2
      go_quiet (fail)
      go_wp2_with (first | (go_at_call 50; refine (least_any _ _ _).mono ?_; rintro e w' ⟨rfl, rfl⟩) | (go_at_call 54; refine (most_any _ _ _).mono ?_; rintro e w' ⟨rfl, rfl⟩) | (go_at_call 52; refine (FA.out _).mono ?_; rintro e w' ⟨rfl, rfl⟩) | (go_at_call 53; refine (FB.out _).mono ?_; rintro e w' ⟨rfl, rfl⟩) | (go_at_call 51; refine (FI.out _).mono ?_; rintro e w' ⟨rfl, hb⟩; (try replace hb := below_undrew hb); (try replace hb := below_undrewN hb); obtain ⟨hcell, hfroz⟩ := bcell hb; have hz := hb.size; (try simp at hz); (try (have z6 := Nat.lt_of_lt_of_le z7 hz)); (try (have z7 := Nat.lt_of_lt_of_le z8 hz)); (try (have z8 := Nat.lt_of_lt_of_le z9 hz)); (try (have z9 := Nat.lt_of_lt_of_le (Nat.lt_succ_self _) hz)); (try (have z0 : w.heap.size < w'.heap.size := by omega)); (try (have z1 : w.heap.size + 1 < w'.heap.size := by omega)); (try (have z2 : w.heap.size + 1 + 1 < w'.heap.size := by omega)); (try (have z3 : w.heap.size + 1 + 1 + 1 < w'.heap.size := by omega)); (try (have y1 : w1.heap.size < w'.heap.size := by omega)); (try (have y2 : w2.heap.size < w'.heap.size := by omega)); (try (have y3 : w3.heap.size < w'.heap.size := by omega)); (try (have y4 : w4.heap.size < w'.heap.size := by omega)); (try (have y5 : w5.heap.size < w'.heap.size := by omega)); (try (have y6 : w6.heap.size < w'.heap.size := by omega))))
      exact bodyPost_ret (v := .tuple #[.agg #[.int .i64 (p), .int .i64 (q)], .int .i64 (k)]) (by first | (simp only [results, Try.results17]; go_simp; done) | simp [results, Try.results17, go_sem, *]) rfl ⟨rfl, by (repeat (first | exact Below.refl _ _ | refine bl_drewN ?_ | refine bl_drew ?_ | refine bl_alloc ?_ _ | refine Below.setCell ?_ (by (first | (simp; done) | (simp; omega) | omega)) _ | refine bl_step (by assumption) ?_))⟩
    · have e : m = min (a * a) (b * b) := by rw [hm]; simp [sqLo, zeroB_not (lo := a) (hi := b) (by omega)]
      subst e
      clear hm
      go_enter Try.func17, Try.ntmps17
      go_wp2
      go_quiet (fail)
      go_wp2_with (first | (go_at_call 50; refine (least_any _ _ _).mono ?_; rintro e w' ⟨rfl, rfl⟩) | (go_at_call 54; refine (most_any _ _ _).mono ?_; rintro e w' ⟨rfl, rfl⟩) | (go_at_call 52; refine (FA.out _).mono ?_; rintro e w' ⟨rfl, rfl⟩) | (go_at_call 53; refine (FB.out _).mono ?_; rintro e w' ⟨rfl, rfl⟩) | (go_at_call 51; refine (FI.out _).mono ?_; rintro e w' ⟨rfl, hb⟩; (try replace hb := below_undrew hb); (try replace hb := below_undrewN hb); obtain ⟨hcell, hfroz⟩ := bcell hb; have hz := hb.size; (try simp at hz); (try (have z6 := Nat.lt_of_lt_of_le z7 hz)); (try (have z7 := Nat.lt_of_lt_of_le z8 hz)); (try (have z8 := Nat.lt_of_lt_of_le z9 hz)); (try (have z9 := Nat.lt_of_lt_of_le (Nat.lt_succ_self _) hz)); (try (have z0 : w.heap.size < w'.heap.size := by omega)); (try (have z1 : w.heap.size + 1 < w'.heap.size := by omega)); (try (have z2 : w.heap.size + 1 + 1 < w'.heap.size := by omega)); (try (have z3 : w.heap.size + 1 + 1 + 1 < w'.heap.size := by omega)); (try (have y1 : w1.heap.size < w'.heap.size := by omega)); (try (have y2 : w2.heap.size < w'.heap.size := by omega)); (try (have y3 : w3.heap.size < w'.heap.size := by omega)); (try (have y4 : w4.heap.size < w'.heap.size := by omega)); (try (have y5 : w5.heap.size < w'.heap.size := by omega)); (try (have y6 : w6.heap.size < w'.heap.size := by omega))))
      exact bodyPost_ret (v := .tuple #[.agg #[.int .i64 (p), .int .i64 (q)], .int .i64 (k)]) (by first | (simp only [results, Try.results17]; go_simp; done) | simp [results, Try.results17, go_sem, *]) rfl ⟨rfl, by (repeat (first | exact Below.refl _ _ | refine bl_drewN ?_ | refine bl_drew ?_ | refine bl_alloc ?_ _ | refine Below.setCell ?_ (by (first | (simp; done) | (simp; omega) | omega)) _ | refine bl_step (by assumption) ?_))⟩
  · have e : m = min (a * a) (b * b) := by rw [hm]; simp [sqLo, zeroB_not (lo := a) (hi := b) (by omega)]
    subst e
    clear hm
    go_enter Try.func17, Try.ntmps17
    go_wp2
    go_quiet (fail)
    go_wp2_with (first | (go_at_call 50; refine (least_any _ _ _).mono ?_; rintro e w' ⟨rfl, rfl⟩) | (go_at_call 54; refine (most_any _ _ _).mono ?_; rintro e w' ⟨rfl, rfl⟩) | (go_at_call 52; refine (FA.out _).mono ?_; rintro e w' ⟨rfl, rfl⟩) | (go_at_call 53; refine (FB.out _).mono ?_; rintro e w' ⟨rfl, rfl⟩) | (go_at_call 51; refine (FI.out _).mono ?_; rintro e w' ⟨rfl, hb⟩; (try replace hb := below_undrew hb); (try replace hb := below_undrewN hb); obtain ⟨hcell, hfroz⟩ := bcell hb; have hz := hb.size; (try simp at hz); (try (have z6 := Nat.lt_of_lt_of_le z7 hz)); (try (have z7 := Nat.lt_of_lt_of_le z8 hz)); (try (have z8 := Nat.lt_of_lt_of_le z9 hz)); (try (have z9 := Nat.lt_of_lt_of_le (Nat.lt_succ_self _) hz)); (try (have z0 : w.heap.size < w'.heap.size := by omega)); (try (have z1 : w.heap.size + 1 < w'.heap.size := by omega)); (try (have z2 : w.heap.size + 1 + 1 < w'.heap.size := by omega)); (try (have z3 : w.heap.size + 1 + 1 + 1 < w'.heap.size := by omega)); (try (have y1 : w1.heap.size < w'.heap.size := by omega)); (try (have y2 : w2.heap.size < w'.heap.size := by omega)); (try (have y3 : w3.heap.size < w'.heap.size := by omega)); (try (have y4 : w4.heap.size < w'.heap.size := by omega)); (try (have y5 : w5.heap.size < w'.heap.size := by omega)); (try (have y6 : w6.heap.size < w'.heap.size := by omega))))
    exact bodyPost_ret (v := .tuple #[.agg #[.int .i64 (p), .int .i64 (q)], .int .i64 (k)]) (by first | (simp only [results, Try.results17]; go_simp; done) | simp [results, Try.results17, go_sem, *]) rfl ⟨rfl, by (repeat (first | exact Below.refl _ _ | refine bl_drewN ?_ | refine bl_drew ?_ | refine bl_alloc ?_ _ | refine Below.setCell ?_ (by (first | (simp; done) | (simp; omega) | omega)) _ | refine bl_step (by assumption) ?_))⟩

theorem sqLo_le (a b : Int) : sqLo a b ≤ max (a * a) (b * b) := by
  have h1 : 0 ≤ a * a := by
    rcases Int.le_total 0 a with h | h
    · exact Int.mul_nonneg h h
    · exact Int.mul_nonneg_of_nonpos_of_nonpos h h
  unfold sqLo; split <;> omega

theorem square4_any (a b : Int) (w : World) (h : fixB a b = true) :
    Calls Try.prog 17 #[.agg #[.int .i64 (a), .int .i64 (b)]] w fun e w' => e = .returned (fitF (fl (sqLo a b) 1073741824) (ce (max (a * a) (b * b)) 1073741824)) ∧ Below w.heap.size w w' :=
  square4_walk a b _ _ _ w h rfl (fl_30 _).symm (ce_30 _).symm _ (fun w => fit4_any _ _ w (by rw [fl_30, ce_30]; exact fl_le_ce _ _ _ (by omega) (sqLo_le a b))) (fitF_form _ _)

theorem hull4_any (a b c d : Int) (w : World) :
    Calls Try.prog 28 #[.agg #[.int .i64 (a), .int .i64 (b)], .agg #[.int .i64 (c), .int .i64 (d)]] w fun e w' => e = .returned (.agg #[.int .i64 (min a c), .int .i64 (max b d)]) ∧ Below w.heap.size w w' := by
  go_enter Try.func28, Try.ntmps28
  go_wp2
  refine still_tail 10 (by kernel_rfl) (by kernel_rfl) ?_
  simp only [List.take_succ_cons, List.take_zero, List.drop_succ_cons, List.drop_zero]
  repeat still_step
  still_call (same_rev (least_any _ _ _))
  repeat still_step
  still_call (same_rev (most_any _ _ _))
  repeat still_step
  refine wpStill_nil ?_
  go_wp2
  exact bodyPost_ret (v := .agg #[.int .i64 (min a c), .int .i64 (max b d)]) (by first | (simp only [results, Try.results28]; go_simp; done) | simp [results, Try.results28, go_sem, *]) rfl ⟨rfl, by (repeat (first | exact Below.refl _ _ | refine bl_drewN ?_ | refine bl_drew ?_ | refine bl_alloc ?_ _ | refine Below.setCell ?_ (by (first | (simp; done) | (simp; omega) | omega)) _ | refine bl_step (by assumption) ?_))⟩

end Go.Proofs.Ytbglnncejfhlmaa
