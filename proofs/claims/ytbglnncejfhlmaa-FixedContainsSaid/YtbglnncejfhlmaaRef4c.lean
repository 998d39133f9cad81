/- The reference of layer 4: quotients of intervals and their roots, each as a contract. -/
import Derived.Test.YtbglnncejfhlmaaRef4b
import Derived.Test.YtbglnncejfhlmaaFixB
namespace Go.Proofs.Ytbglnncejfhlmaa
open Go.RowKit

set_option maxHeartbeats 1000000 in
theorem turned_neg (a b c d : Int) (w : World) (h1 : fixB a b = true) (h2 : fixB c d = true) (hc : c < 0) :
    Calls Try.prog 56 #[.agg #[.int .i64 (a), .int .i64 (b)], .agg #[.int .i64 (c), .int .i64 (d)]] w fun e w' => e = .returned (.tuple #[.agg #[.int .i64 (-b), .int .i64 (-a)], .agg #[.int .i64 (-d), .int .i64 (-c)]]) ∧ Below w.heap.size w w' := by
  go_enter Try.func56, Try.ntmps56
  go_wp2
  go_region_with (go_at_call 32; ((with_reducible refine (neg4_any _ _ _ (by assumption)).mono ?_); rintro e w' ⟨rfl, hb⟩); (try replace hb := below_undrew hb); (try replace hb := below_undrewN hb); obtain ⟨hcell, hfroz⟩ := bcell hb; have hz := hb.size; (try simp at hz); (try (have z6 := Nat.lt_of_lt_of_le z7 hz)); (try (have z7 := Nat.lt_of_lt_of_le z8 hz)); (try (have z8 := Nat.lt_of_lt_of_le z9 hz)); (try (have z9 := Nat.lt_of_lt_of_le (Nat.lt_succ_self _) hz)); (try (have z0 : w.heap.size < w'.heap.size := by omega)); (try (have z1 : w.heap.size + 1 < w'.heap.size := by omega)); (try (have z2 : w.heap.size + 1 + 1 < w'.heap.size := by omega)); (try (have z3 : w.heap.size + 1 + 1 + 1 < w'.heap.size := by omega)); (try (have y1 : w1.heap.size < w'.heap.size := by omega)); (try (have y2 : w2.heap.size < w'.heap.size := by omega)); (try (have y3 : w3.heap.size < w'.heap.size := by omega)); (try (have y4 : w4.heap.size < w'.heap.size := by omega)); (try (have y5 : w5.heap.size < w'.heap.size := by omega)); (try (have y6 : w6.heap.size < w'.heap.size := by omega)))
  all_goals go_wp2
  all_goals exact bodyPost_ret (v := .tuple #[.agg #[.int .i64 (-b), .int .i64 (-a)], .agg #[.int .i64 (-d), .int .i64 (-c)]]) (by first | (simp only [results, Try.results56]; go_simp; done) | simp [results, Try.results56, go_sem, *]) rfl ⟨rfl, by (repeat (first | exact Below.refl _ _ | refine bl_drewN ?_ | refine bl_drew ?_ | refine bl_alloc ?_ _ | refine Below.setCell ?_ (by (first | (simp; done) | (simp; omega) | omega)) _ | refine bl_step (by assumption) ?_))⟩

set_option maxHeartbeats 1000000 in
theorem turned_pos (a b c d : Int) (w : World) (hc : ¬ c < 0) :
    Calls Try.prog 56 #[.agg #[.int .i64 (a), .int .i64 (b)], .agg #[.int .i64 (c), .int .i64 (d)]] w fun e w' => e = .returned (.tuple #[.agg #[.int .i64 (a), .int .i64 (b)], .agg #[.int .i64 (c), .int .i64 (d)]]) ∧ Below w.heap.size w w' := by
  go_enter Try.func56, Try.ntmps56
  go_wp2
  go_region
  all_goals go_wp2
  all_goals exact bodyPost_ret (v := .tuple #[.agg #[.int .i64 (a), .int .i64 (b)], .agg #[.int .i64 (c), .int .i64 (d)]]) (by first | (simp only [results, Try.results56]; go_simp; done) | simp [results, Try.results56, go_sem, *]) rfl ⟨rfl, by (repeat (first | exact Below.refl _ _ | refine bl_drewN ?_ | refine bl_drew ?_ | refine bl_alloc ?_ _ | refine Below.setCell ?_ (by (first | (simp; done) | (simp; omega) | omega)) _ | refine bl_step (by assumption) ?_))⟩

theorem fit4_to (x y X Y p q k : Int) (w : World) (hxy : X ≤ Y) (hx : x = X) (hy : y = Y) (hv : fitF X Y = .tuple #[.agg #[.int .i64 (p), .int .i64 (q)], .int .i64 (k)]) :
    Calls Try.prog 51 #[.int .i64 x, .int .i64 y] w fun e w' => e = .returned (.tuple #[.agg #[.int .i64 (p), .int .i64 (q)], .int .i64 (k)]) ∧ Below w.heap.size w w' := by
  subst hx hy
  rw [← hv]; exact fit4_any _ _ w hxy

theorem ce_pos_le (n m d : Int) (hd : 0 < d) (h : n ≤ m) : -(-n / d) ≤ -(-m / d) := by
  have := Int.ediv_le_ediv hd (show -m ≤ -n by omega)
  omega

theorem div4_zero (a b c d : Int) (w : World) (hz : zeroB c d = true) :
    Calls Try.prog 19 #[.agg #[.int .i64 (a), .int .i64 (b)], .agg #[.int .i64 (c), .int .i64 (d)]] w fun e w' => e = .returned (.tuple #[.agg #[.int .i64 (0), .int .i64 (0)], .int .i64 (16)]) ∧ Below w.heap.size w w' := by
  go_enter Try.func19, Try.ntmps19
  go_wp2_with (go_at_call 55; refine (zero4_any _ _ _).mono ?_; rintro e w' ⟨rfl, hb⟩; (try replace hb := below_undrew hb); (try replace hb := below_undrewN hb); obtain ⟨hcell, hfroz⟩ := bcell hb; have hz := hb.size; (try simp at hz); (try (have z6 := Nat.lt_of_lt_of_le z7 hz)); (try (have z7 := Nat.lt_of_lt_of_le z8 hz)); (try (have z8 := Nat.lt_of_lt_of_le z9 hz)); (try (have z9 := Nat.lt_of_lt_of_le (Nat.lt_succ_self _) hz)); (try (have z0 : w.heap.size < w'.heap.size := by omega)); (try (have z1 : w.heap.size + 1 < w'.heap.size := by omega)); (try (have z2 : w.heap.size + 1 + 1 < w'.heap.size := by omega)); (try (have z3 : w.heap.size + 1 + 1 + 1 < w'.heap.size := by omega)); (try (have y1 : w1.heap.size < w'.heap.size := by omega)); (try (have y2 : w2.heap.size < w'.heap.size := by omega)); (try (have y3 : w3.heap.size < w'.heap.size := by omega)); (try (have y4 : w4.heap.size < w'.heap.size := by omega)); (try (have y5 : w5.heap.size < w'.heap.size := by omega)); (try (have y6 : w6.heap.size < w'.heap.size := by omega)))
  exact bodyPost_ret (v := .tuple #[.agg #[.int .i64 (0), .int .i64 (0)], .int .i64 (16)]) (by first | (simp only [results, Try.results19]; go_simp; done) | simp [results, Try.results19, go_sem, *]) rfl ⟨rfl, by (repeat (first | exact Below.refl _ _ | refine bl_drewN ?_ | refine bl_drew ?_ | refine bl_alloc ?_ _ | refine Below.setCell ?_ (by (first | (simp; done) | (simp; omega) | omega)) _ | refine bl_step (by assumption) ?_))⟩

set_option maxHeartbeats 2000000 in
theorem div4_walk (a b c d A B C D x1 x2 y1 y2 p q k : Int) (w : World) (hz : zeroB c d = false)
    (T : Hid (∀ w, Calls Try.prog 56 #[.agg #[.int .i64 (a), .int .i64 (b)], .agg #[.int .i64 (c), .int .i64 (d)]] w fun e w' => e = .returned (.tuple #[.agg #[.int .i64 (A), .int .i64 (B)], .agg #[.int .i64 (C), .int .i64 (D)]]) ∧ Below w.heap.size w w'))
    (A1 : -2147483648 ≤ A) (A2 : A ≤ B) (A3 : B ≤ 2147483648) (C1 : 0 < C) (C2 : C ≤ D) (C3 : D ≤ 2147483648)
    (e1 : A * 1073741824 / C = x1) (e2 : A * 1073741824 / D = x2) (g1 : -(-(B * 1073741824) / C) = y1) (g2 : -(-(B * 1073741824) / D) = y2)
    (hv : fitF (min x1 x2) (max y1 y2) = .tuple #[.agg #[.int .i64 (p), .int .i64 (q)], .int .i64 (k)]) :
    Calls Try.prog 19 #[.agg #[.int .i64 (a), .int .i64 (b)], .agg #[.int .i64 (c), .int .i64 (d)]] w fun e w' => e = .returned (.tuple #[.agg #[.int .i64 (p), .int .i64 (q)], .int .i64 (k)]) ∧ Below w.heap.size w w' := by
  have le : min x1 x2 ≤ max y1 y2 := by
    have := fl_le_ce (A * 1073741824) (B * 1073741824) C C1 (by omega)
    omega
  have F1 := fun w => floor4_any (A * 1073741824) C w (by omega) (by omega) (by omega) (by omega)
  have F2 := fun w => floor4_any (A * 1073741824) D w (by omega) (by omega) (by omega) (by omega)
  have G1 := fun w => ceil4_any (B * 1073741824) C w (by omega) (by omega) (by omega) (by omega)
  have G2 := fun w => ceil4_any (B * 1073741824) D w (by omega) (by omega) (by omega) (by omega)
  rw [e1] at F1
  rw [e2] at F2
  rw [g1] at G1
  rw [g2] at G2
  clear e1 e2 g1 g2
  replace F1 := hidden F1
  replace F2 := hidden F2
  replace G1 := hidden G1
  replace G2 := hidden G2
  replace hv := hidden hv
  go_enter Try.func19, Try.ntmps19
  go_wp2_with (first | (go_at_call 55; refine (zero4_any _ _ _).mono ?_; rintro e w' ⟨rfl, hb⟩; (try replace hb := below_undrew hb); (try replace hb := below_undrewN hb); obtain ⟨hcell, hfroz⟩ := bcell hb; have hz := hb.size; (try simp at hz); (try (have z6 := Nat.lt_of_lt_of_le z7 hz)); (try (have z7 := Nat.lt_of_lt_of_le z8 hz)); (try (have z8 := Nat.lt_of_lt_of_le z9 hz)); (try (have z9 := Nat.lt_of_lt_of_le (Nat.lt_succ_self _) hz)); (try (have z0 : w.heap.size < w'.heap.size := by omega)); (try (have z1 : w.heap.size + 1 < w'.heap.size := by omega)); (try (have z2 : w.heap.size + 1 + 1 < w'.heap.size := by omega)); (try (have z3 : w.heap.size + 1 + 1 + 1 < w'.heap.size := by omega)); (try (have y1 : w1.heap.size < w'.heap.size := by omega)); (try (have y2 : w2.heap.size < w'.heap.size := by omega)); (try (have y3 : w3.heap.size < w'.heap.size := by omega)); (try (have y4 : w4.heap.size < w'.heap.size := by omega)); (try (have y5 : w5.heap.size < w'.heap.size := by omega)); (try (have y6 : w6.heap.size < w'.heap.size := by omega))) | (go_at_call 56; ((with_reducible refine (T.out _).mono ?_); rintro e w' ⟨rfl, hb⟩); (try replace hb := below_undrew hb); (try replace hb := below_undrewN hb); obtain ⟨hcell, hfroz⟩ := bcell hb; have hz := hb.size; (try simp at hz); (try (have z6 := Nat.lt_of_lt_of_le z7 hz)); (try (have z7 := Nat.lt_of_lt_of_le z8 hz)); (try (have z8 := Nat.lt_of_lt_of_le z9 hz)); (try (have z9 := Nat.lt_of_lt_of_le (Nat.lt_succ_self _) hz)); (try (have z0 : w.heap.size < w'.heap.size := by omega)); (try (have z1 : w.heap.size + 1 < w'.heap.size := by omega)); (try (have z2 : w.heap.size + 1 + 1 < w'.heap.size := by omega)); (try (have z3 : w.heap.size + 1 + 1 + 1 < w'.heap.size := by omega)); (try (have y1 : w1.heap.size < w'.heap.size := by omega)); (try (have y2 : w2.heap.size < w'.heap.size := by omega)); (try (have y3 : w3.heap.size < w'.heap.size := by omega)); (try (have y4 : w4.heap.size < w'.heap.size := by omega)); (try (have y5 : w5.heap.size < w'.heap.size := by omega)); (try (have y6 : w6.heap.size < w'.heap.size := by omega)); (try (have x1 : w1.heap.size + 1 < w'.heap.size := by omega)); (try (have x2 : w2.heap.size + 1 < w'.heap.size := by omega)); (try (have x3 : w3.heap.size + 1 < w'.heap.size := by omega)); (try (have x4 : w4.heap.size + 1 < w'.heap.size := by omega)); (try (have x5 : w5.heap.size + 1 < w'.heap.size := by omega)); (try (have x6 : w6.heap.size + 1 < w'.heap.size := by omega))))
  go_quiet (first | (go_at_call 52; (with_reducible exact quiet_same (F1.out _))) | (go_at_call 52; (with_reducible exact quiet_same (F2.out _))) | (go_at_call 50; exact quiet_same (least_any _ _ _)))
  obtain ⟨w1, rfl⟩ : ∃ v, v = w' := ⟨_, rfl⟩
  (refine name_world (F := Exit.then _ _ _ _) ?_; intro w' hb; (try replace hb := below_undrew hb); (try replace hb := below_undrewN hb); obtain ⟨hcell, hfroz⟩ := bcell hb; have hz := hb.size; (try simp at hz); (try (have z6 := Nat.lt_of_lt_of_le z7 hz)); (try (have z7 := Nat.lt_of_lt_of_le z8 hz)); (try (have z8 := Nat.lt_of_lt_of_le z9 hz)); (try (have z9 := Nat.lt_of_lt_of_le (Nat.lt_succ_self _) hz)); (try (have z0 : w.heap.size < w'.heap.size := by omega)); (try (have z1 : w.heap.size + 1 < w'.heap.size := by omega)); (try (have z2 : w.heap.size + 1 + 1 < w'.heap.size := by omega)); (try (have z3 : w.heap.size + 1 + 1 + 1 < w'.heap.size := by omega)); (try (have y1 : w1.heap.size < w'.heap.size := by omega)); (try (have y2 : w2.heap.size < w'.heap.size := by omega)); (try (have y3 : w3.heap.size < w'.heap.size := by omega)); (try (have y4 : w4.heap.size < w'.heap.size := by omega)); (try (have y5 : w5.heap.size < w'.heap.size := by omega)); (try (have y6 : w6.heap.size < w'.heap.size := by omega)))
  go_wp2
  go_quiet (first | (go_at_call 53; (with_reducible exact quiet_same (G1.out _))) | (go_at_call 53; (with_reducible exact quiet_same (G2.out _))) | (go_at_call 54; exact quiet_same (most_any _ _ _)))
  go_wp2_with (go_at_call 51; refine (fit4_to _ _ _ _ p q k _ le (by omega) (by omega) hv.out).mono ?_; rintro e w' ⟨rfl, hb⟩; (try replace hb := below_undrew hb); (try replace hb := below_undrewN hb); obtain ⟨hcell, hfroz⟩ := bcell hb; have hz := hb.size; (try simp at hz); (try (have z6 := Nat.lt_of_lt_of_le z7 hz)); (try (have z7 := Nat.lt_of_lt_of_le z8 hz)); (try (have z8 := Nat.lt_of_lt_of_le z9 hz)); (try (have z9 := Nat.lt_of_lt_of_le (Nat.lt_succ_self _) hz)); (try (have z0 : w.heap.size < w'.heap.size := by omega)); (try (have z1 : w.heap.size + 1 < w'.heap.size := by omega)); (try (have z2 : w.heap.size + 1 + 1 < w'.heap.size := by omega)); (try (have z3 : w.heap.size + 1 + 1 + 1 < w'.heap.size := by omega)); (try (have y1 : w1.heap.size < w'.heap.size := by omega)); (try (have y2 : w2.heap.size < w'.heap.size := by omega)); (try (have y3 : w3.heap.size < w'.heap.size := by omega)); (try (have y4 : w4.heap.size < w'.heap.size := by omega)); (try (have y5 : w5.heap.size < w'.heap.size := by omega)); (try (have y6 : w6.heap.size < w'.heap.size := by omega)); (try (have x1 : w1.heap.size + 1 < w'.heap.size := by omega)); (try (have x2 : w2.heap.size + 1 < w'.heap.size := by omega)); (try (have x3 : w3.heap.size + 1 < w'.heap.size := by omega)); (try (have x4 : w4.heap.size + 1 < w'.heap.size := by omega)); (try (have x5 : w5.heap.size + 1 < w'.heap.size := by omega)); (try (have x6 : w6.heap.size + 1 < w'.heap.size := by omega)))
  exact bodyPost_ret (v := .tuple #[.agg #[.int .i64 (p), .int .i64 (q)], .int .i64 (k)]) (by first | (simp only [results, Try.results19]; go_simp; done) | simp [results, Try.results19, go_sem, *]) rfl ⟨rfl, by (repeat (first | exact Below.refl _ _ | refine bl_drewN ?_ | refine bl_drew ?_ | refine bl_alloc ?_ _ | refine Below.setCell ?_ (by (first | (simp; done) | (simp; omega) | omega)) _ | refine bl_step (by assumption) ?_))⟩

theorem fl_pos' {n d : Int} (h : 0 < d) : fl n d = n / d := by unfold fl; rw [if_pos h]
theorem fl_neg' {n d : Int} (h : d < 0) : fl n d = -n / -d := by unfold fl; rw [if_neg (by omega)]

theorem div_turned_pos (a b c d : Int) (hab : a ≤ b) (hcd : c ≤ d) (hc : 0 < c) :
    divLo a b c d = min (a * 1073741824 / c) (a * 1073741824 / d) ∧ divHi a b c d = max (-(-(b * 1073741824) / c)) (-(-(b * 1073741824) / d)) := by
  have hd : 0 < d := by omega
  have m1 := Int.ediv_le_ediv hc (show a * 1073741824 ≤ b * 1073741824 by omega)
  have m2 := Int.ediv_le_ediv hd (show a * 1073741824 ≤ b * 1073741824 by omega)
  have m3 := ce_pos_le (a * 1073741824) (b * 1073741824) c hc (by omega)
  have m4 := ce_pos_le (a * 1073741824) (b * 1073741824) d hd (by omega)
  unfold divLo divHi ce
  simp only [fl_pos' hc, fl_pos' hd]
  constructor
  · generalize a * 1073741824 / c = x1 at *
    generalize b * 1073741824 / c = x2 at *
    generalize a * 1073741824 / d = x3 at *
    generalize b * 1073741824 / d = x4 at *
    clear m3 m4
    omega
  · clear m1 m2
    generalize -(a * 1073741824) / c = x1 at *
    generalize -(b * 1073741824) / c = x2 at *
    generalize -(a * 1073741824) / d = x3 at *
    generalize -(b * 1073741824) / d = x4 at *
    omega

theorem div_turned_neg (a b c d : Int) (hab : a ≤ b) (hcd : c ≤ d) (hd : d < 0) :
    divLo a b c d = min (-b * 1073741824 / -d) (-b * 1073741824 / -c) ∧ divHi a b c d = max (-(-(-a * 1073741824) / -d)) (-(-(-a * 1073741824) / -c)) := by
  have hc : c < 0 := by omega
  have hc' : 0 < -c := by omega
  have hd' : 0 < -d := by omega
  have m1 := Int.ediv_le_ediv hc' (show -b * 1073741824 ≤ -a * 1073741824 by omega)
  have m2 := Int.ediv_le_ediv hd' (show -b * 1073741824 ≤ -a * 1073741824 by omega)
  have m3 := ce_pos_le (-b * 1073741824) (-a * 1073741824) (-c) hc' (by omega)
  have m4 := ce_pos_le (-b * 1073741824) (-a * 1073741824) (-d) hd' (by omega)
  unfold divLo divHi ce
  simp only [fl_neg' hc, fl_neg' hd, Int.neg_neg]
  have ea : -(a * 1073741824) = -a * 1073741824 := by omega
  have eb : -(b * 1073741824) = -b * 1073741824 := by omega
  have ea2 : a * 1073741824 = -(-a * 1073741824) := by omega
  have eb2 : b * 1073741824 = -(-b * 1073741824) := by omega
  rw [ea, eb, ea2, eb2]
  constructor
  · generalize -a * 1073741824 / -c = x1 at *
    generalize -b * 1073741824 / -c = x2 at *
    generalize -a * 1073741824 / -d = x3 at *
    generalize -b * 1073741824 / -d = x4 at *
    clear m3 m4 ea eb ea2 eb2
    omega
  · clear m1 m2 ea eb ea2 eb2
    generalize -(-a * 1073741824) / -c = x1 at *
    generalize -(-b * 1073741824) / -c = x2 at *
    generalize -(-a * 1073741824) / -d = x3 at *
    generalize -(-b * 1073741824) / -d = x4 at *
    omega

theorem div4_any (a b c d : Int) (w : World) (h1 : fixB a b = true) (h2 : fixB c d = true) (hz : zeroB c d = false) :
    Calls Try.prog 19 #[.agg #[.int .i64 (a), .int .i64 (b)], .agg #[.int .i64 (c), .int .i64 (d)]] w fun e w' => e = .returned (fitF (divLo a b c d) (divHi a b c d)) ∧ Below w.heap.size w w' := by
  obtain ⟨a1, a2, a3⟩ := fixB_t h1
  obtain ⟨c1, c2, c3⟩ := fixB_t h2
  obtain ⟨p, q, k, e⟩ := fitF_form (divLo a b c d) (divHi a b c d)
  rw [e]
  rcases zeroB_f hz with hc | hd
  · obtain ⟨e1, e2⟩ := div_turned_pos a b c d a2 c2 hc
    rw [e1, e2] at e
    exact div4_walk a b c d a b c d _ _ _ _ p q k w hz (hidden fun w => turned_pos a b c d w (by omega)) a1 a2 a3 hc c2 c3 rfl rfl rfl rfl e
  · obtain ⟨e1, e2⟩ := div_turned_neg a b c d a2 c2 hd
    rw [e1, e2] at e
    exact div4_walk a b c d (-b) (-a) (-d) (-c) _ _ _ _ p q k w hz (hidden fun w => turned_neg a b c d w h1 h2 (by omega)) (by omega) (by omega) (by omega) (by omega) (by omega) (by omega) rfl rfl rfl rfl e

theorem sqrt4_range (a b : Int) (w : World) (hb : b < 0) :
    Calls Try.prog 36 #[.agg #[.int .i64 (a), .int .i64 (b)]] w fun e w' => e = .returned (.tuple #[.agg #[.int .i64 (0), .int .i64 (0)], .int .i64 (2)]) ∧ Below w.heap.size w w' := by
  go_enter Try.func36, Try.ntmps36
  go_wp2
  exact bodyPost_ret (v := .tuple #[.agg #[.int .i64 (0), .int .i64 (0)], .int .i64 (2)]) (by first | (simp only [results, Try.results36]; go_simp; done) | simp [results, Try.results36, go_sem, *]) rfl ⟨rfl, by (repeat (first | exact Below.refl _ _ | refine bl_drewN ?_ | refine bl_drew ?_ | refine bl_alloc ?_ _ | refine Below.setCell ?_ (by (first | (simp; done) | (simp; omega) | omega)) _ | refine bl_step (by assumption) ?_))⟩

set_option maxHeartbeats 1000000 in
theorem sqrt4_any (a b r s : Int) (w : World) (h : fixB a b = true) (hb : 0 ≤ b) (hr : isRoot (max 0 a * 1073741824) r) (hs : isRoot (b * 1073741824) s) :
    Calls Try.prog 36 #[.agg #[.int .i64 (a), .int .i64 (b)]] w fun e w' => e = .returned (.tuple #[.agg #[.int .i64 (r), .int .i64 (upRoot (b * 1073741824) s)], .int .i64 (0)]) ∧ Below w.heap.size w w' := by
  obtain ⟨a1, a2, a3⟩ := fixB_t h
  rw [Int.max_comm] at hr
  have r1 := isRoot_bd (by omega) hr
  have s1 := isRoot_bd (by omega) hs
  obtain ⟨r2, r3⟩ := r1
  obtain ⟨s2, s3⟩ := s1
  have FA := fun w => root4_any (max a 0 * 1073741824) r w (by omega) (by omega) hr.1 hr.2.1 hr.2.2
  have FB := fun w => root4_any (b * 1073741824) s w (by omega) (by omega) hs.1 hs.2.1 hs.2.2
  have sq : 0 ≤ s * s ∧ s * s ≤ 2305843009213693952 := ⟨Int.mul_nonneg s2 s2, by have := hs.2.1; omega⟩
  have w1 : IntKind.i64.wrap (s * s) = s * s := wrap_id (by omega) (by omega)
  replace FA := hidden FA
  replace FB := hidden FB
  clear hr hs sq
  by_cases hl : s * s < b * 1073741824
  · have E : Hid (upRoot (b * 1073741824) s = s + 1) := if_pos hl
    rw [E.out]
    go_enter Try.func36, Try.ntmps36
    go_wp2_with (first | (go_at_call 50; refine (least_any _ _ _).mono ?_; rintro e w' ⟨rfl, rfl⟩) | (go_at_call 54; refine (most_any _ _ _).mono ?_; rintro e w' ⟨rfl, rfl⟩) | (go_at_call 60; ((with_reducible refine (FB.out _).mono ?_); rintro e w' ⟨rfl, rfl⟩)) | (go_at_call 60; ((with_reducible refine (FA.out _).mono ?_); rintro e w' ⟨rfl, rfl⟩)))
    exact bodyPost_ret (v := .tuple #[.agg #[.int .i64 (r), .int .i64 (s + 1)], .int .i64 (0)]) (by first | (simp only [results, Try.results36]; go_simp; done) | simp [results, Try.results36, go_sem, *]) rfl ⟨rfl, by (repeat (first | exact Below.refl _ _ | refine bl_drewN ?_ | refine bl_drew ?_ | refine bl_alloc ?_ _ | refine Below.setCell ?_ (by (first | (simp; done) | (simp; omega) | omega)) _ | refine bl_step (by assumption) ?_))⟩
  · have E : Hid (upRoot (b * 1073741824) s = s) := if_neg hl
    rw [E.out]
    go_enter Try.func36, Try.ntmps36
    go_wp2_with (first | (go_at_call 50; refine (least_any _ _ _).mono ?_; rintro e w' ⟨rfl, rfl⟩) | (go_at_call 54; refine (most_any _ _ _).mono ?_; rintro e w' ⟨rfl, rfl⟩) | (go_at_call 60; ((with_reducible refine (FB.out _).mono ?_); rintro e w' ⟨rfl, rfl⟩)) | (go_at_call 60; ((with_reducible refine (FA.out _).mono ?_); rintro e w' ⟨rfl, rfl⟩)))
    exact bodyPost_ret (v := .tuple #[.agg #[.int .i64 (r), .int .i64 (s)], .int .i64 (0)]) (by first | (simp only [results, Try.results36]; go_simp; done) | simp [results, Try.results36, go_sem, *]) rfl ⟨rfl, by (repeat (first | exact Below.refl _ _ | refine bl_drewN ?_ | refine bl_drew ?_ | refine bl_alloc ?_ _ | refine Below.setCell ?_ (by (first | (simp; done) | (simp; omega) | omega)) _ | refine bl_step (by assumption) ?_))⟩

end Go.Proofs.Ytbglnncejfhlmaa
