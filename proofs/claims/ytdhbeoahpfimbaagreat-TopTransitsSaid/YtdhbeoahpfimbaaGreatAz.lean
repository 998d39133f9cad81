/- Several small texts in one: XAwk, XAwa. -/
import Derived.Test.YtdhbeoahpfimbaaGreatArcW
import Derived.Test.YtdhbeoahpfimbaaGreatMd
import Derived.Test.YtdhbeoahpfimbaaGreatCv
import Derived.Test.YtdhbeoahpfimbaaGreatGr
import Derived.Test.YtdhbeoahpfimbaaGreatCs
import Derived.Test.YtdhbeoahpfimbaaGreatRu
import Derived.Test.YtdhbeoahpfimbaaGreatRa
namespace Go.Proofs.YtdhbeoahpfimbaaGreat
open Go.RowKit
theorem b150 : encLo 9000000 9000000 = 536870912 ∧ encHi 9000000 9000000 = 536870912 := by decide +kernel
theorem b0 : encLo 0 0 = 0 ∧ encHi 0 0 = 0 := by decide +kernel
theorem b90 : encLo 5400000 5400000 = 1073741824 ∧ encHi 5400000 5400000 = 1073741824 := by decide +kernel
theorem b60 : encLo 3600000 3600000 = 929887696 ∧ encHi 3600000 3600000 = 929887697 := by decide +kernel
theorem b91 : 0 < encLo 5400000 5460000 := by decide +kernel
theorem as30 : asLo 536870912 = 1800000 ∧ asHi 536870912 = 1800000 := by decide +kernel
theorem ah60 : ahLo 268435456 = 3600000 ∧ ahHi 268435456 = 3600000 := by decide +kernel
theorem tm60 : tmLo 60000 60000 1073741824 1073741824 = 60000 ∧ tmHi 60000 60000 1073741824 1073741824 = 60000 ∧ tmLo 60000 60000 0 0 = 0 ∧ tmHi 60000 60000 0 0 = 0 := by decide
theorem hav60 : havLo 3600000 3600000 = 268435456 ∧ havHi 3600000 3600000 = 268435456 ∧ havLo 0 0 = 0 ∧ havHi 0 0 = 0 := by decide +kernel
theorem fit_ok {a b x y : Int} (h1 : a = x) (h2 : b = y) (h : fixB x y = true) : fitF a b = .tuple #[.agg #[.int .i64 x, .int .i64 y], .int .i64 0] := by subst h1 h2; exact fitF_ok h
theorem mul_is (a b c d x y : Int) (w : World) (h1 : fixB a b = true) (h2 : fixB c d = true) (hx : fl (min (a * c) (min (a * d) (min (b * c) (b * d)))) 1073741824 = x) (hy : ce (max (a * c) (max (a * d) (max (b * c) (b * d)))) 1073741824 = y) (h : fixB x y = true) :
    Calls Tryz.prog 150 #[.agg #[.int .i64 a, .int .i64 b], .agg #[.int .i64 c, .int .i64 d]] w fun e w' => e = .returned (.tuple #[.agg #[.int .i64 x, .int .i64 y], .int .i64 0]) ∧ Below w.heap.size w w' := by
  have := mul_any a b c d w h1 h2
  rw [fit_ok hx hy h] at this
  exact this
theorem plus_is (a b c d x y : Int) (w : World) (h1 : fixB a b = true) (h2 : fixB c d = true) (hx : a + c = x) (hy : b + d = y) (h : fixB x y = true) :
    Calls Tryz.prog 49 #[.agg #[.int .i64 a, .int .i64 b], .agg #[.int .i64 c, .int .i64 d]] w fun e w' => e = .returned (.tuple #[.agg #[.int .i64 x, .int .i64 y], .int .i64 0]) ∧ Below w.heap.size w w' := by
  have := add_any a b c d w h1 h2
  rw [fit_ok hx hy h] at this
  exact this
theorem less_is (a b c d x y : Int) (w : World) (h1 : fixB a b = true) (h2 : fixB c d = true) (hx : a - d = x) (hy : b - c = y) (h : fixB x y = true) :
    Calls Tryz.prog 224 #[.agg #[.int .i64 a, .int .i64 b], .agg #[.int .i64 c, .int .i64 d]] w fun e w' => e = .returned (.tuple #[.agg #[.int .i64 x, .int .i64 y], .int .i64 0]) ∧ Below w.heap.size w w' := by
  have := sub_any a b c d w h1 h2
  rw [fit_ok hx hy h] at this
  exact this
theorem sin_is (a b x y : Int) (w : World) (h : arcV a b = true) (hx : encLo a b = x) (hy : encHi a b = y) :
    Calls Tryz.prog 125 #[.agg #[.int .i64 a, .int .i64 b]] w fun e w' => e = .returned (.tuple #[.agg #[.int .i64 x, .int .i64 y], .int .i64 0]) ∧ Below w.heap.size w w' := by subst hx hy; exact sin_ok a b w h
theorem cos_is (a b x y : Int) (w : World) (h : arcV a b = true) (hx : encLo (a + 5400000) (b + 5400000) = x) (hy : encHi (a + 5400000) (b + 5400000) = y) :
    Calls Tryz.prog 124 #[.agg #[.int .i64 a, .int .i64 b]] w fun e w' => e = .returned (.tuple #[.agg #[.int .i64 x, .int .i64 y], .int .i64 0]) ∧ Below w.heap.size w w' := by subst hx hy; exact cos_ok a b w h
theorem hav_is (a b x y : Int) (w : World) (h : arcV a b = true) (hx : havLo a b = x) (hy : havHi a b = y) :
    Calls Tryz.prog 147 #[.agg #[.int .i64 a, .int .i64 b]] w fun e w' => e = .returned (.tuple #[.agg #[.int .i64 x, .int .i64 y], .int .i64 0]) ∧ Below w.heap.size w w' := by subst hx hy; exact hav_ok a b w h
theorem ahav_is (a b x y : Int) (w : World) (h : fixB a b = true) (h1 : a ≤ 1073741824) (h2 : 0 ≤ b) (hx : ahLo a = x) (hy : ahHi b = y) :
    Calls Tryz.prog 79 #[.agg #[.int .i64 a, .int .i64 b]] w fun e w' => e = .returned (.tuple #[.agg #[.int .i64 x, .int .i64 y], .int .i64 0]) ∧ Below w.heap.size w w' := by subst hx hy; exact ahav_ok a b w h h1 h2
theorem asin_is (a b x y : Int) (w : World) (h : fixB a b = true) (h1 : a ≤ 1073741824) (h2 : -1073741824 ≤ b) (hx : asLo a = x) (hy : asHi b = y) :
    Calls Tryz.prog 203 #[.agg #[.int .i64 a, .int .i64 b]] w fun e w' => e = .returned (.tuple #[.agg #[.int .i64 x, .int .i64 y], .int .i64 0]) ∧ Below w.heap.size w w' := by subst hx hy; exact asin_ok a b w h h1 h2
theorem sg_is (n x : Int) (w : World) (h0 : -9223372036854775808 ≤ n) (h1 : n ≤ 9223372036854775807) (hx : sgn n = x) :
    Calls Tryz.prog 21 #[.int .i64 n] w fun e w' => e = .returned (.int .i64 x) ∧ w = w' := by subst hx; exact signed_any n w h0 h1
/-- the distance and the course of the example -/
theorem ginv_ex : ∃ p q : Int, ∀ w, Calls Tryz.prog 17 #[.agg #[.int .i64 0, .int .i64 0], .agg #[.int .i64 0, .int .i64 3600000]] w fun e w' => e = .returned (.tuple #[.agg #[.int .i64 p, .int .i64 q, .int .i64 3600000, .int .i64 3600000], .int .i64 0]) ∧ Below w.heap.size w w' := by
  refine ⟨_, _, fun w => ginv_walk 0 0 0 3600000 _ _ 3600000 3600000 w (by decide) (by decide) (by decide) (by decide) (by decide) (by decide) (by decide) (by decide)
    (hidden fun B1 w ok => gcourse_walk 0 0 0 3600000 3600000 929887696 929887697 536870912 536870912 1073741824 1073741824 1073741824 1073741824 0 0 0 0 929887696 929887697 0 0 0 0 0 0 0 0 _ _ B1 w ok (by decide) (by decide)
      (hidden fun w => sg_is _ _ w (by decide) (by decide) (by decide)) (hidden fun w => sin_is _ _ _ _ w (by decide) b60.1 b60.2) (hidden fun w => cos_is _ _ _ _ w (by decide) b150.1 b150.2) (hidden fun w => cos_is _ _ _ _ w (by decide) b90.1 b90.2) (hidden fun w => cos_is _ _ _ _ w (by decide) b90.1 b90.2)
      (hidden fun w => sin_is _ _ _ _ w (by decide) b0.1 b0.2) (hidden fun w => sin_is _ _ _ _ w (by decide) b0.1 b0.2)
      (hidden fun w => mul_is _ _ _ _ _ _ w (by decide) (by decide) (by decide) (by decide) (by decide)) (hidden fun w => mul_is _ _ _ _ _ _ w (by decide) (by decide) (by decide) (by decide) (by decide)) (hidden fun w => mul_is _ _ _ _ _ _ w (by decide) (by decide) (by decide) (by decide) (by decide)) (hidden fun w => mul_is _ _ _ _ _ _ w (by decide) (by decide) (by decide) (by decide) (by decide)) (hidden fun w => less_is _ _ _ _ _ _ w (by decide) (by decide) (by decide) (by decide) (by decide))
      (hidden fun w => bearing_any 929887696 929887697 0 0 w (by decide) (by decide)))
    (hidden fun B1 w ok => gdist_walk 0 0 0 3600000 3600000 1073741824 1073741824 1073741824 1073741824 1073741824 1073741824 268435456 268435456 268435456 268435456 0 0 268435456 268435456 3600000 3600000 B1 w ok (by decide) (by decide) (by decide) (by decide)
      (hidden fun w => sg_is _ _ w (by decide) (by decide) (by decide)) (hidden fun w => cos_is _ _ _ _ w (by decide) b90.1 b90.2) (hidden fun w => cos_is _ _ _ _ w (by decide) b90.1 b90.2)
      (hidden fun w => mul_is _ _ _ _ _ _ w (by decide) (by decide) (by decide) (by decide) (by decide)) (hidden fun w => hav_is _ _ _ _ w (by decide) hav60.1 hav60.2.1) (hidden fun w => mul_is _ _ _ _ _ _ w (by decide) (by decide) (by decide) (by decide) (by decide)) (hidden fun w => hav_is _ _ _ _ w (by decide) hav60.2.2.1 hav60.2.2.2)
      (hidden fun w => plus_is _ _ _ _ _ _ w (by decide) (by decide) (by decide) (by decide) (by decide)) (hidden fun w => ahav_is _ _ _ _ w (by decide) (by decide) (by decide) ah60.1 ah60.2))⟩
/-- the altitude of the example -/
theorem calt_ex (w : World) : Calls Tryz.prog 38 #[.agg #[.int .i64 0, .int .i64 0, .int .i64 0, .int .i64 0, .int .i64 3600000, .int .i64 3600000]] w fun e w' => e = .returned (.tuple #[.agg #[.int .i64 1800000, .int .i64 1800000], .int .i64 0]) ∧ Below w.heap.size w w' :=
  calt_ok 0 0 0 0 3600000 3600000 1800000 1800000 w (hidden fun w => cval_ok 0 0 0 0 3600000 3600000 w (by decide) (by decide) (by decide) (by decide) (by decide) (by decide) (by decide))
    (hidden fun w => calt_walk 0 0 0 0 3600000 3600000 0 0 1073741824 1073741824 0 0 1073741824 1073741824 929887696 929887697 536870912 536870912 0 0 1073741824 1073741824 536870912 536870912 536870912 536870912 1800000 1800000 w
      (hidden fun w => sin_is _ _ _ _ w (by decide) b0.1 b0.2) (hidden fun w => cos_is _ _ _ _ w (by decide) b90.1 b90.2) (hidden fun w => sin_is _ _ _ _ w (by decide) b0.1 b0.2) (hidden fun w => cos_is _ _ _ _ w (by decide) b90.1 b90.2) (hidden fun w => sin_is _ _ _ _ w (by decide) b60.1 b60.2) (hidden fun w => cos_is _ _ _ _ w (by decide) b150.1 b150.2)
      (hidden fun w => mul_is _ _ _ _ _ _ w (by decide) (by decide) (by decide) (by decide) (by decide)) (hidden fun w => mul_is _ _ _ _ _ _ w (by decide) (by decide) (by decide) (by decide) (by decide)) (hidden fun w => mul_is _ _ _ _ _ _ w (by decide) (by decide) (by decide) (by decide) (by decide)) (hidden fun w => plus_is _ _ _ _ _ _ w (by decide) (by decide) (by decide) (by decide) (by decide))
      (hidden fun w => asin_is _ _ _ _ w (by decide) (by decide) (by decide) as30.1 as30.2))
/-- the place that is reached in the example -/
theorem plane_ex (w : World) : Calls Tryz.prog 44 #[.agg #[.int .i64 0, .int .i64 0, .int .i64 60000, .int .i64 60000]] w fun e w' => e = .returned (.tuple #[.agg #[.int .i64 60000, .int .i64 60000], .agg #[.int .i64 0, .int .i64 0], .int .i64 0]) ∧ Below w.heap.size w w' := by
  refine plane_walk 0 0 60000 60000 1073741824 1073741824 0 0 60000 60000 0 0 w (hidden fun w => ?_) (hidden fun w => cos_is _ _ _ _ w (by decide) b90.1 b90.2) (hidden fun w => sin_is _ _ _ _ w (by decide) b0.1 b0.2) (hidden fun w => ?_) (hidden fun w => ?_)
  · exact mvalid_any 0 0 60000 60000 w
  · have := mprod_any 1073741824 1073741824 60000 60000 60000 w (by decide) (by decide) (by decide) (by decide) (by decide) (by decide) (by decide)
    rw [tm60.1, tm60.2.1] at this
    exact this
  · have := mprod_any 0 0 60000 60000 60000 w (by decide) (by decide) (by decide) (by decide) (by decide) (by decide) (by decide)
    rw [tm60.2.2.1, tm60.2.2.2] at this
    exact this
theorem quo_ex (x y : Int) (w : World) (h : fixB x y = true) (hx : 0 < x) : Calls Tryz.prog 198 #[.agg #[.int .i64 1073741824, .int .i64 1073741824], .agg #[.int .i64 x, .int .i64 y], .int .i64 0] w fun e w' => e = .returned (.tuple #[.int .i64 0, .int .i64 0, .int .i64 0]) ∧ Below w.heap.size w w' := by
  have t := fixB_t h
  have := quot_any 1073741824 1073741824 x y 0 w (by decide) h (by decide) (by simp [zeroB]; omega)
  have e1 : qLo 1073741824 1073741824 x y 0 = 0 := by unfold qLo; simp [fl_pos' hx, fl_pos' (show 0 < y by omega)]
  have e2 : qHi 1073741824 1073741824 x y 0 = 0 := by unfold qHi ce; simp [fl_pos' hx, fl_pos' (show 0 < y by omega)]
  rw [e1, e2] at this
  exact this
theorem dlon_ex (w : World) : Calls Tryz.prog 114 #[.agg #[.int .i64 0, .int .i64 60000], .agg #[.int .i64 0, .int .i64 0]] w fun e w' => e = .returned (.tuple #[.agg #[.int .i64 0, .int .i64 0], .int .i64 0]) ∧ Below w.heap.size w w' := by
  have o : fixB (encLo 5400000 5460000) (encHi 5400000 5460000) = true := by
    have x := enc_bd 5400000 5460000
    have b := b_bd 5400000
    refine fixB_mk ⟨by omega, ?_, by omega⟩
    unfold encLo encHi
    repeat' split
    all_goals omega
  have V : Hid (∀ w, Calls Tryz.prog 45 #[.agg #[.int .i64 0, .int .i64 0]] w fun e w' => e = .returned (.bool true) ∧ Below w.heap.size w w') := hidden fun w => valid_any 0 0 w
  refine dlon_walk 0 60000 0 0 (encLo 5400000 5460000) (encHi 5400000 5460000) 0 0 w b91 (hidden fun w => mlat_ok 0 60000 w (by decide) (by decide) (by decide)) V (hidden fun w => cos_ok 0 60000 w (by decide)) (hidden fun B1 B2 w g0 g1 g2 g3 => ?_)
  exact dboth_walk 1073741824 1073741824 (encLo 5400000 5460000) (encHi 5400000 5460000) 0 0 0 0 0 0 0 0 B1 B2 w g0 g1 g2 g3
    (hidden fun w k0 k1 k2 k3 => dlon1_any _ _ _ _ 0 0 0 B1 B2 w k0 k1 k2 k3 (hidden fun w => quo_ex _ _ w o b91)) (hidden fun w k0 k1 k2 k3 => dlon1_any _ _ _ _ 0 0 0 B1 B2 w k0 k1 k2 k3 (hidden fun w => quo_ex _ _ w o b91)) rfl rfl V
theorem wayat_any (n : Int) (w : World) :
    Calls Tryz.prog 19 #[.int .i64 n] w fun e w' => e = .returned (.agg #[.int .i64 n, .int .i64 n]) ∧ Below w.heap.size w w' := by
  go_enter Tryz.func19, Tryz.ntmps19
  go_wp2
  exact bodyPost_ret (v := .agg #[.int .i64 n, .int .i64 n]) (by first | (simp only [results, Tryz.results19]; go_simp; done) | simp [results, Tryz.results19, go_sem, *]) rfl ⟨rfl, by (repeat (first | (with_reducible exact Below.refl _ _) | (with_reducible refine Below.setCell ?_ (by (first | (simp; done) | (simp; omega) | omega)) _) | (with_reducible refine bl_alloc ?_ _) | (with_reducible refine bl_drewN ?_) | (with_reducible refine bl_drew ?_) | (with_reducible refine bl_step (by assumption) ?_)))⟩
set_option maxRecDepth 100000 in
set_option maxHeartbeats 8000000 in
theorem wayawake_is (w : World) :
    Calls Tryz.prog 6 #[] w fun e w' => e = .returned (.bool true) ∧ Below w.heap.size w w' := by
  obtain ⟨p, q, IV⟩ := ginv_ex
  have I := hidden IV
  have R := hidden fun B1 w h0 h1 h2 h3 => run_ok B1 w h0 h1 h2 h3 (hidden plane_ex) (hidden dlon_ex)
  have A := hidden calt_ex
  have AR := hidden around_is
  have W := hidden wayat_any
  have q1 := fun w => eql_arc 3600000 3600000 3600000 3600000 w
  have q2 := fun w => eql_arc 60000 60000 60000 60000 w
  have q3 := fun w => eql_arc 1800000 1800000 1800000 1800000 w
  have q4 := grd_arc .eql
  simp only [beq_self_eq_true, Bool.and_self] at q1 q2 q3
  clear IV
  go_enter Tryz.func6, Tryz.ntmps6
  go_upto_region 4 with (((first | (go_at_call 17; ((with_reducible refine (I.out _).mono ?_); rintro e w' ⟨rfl, hb⟩); have nm0 := trivial) | (go_at_call 19; ((with_reducible refine (W.out _ _).mono ?_); rintro e w' ⟨rfl, hb⟩); have nm1 := trivial) | (go_at_call 37; ((with_reducible refine (R.out _ _ ?c0 ?c1 ?c2 ?c3).mono ?_); (case c0 => (simp [go_sem, *]; done)); (case c1 => (simp [go_sem, *]; done)); (case c2 => (simp [go_sem, *]; done)); (case c3 => (simp [go_sem, *]; done)); rintro e w' ⟨rfl, hb⟩); have nm2 := trivial) | (go_at_call 38; ((with_reducible refine (A.out _).mono ?_); rintro e w' ⟨rfl, hb⟩); have nm3 := trivial)); (try replace hb := below_undrew hb); (try replace hb := below_undrewN hb); obtain ⟨hcell, hfroz⟩ := bcell hb; have hz := hb.size; (try simp at hz); (try (have z9 := Nat.lt_of_lt_of_le (Nat.lt_succ_self _) hz)); (try have z0 : w.heap.size < w'.heap.size := by omega); (try have z1 : w.heap.size + 1 < w'.heap.size := by omega); (try have z2 : w.heap.size + 1 + 1 < w'.heap.size := by omega); (try have z3 : w.heap.size + 1 + 1 + 1 < w'.heap.size := by omega); (try have y1 : w1.heap.size < w'.heap.size := by omega); (try have y2 : w2.heap.size < w'.heap.size := by omega); (try have y3 : w3.heap.size < w'.heap.size := by omega); (try have x1 : w1.heap.size + 1 < w'.heap.size := by omega); (try have x2 : w2.heap.size + 1 < w'.heap.size := by omega); (try have x3 : w3.heap.size + 1 < w'.heap.size := by omega); (try have z10 : w1.heap.size < w'.heap.size + 1 := by omega); (try have z20 : w2.heap.size < w'.heap.size + 1 := by omega); (try have z30 : w3.heap.size < w'.heap.size + 1 := by omega); (first | (clear nm0; obtain ⟨w1, rfl⟩ : ∃ v, v = w' := ⟨_, rfl⟩) | (clear nm1; obtain ⟨w2, rfl⟩ : ∃ v, v = w' := ⟨_, rfl⟩) | (clear nm2; obtain ⟨w3, rfl⟩ : ∃ v, v = w' := ⟨_, rfl⟩) | (clear nm3; obtain ⟨w4, rfl⟩ : ∃ v, v = w' := ⟨_, rfl⟩))))
  go_wp2_with (go_at_call 39; ((with_reducible refine (AR.out _).mono ?_); rintro e w' ⟨⟨g, cap, rfl⟩, hb⟩); (try replace hb := below_undrew hb); (try replace hb := below_undrewN hb); obtain ⟨hcell, hfroz⟩ := bcell hb; have hz := hb.size; (try simp at hz); (try (have z9 := Nat.lt_of_lt_of_le (Nat.lt_succ_self _) hz)); (try have z0 : w.heap.size < w'.heap.size := by omega); (try have z1 : w.heap.size + 1 < w'.heap.size := by omega); (try have z2 : w.heap.size + 1 + 1 < w'.heap.size := by omega); (try have z3 : w.heap.size + 1 + 1 + 1 < w'.heap.size := by omega); (try have y1 : w1.heap.size < w'.heap.size := by omega); (try have y2 : w2.heap.size < w'.heap.size := by omega); (try have y3 : w3.heap.size < w'.heap.size := by omega); (try have y4 : w4.heap.size < w'.heap.size := by omega); (try have x1 : w1.heap.size + 1 < w'.heap.size := by omega); (try have x2 : w2.heap.size + 1 < w'.heap.size := by omega); (try have x3 : w3.heap.size + 1 < w'.heap.size := by omega); (try have x4 : w4.heap.size + 1 < w'.heap.size := by omega); (try have z10 : w1.heap.size < w'.heap.size + 1 := by omega); (try have z20 : w2.heap.size < w'.heap.size + 1 := by omega); (try have z30 : w3.heap.size < w'.heap.size + 1 := by omega); (try have z40 : w4.heap.size < w'.heap.size + 1 := by omega); obtain ⟨w5, rfl⟩ : ∃ v, v = w' := ⟨_, rfl⟩)
  (refine name_code ?_; intro w' hb; (try replace hb := below_undrew hb); (try replace hb := below_undrewN hb); obtain ⟨hcell, hfroz⟩ := bcell hb; have hz := hb.size; (try simp at hz); (try (have z9 := Nat.lt_of_lt_of_le (Nat.lt_succ_self _) hz)); (try have z0 : w.heap.size < w'.heap.size := by omega); (try have z1 : w.heap.size + 1 < w'.heap.size := by omega); (try have z2 : w.heap.size + 1 + 1 < w'.heap.size := by omega); (try have z3 : w.heap.size + 1 + 1 + 1 < w'.heap.size := by omega); (try have y1 : w1.heap.size < w'.heap.size := by omega); (try have y2 : w2.heap.size < w'.heap.size := by omega); (try have y3 : w3.heap.size < w'.heap.size := by omega); (try have y4 : w4.heap.size < w'.heap.size := by omega); (try have y5 : w5.heap.size < w'.heap.size := by omega); (try have x1 : w1.heap.size + 1 < w'.heap.size := by omega); (try have x2 : w2.heap.size + 1 < w'.heap.size := by omega); (try have x3 : w3.heap.size + 1 < w'.heap.size := by omega); (try have x4 : w4.heap.size + 1 < w'.heap.size := by omega); (try have x5 : w5.heap.size + 1 < w'.heap.size := by omega); (try have z10 : w1.heap.size < w'.heap.size + 1 := by omega); (try have z20 : w2.heap.size < w'.heap.size + 1 := by omega); (try have z30 : w3.heap.size < w'.heap.size + 1 := by omega); (try have z40 : w4.heap.size < w'.heap.size + 1 := by omega); (try have z50 : w5.heap.size < w'.heap.size + 1 := by omega))
  have hw0 : Below w.heap.size w w' := by (repeat (first | (with_reducible exact Below.refl _ _) | (with_reducible refine Below.setCell ?_ (by (first | (simp; done) | (simp; omega) | omega)) _) | (with_reducible refine bl_alloc ?_ _) | (with_reducible refine bl_drewN ?_) | (with_reducible refine bl_drew ?_) | (with_reducible refine bl_step (by assumption) ?_)))
  have a2 : w'.cell? ⟨w1.heap.size, 2, none⟩ = some (.int .i64 3600000) := by simp [go_sem, *]
  have a3 : w'.cell? ⟨w1.heap.size, 3, none⟩ = some (.int .i64 3600000) := by simp [go_sem, *]
  have b0 : w'.cell? ⟨w3.heap.size, 0, none⟩ = some (.int .i64 60000) := by simp [go_sem, *]
  have b1 : w'.cell? ⟨w3.heap.size, 1, none⟩ = some (.int .i64 60000) := by simp [go_sem, *]
  have c0 : w'.cell? ⟨w4.heap.size, 0, none⟩ = some (.int .i64 1800000) := by simp [go_sem, *]
  have c1 : w'.cell? ⟨w4.heap.size, 1, none⟩ = some (.int .i64 1800000) := by simp [go_sem, *]
  clear hcell hfroz hz hb
  obtain ⟨V0, rfl⟩ : ∃ v, v = w' := ⟨_, rfl⟩
  have g1 : w1.heap.size < V0.heap.size := World.block_lt_of_cell? _ _ a2
  have g2 : w3.heap.size < V0.heap.size := World.block_lt_of_cell? _ _ b0
  have g3 : w4.heap.size < V0.heap.size := World.block_lt_of_cell? _ _ c0
  generalize w1.heap.size = BA at *
  generalize w3.heap.size = BB at *
  generalize w4.heap.size = BC at *
  refine wp_region_quiet_below (by kernel_rfl) (by kernel_rfl) ?_
  repeat (first | go_big_quiet_step ((go_at_call 19; (with_reducible exact Calls.regrown_of (W.out _ _)))) | quiet_step ((go_at_call 19; (with_reducible exact Calls.regrown_of (W.out _ _)))))
  refine wpQuiet_nil ?_; intro w' hw'; have hb := below_of_regrown hw'; clear hw'; (try replace hb := below_undrew hb); (try replace hb := below_undrewN hb); obtain ⟨hcell, hfroz⟩ := bcell hb; have hz := hb.size; (try simp at hz); (try (have z9 := Nat.lt_of_lt_of_le (Nat.lt_succ_self _) hz)); (try have z0 : w.heap.size < w'.heap.size := by omega); (try have z1 : w.heap.size + 1 < w'.heap.size := by omega); (try have z2 : w.heap.size + 1 + 1 < w'.heap.size := by omega); (try have z3 : w.heap.size + 1 + 1 + 1 < w'.heap.size := by omega); (try have y1 : w1.heap.size < w'.heap.size := by omega); (try have y2 : w2.heap.size < w'.heap.size := by omega); (try have y3 : w3.heap.size < w'.heap.size := by omega); (try have y4 : w4.heap.size < w'.heap.size := by omega); (try have y5 : w5.heap.size < w'.heap.size := by omega); (try have x1 : w1.heap.size + 1 < w'.heap.size := by omega); (try have x2 : w2.heap.size + 1 < w'.heap.size := by omega); (try have x3 : w3.heap.size + 1 < w'.heap.size := by omega); (try have x4 : w4.heap.size + 1 < w'.heap.size := by omega); (try have x5 : w5.heap.size + 1 < w'.heap.size := by omega); (try have z10 : w1.heap.size < w'.heap.size + 1 := by omega); (try have z20 : w2.heap.size < w'.heap.size + 1 := by omega); (try have z30 : w3.heap.size < w'.heap.size + 1 := by omega); (try have z40 : w4.heap.size < w'.heap.size + 1 := by omega); (try have z50 : w5.heap.size < w'.heap.size + 1 := by omega)
  go_wp2
  go_ret
  exact ⟨rfl, by (repeat (first | (with_reducible exact Below.refl _ _) | (with_reducible refine Below.setCell ?_ (by (first | (simp; done) | (simp; omega) | omega)) _) | (with_reducible refine bl_alloc ?_ _) | (with_reducible refine bl_drewN ?_) | (with_reducible refine bl_drew ?_) | (with_reducible refine bl_step (by assumption) ?_)))⟩
end Go.Proofs.YtdhbeoahpfimbaaGreat
