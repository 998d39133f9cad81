/- What the functions of package parallax return for valid arguments. -/
import Derived.Test.YtcpghihgppgpmaaGreatPar3
namespace Go.Proofs.YtcpghihgppgpmaaGreat
open Go.RowKit

theorem sin_pos (c d : Int) (h0 : 0 ≤ c) (h1 : c ≤ d) (h2 : d ≤ 10800000) : 0 ≤ encLo c d ∧ encLo c d ≤ encHi c d ∧ encHi c d ≤ 1073741824 := by
  have x := enc_has c d c (by omega) h1
  have b := b_bd c
  have e := enc_bd c d
  have m : meetB c d 16200000 = false := by unfold meetB; simp; omega
  have p : ∀ n, 0 ≤ n → n ≤ 10800000 → 0 ≤ bLo n := fun n n0 n1 => by
    have r := redA_bd n
    have s := sinLo_bd (redA n) r.1 r.2
    unfold bLo
    rw [if_neg (by omega)]
    exact s.1
  have p1 := p c h0 (by omega)
  have p2 := p d (by omega) h2
  have l : encLo c d = min (bLo c) (bLo d) := by unfold encLo; rw [m]; rfl
  omega
theorem enc_le (c d : Int) (h1 : c ≤ d) : encLo c d ≤ encHi c d := by
  have x := enc_has c d c (by omega) h1
  have b := b_bd c
  omega
theorem enc_fix (c d : Int) (h1 : c ≤ d) : fixB (encLo c d) (encHi c d) = true := by
  have x := enc_le c d h1
  have e := enc_bd c d
  exact fixB_mk (by omega)
theorem smallB_t {a b : Int} (h : smallB a b = true) : 0 ≤ a ∧ a ≤ b ∧ b ≤ 120000 ∧ arcB a b = true := by
  unfold smallB at h
  simp at h
  have := arcB_t h.1
  exact ⟨h.2.1, this.1, h.2.2, h.1⟩
theorem smallB_mk {a b : Int} (h : 0 ≤ a ∧ a ≤ b ∧ b ≤ 120000) : smallB a b = true := by
  unfold smallB
  rw [arcB_mk (by omega)]
  simp
  omega
theorem altB_t {a b : Int} (h : altB a b = true) : -5400000 ≤ a ∧ a ≤ b ∧ b ≤ 5400000 := by
  unfold altB at h
  simp at h
  have := arcB_t h.1
  omega
theorem altB_mk {a b : Int} (h : -5400000 ≤ a ∧ a ≤ b ∧ b ≤ 5400000) : altB a b = true := by
  unfold altB
  rw [arcB_mk (by omega)]
  simp
  omega

theorem tm_is (a b f g : Int) (a0 : 0 ≤ a) (ab : a ≤ b) (f0 : 0 ≤ f) (fg : f ≤ g) : tmLo a b f g = f * a / 1073741824 ∧ tmHi a b f g = -(-(g * b) / 1073741824) := by
  have m1 : f * a ≤ g * a := Int.mul_le_mul_of_nonneg_right fg a0
  have m2 : f * a ≤ f * b := Int.mul_le_mul_of_nonneg_left ab f0
  have m3 : f * b ≤ g * b := Int.mul_le_mul_of_nonneg_right fg (by omega)
  have m4 : g * a ≤ g * b := Int.mul_le_mul_of_nonneg_left ab (by omega)
  unfold tmLo tmHi cLo cHi
  generalize f * a = fa at *
  generalize f * b = fb at *
  generalize g * a = ga at *
  generalize g * b = gb at *
  omega
/-- the products of a small arc and a part of one -/
theorem tm_bd (a b f g : Int) (a0 : 0 ≤ a) (ab : a ≤ b) (f0 : 0 ≤ f) (fg : f ≤ g) (g1 : g ≤ 1073741824) : 0 ≤ tmLo a b f g ∧ tmLo a b f g ≤ tmHi a b f g ∧ tmHi a b f g ≤ b := by
  have t := tm_is a b f g a0 ab f0 fg
  have m0 : 0 ≤ f * a := Int.mul_nonneg f0 a0
  have m1 : f * a ≤ g * b := Int.mul_le_mul fg ab a0 (by omega)
  have m2 : g * b ≤ 1073741824 * b := Int.mul_le_mul_of_nonneg_right g1 (by omega)
  rw [t.1, t.2]
  generalize f * a = fa at *
  generalize g * b = gb at *
  omega

def iaLo (a b c d : Int) : Int := tmLo a b (encLo (c + 5400000) (d + 5400000)) (encHi (c + 5400000) (d + 5400000))
def iaHi (a b c d : Int) : Int := tmHi a b (encLo (c + 5400000) (d + 5400000)) (encHi (c + 5400000) (d + 5400000))
theorem inalt_ok (a b c d : Int) (w : World) (h1 : smallB a b = true) (h2 : altB c d = true) :
    Calls Tryz.prog 5 #[.agg #[.int .i64 (a), .int .i64 (b)], .agg #[.int .i64 (c), .int .i64 (d)]] w fun e w' => e = .returned (.tuple #[.agg #[.int .i64 (iaLo a b c d), .int .i64 (iaHi a b c d)], .int .i64 (0)]) ∧ Below w.heap.size w w' := by
  obtain ⟨s1, s2, s3, s4⟩ := smallB_t h1
  obtain ⟨t1, t2, t3⟩ := altB_t h2
  exact inalt_walk a b c d _ _ _ _ w h1 h2 (hidden fun B w ok => pcos_any c d B w ok (arcV_mk (by omega))) (hidden fun B w ok => ptimes_any a b _ _ B w ok (enc_fix _ _ (by omega)) (reachB_mk (by omega)) (reachB_mk (by omega)))

/-- the square of a sine -/
def sqA (c d : Int) : Int := fl (sqLo (encLo c d) (encHi c d)) 1073741824
def sqZ (c d : Int) : Int := ce (max (encLo c d * encLo c d) (encHi c d * encHi c d)) 1073741824
theorem sq_bd2 (x : Int) (h0 : -1073741824 ≤ x) (h1 : x ≤ 1073741824) : 0 ≤ x * x ∧ x * x ≤ 1152921504606846976 := by
  have h := prod_bd x x (by omega) (by omega) (by omega) (by omega)
  have e : ((x.natAbs * x.natAbs : Nat) : Int) = x * x := Int.natAbs_mul_self
  have f : x.natAbs * x.natAbs ≤ 1073741824 * 1073741824 := Nat.mul_le_mul (by omega) (by omega)
  omega
theorem sq_is (c d : Int) (h : c ≤ d) : 0 ≤ sqA c d ∧ sqA c d ≤ sqZ c d ∧ sqZ c d ≤ 1073741824 := by
  have e := enc_bd c d
  have l := enc_le c d h
  have p := sq_bd2 (encLo c d) (by omega) (by omega)
  have q := sq_bd2 (encHi c d) (by omega) (by omega)
  unfold sqA sqZ sqLo
  rw [fl_30, ce_30]
  split <;> omega
theorem square_is (c d : Int) (w : World) (h : c ≤ d) :
    Calls Tryz.prog 26 #[.agg #[.int .i64 (encLo c d), .int .i64 (encHi c d)]] w fun e w' => e = .returned (.tuple #[.agg #[.int .i64 (sqA c d), .int .i64 (sqZ c d)], .int .i64 (0)]) ∧ Below w.heap.size w w' := by
  have s := sq_is c d h
  have q := square_any (encLo c d) (encHi c d) w (enc_fix c d h)
  rw [fitF_ok (fixB_mk (by unfold sqA sqZ at s; omega))] at q
  exact q
theorem atimes_ok (a b : Int) (w : World) (a0 : 0 ≤ a) (ab : a ≤ b) (b1 : b ≤ 120000) :
    Calls Tryz.prog 27 #[.agg #[.int .i64 (a), .int .i64 (b)], .int .i64 1000, .int .i64 298257] w fun e w' => e = .returned (.tuple #[.agg #[.int .i64 (a * 1000 / 298257), .int .i64 (-(-(b * 1000) / 298257))], .int .i64 (0)]) ∧ Below w.heap.size w w' :=
  atimes_walk a b _ _ _ _ w (arcB_mk (by omega)) a0 (by omega) rfl rfl (by omega) (by omega) (by omega) (hidden fun w => afloor_any _ w (by omega) (by omega)) (hidden fun w => afloor_any _ w (by omega) (by omega)) (by omega) (by omega) (by omega) (by omega)
    (hidden fun w => result_ok _ _ w (fitsB_mk (by omega)) (fitsB_mk (by omega)))
def obLo (a b c d : Int) : Int := a - -(-(tmHi a b (sqA c d) (sqZ c d) * 1000) / 298257)
def obHi (a b c d : Int) : Int := b - tmLo a b (sqA c d) (sqZ c d) * 1000 / 298257
theorem oblate_ok (a b c d : Int) (w : World) (h1 : smallB a b = true) (h2 : altB c d = true) :
    Calls Tryz.prog 7 #[.agg #[.int .i64 (a), .int .i64 (b)], .agg #[.int .i64 (c), .int .i64 (d)]] w fun e w' => e = .returned (.tuple #[.agg #[.int .i64 (obLo a b c d), .int .i64 (obHi a b c d)], .int .i64 (0)]) ∧ Below w.heap.size w w' := by
  obtain ⟨s1, s2, s3, s4⟩ := smallB_t h1
  obtain ⟨t1, t2, t3⟩ := altB_t h2
  have q := sq_is c d (by omega)
  have t := tm_bd a b (sqA c d) (sqZ c d) s1 s2 q.1 q.2.1 q.2.2
  exact oblate_walk a b c d _ _ _ _ _ _ _ _ _ _ w h1 h2 (hidden fun B w ok => psin_any c d B w ok (arcV_mk (by omega))) (hidden fun w => square_is c d w (by omega))
    (hidden fun B w ok => ptimes_any a b _ _ B w ok (fixB_mk (by omega)) (reachB_mk (by omega)) (reachB_mk (by omega))) (hidden fun w => atimes_ok _ _ w t.1 t.2.1 (by omega))
    (hidden fun B w ok => psub_any a b _ _ B w ok s4 (arcB_mk (by omega)) (fitsB_mk (by omega)) (fitsB_mk (by omega)))

/-- the product of two sines, and its part from 0 to 1 -/
def muA (c d p q : Int) : Int := fl (min (encLo c d * encLo p q) (min (encLo c d * encHi p q) (min (encHi c d * encLo p q) (encHi c d * encHi p q)))) 1073741824
def muZ (c d p q : Int) : Int := ce (max (encLo c d * encLo p q) (max (encLo c d * encHi p q) (max (encHi c d * encLo p q) (encHi c d * encHi p q)))) 1073741824
theorem one_bd (x y : Int) (x0 : -1073741824 ≤ x) (x1 : x ≤ 1073741824) (y0 : -1073741824 ≤ y) (y1 : y ≤ 1073741824) : -1152921504606846976 ≤ x * y ∧ x * y ≤ 1152921504606846976 := by
  have h := mul_bd (x := x) (y := y) (X := 1073741824) (Y := 1073741824) ⟨by omega, by omega⟩ ⟨by omega, by omega⟩
  omega
theorem mu_bd (c d p q : Int) : -1073741824 ≤ muA c d p q ∧ muA c d p q ≤ muZ c d p q ∧ muZ c d p q ≤ 1073741824 := by
  have e := enc_bd c d
  have f := enc_bd p q
  have h1 := one_bd (encLo c d) (encLo p q) (by omega) (by omega) (by omega) (by omega)
  have h2 := one_bd (encLo c d) (encHi p q) (by omega) (by omega) (by omega) (by omega)
  have h3 := one_bd (encHi c d) (encLo p q) (by omega) (by omega) (by omega) (by omega)
  have h4 := one_bd (encHi c d) (encHi p q) (by omega) (by omega) (by omega) (by omega)
  unfold muA muZ
  rw [fl_30, ce_30]
  omega
theorem mul_is (c d p q : Int) (w : World) (h1 : c ≤ d) (h2 : p ≤ q) :
    Calls Tryz.prog 21 #[.agg #[.int .i64 (encLo c d), .int .i64 (encHi c d)], .agg #[.int .i64 (encLo p q), .int .i64 (encHi p q)]] w fun e w' => e = .returned (.tuple #[.agg #[.int .i64 (muA c d p q), .int .i64 (muZ c d p q)], .int .i64 (0)]) ∧ Below w.heap.size w w' := by
  have s := mu_bd c d p q
  have m := mul_any (encLo c d) (encHi c d) (encLo p q) (encHi p q) w (enc_fix c d h1) (enc_fix p q h2)
  rw [fitF_ok (fixB_mk (by unfold muA muZ at s; omega))] at m
  exact m
def auLo (a b c d p q : Int) : Int := a + tmLo a b (p01 (muA c d p q)) (p01 (muZ c d p q))
def auHi (a b c d p q : Int) : Int := b + tmHi a b (p01 (muA c d p q)) (p01 (muZ c d p q))
theorem p01_bd (x y : Int) (h : x ≤ y) : 0 ≤ p01 x ∧ p01 x ≤ p01 y ∧ p01 y ≤ 1073741824 := by unfold p01; omega
theorem augmented_ok (a b c d p q : Int) (w : World) (h1 : smallB a b = true) (h2 : smallB c d = true) (h3 : altB p q = true) :
    Calls Tryz.prog 6 #[.agg #[.int .i64 (a), .int .i64 (b)], .agg #[.int .i64 (c), .int .i64 (d)], .agg #[.int .i64 (p), .int .i64 (q)]] w fun e w' => e = .returned (.tuple #[.agg #[.int .i64 (auLo a b c d p q), .int .i64 (auHi a b c d p q)], .int .i64 (0)]) ∧ Below w.heap.size w w' := by
  obtain ⟨s1, s2, s3, s4⟩ := smallB_t h1
  obtain ⟨u1, u2, u3, u4⟩ := smallB_t h2
  obtain ⟨t1, t2, t3⟩ := altB_t h3
  have k := p01_bd _ _ (mu_bd c d p q).2.1
  have t := tm_bd a b _ _ s1 s2 k.1 k.2.1 k.2.2
  exact augmented_walk a b c d p q _ _ _ _ _ _ _ _ _ _ w h1 h2 h3 (hidden fun B w ok => psin_any c d B w ok (arcV_mk (by omega))) (hidden fun B w ok => psin_any p q B w ok (arcV_mk (by omega))) (hidden fun w => mul_is c d p q w u2 t2)
    (hidden fun B w ok => ptimes_any a b _ _ B w ok (fixB_mk (by omega)) (reachB_mk (by omega)) (reachB_mk (by omega))) (hidden fun B w ok => padd_any a b _ _ B w ok s4 (arcB_mk (by omega)) (fitsB_mk (by omega)) (fitsB_mk (by omega)))

/-- the sine of a small arc -/
theorem sin_small (a b : Int) (h0 : 1 ≤ a) (h1 : a ≤ b) (h2 : b ≤ 120000) : encLo a b = bLo a ∧ encHi a b = bHi b ∧ 312 ≤ bLo a ∧ bLo a ≤ bHi a ∧ bHi a ≤ bHi b ∧ bHi b ≤ 37473100 := by
  have m1 : meetB a b 16200000 = false := by unfold meetB; simp; omega
  have m2 : meetB a b 5400000 = false := by unfold meetB; simp; omega
  have u1 := b_up (-5400000) a b (by omega) (by omega) h1 (by omega)
  have u2 := b_up (-5400000) 1 a (by omega) (by omega) h0 (by omega)
  have u3 := b_up (-5400000) b 120000 (by omega) (by omega) h2 (by omega)
  have v1 : bLo 1 = 312 := by kernel_rfl
  have v2 : bHi 120000 ≤ 37473100 := by decide +kernel
  have b1 := b_bd a
  unfold encLo encHi
  rw [m1, m2]
  simp only [Bool.false_eq_true, if_false]
  omega
theorem div_turns (f g : Int) (f0 : 0 < f) (fg : f ≤ g) : 10737418240 / g ≤ 10737418240 / f ∧ -10737418240 / f ≤ -10737418240 / g ∧ 0 ≤ 10737418240 / g ∧ 10737418240 / f ≤ 10737418240 ∧ -10737418240 ≤ -10737418240 / f ∧ -10737418240 / g ≤ 0 := by
  have a1 := Int.mul_ediv_self_le (x := 10737418240) (k := g) (by omega)
  have a2 := Int.mul_ediv_self_le (x := -10737418240) (k := f) (by omega)
  have p0 : 0 ≤ 10737418240 / g := Int.ediv_nonneg (by decide) (by omega)
  have p1 : -10737418240 / f ≤ 0 := by
    apply Int.le_of_mul_le_mul_left _ f0
    omega
  have p2 : -10737418240 / g ≤ 0 := by
    have := Int.mul_ediv_self_le (x := -10737418240) (k := g) (by omega)
    apply Int.le_of_mul_le_mul_left _ (show 0 < g by omega)
    omega
  have p3 := Int.ediv_le_self (a := 10737418240) f (by decide)
  refine ⟨?_, ?_, p0, p3, ?_, p2⟩
  · apply Int.le_ediv_of_mul_le f0
    have := Int.mul_le_mul_of_nonneg_left fg p0
    rw [Int.mul_comm g] at a1
    omega
  · apply Int.le_ediv_of_mul_le (by omega)
    have := Int.mul_le_mul_of_nonpos_left p1 fg
    rw [Int.mul_comm f] at a2
    omega
  · apply Int.le_ediv_of_mul_le f0
    have := Int.mul_le_mul_of_nonpos_left (show (-10737418240 : Int) ≤ 0 by decide) (show 1 ≤ f by omega)
    omega
def diLo (a b : Int) : Int := 10737418240 / encHi a b
def diHi (a b : Int) : Int := -(-10737418240 / encLo a b)
theorem distance_ok (a b : Int) (w : World) (h1 : smallB a b = true) (h2 : 1 ≤ a) :
    Calls Tryz.prog 14 #[.agg #[.int .i64 (a), .int .i64 (b)]] w fun e w' => e = .returned (.tuple #[.int .i64 (diLo a b), .int .i64 (diHi a b), .int .i64 0]) ∧ Below w.heap.size w w' := by
  obtain ⟨s1, s2, s3, s4⟩ := smallB_t h1
  have s := sin_small a b h2 s2 s3
  refine distance_walk a b _ _ _ _ w h1 (by simp; omega) (hidden fun B w ok => psin_any a b B w ok (arcV_mk (by omega))) (hidden fun w => ?_)
  have q := quot_any 1073741824 1073741824 (encLo a b) (encHi a b) 10 w (by decide) (enc_fix a b s2) (reachB_mk (by omega)) (zeroB_not (by omega))
  have k := q_pos 1073741824 1073741824 (encLo a b) (encHi a b) 10 (enc_le a b s2) (by omega)
  rw [k.1, k.2] at q
  have le := enc_le a b s2
  have d := div_turns (encLo a b) (encHi a b) (by omega) le
  have l1 : cLo 1073741824 1073741824 (encLo a b) (encHi a b) 10 = diLo a b := by unfold cLo diLo; rw [show (1073741824 : Int) * 10 = 10737418240 from rfl]; omega
  have l2 : cHi 1073741824 1073741824 (encLo a b) (encHi a b) 10 = diHi a b := by unfold cHi diHi; rw [show (1073741824 : Int) * 10 = 10737418240 from rfl]; omega
  rw [l1, l2, quoV_ok (reachB_mk (by unfold diLo; omega)) (reachB_mk (by unfold diHi; omega))] at q
  exact q

end Go.Proofs.YtcpghihgppgpmaaGreat
