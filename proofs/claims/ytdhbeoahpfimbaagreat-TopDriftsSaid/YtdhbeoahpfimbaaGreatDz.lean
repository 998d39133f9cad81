/- Several small texts in one: XDrP, XDrj. -/
import Derived.Test.YtdhbeoahpfimbaaGreatCur
import Derived.Test.YtdhbeoahpfimbaaGreatDri
import Derived.Test.YtdhbeoahpfimbaaGreatLeg
import Derived.Test.YtdhbeoahpfimbaaGreatMg
namespace Go.Proofs.YtdhbeoahpfimbaaGreat
open Go.RowKit Brg Spd
theorem fl_mul {n m : Int} (hm : 0 < m) : fl n m * m ≤ n := by rw [fl_pos' hm]; exact Int.ediv_mul_le n (by omega)
theorem ce_mul {n m : Int} (hm : 0 < m) : n ≤ ce n m * m := by
  unfold ce
  have := fl_mul (n := -n) hm
  rw [Int.neg_mul]; omega
theorem fl_bd {n m k : Int} (hm : 0 < m) (h : -(k * m) ≤ n) : -k ≤ fl n m := by
  rw [fl_pos' hm]
  rw [Int.le_ediv_iff_mul_le hm, Int.neg_mul]; exact h
theorem ce_bd {n m k : Int} (hm : 0 < m) (h : n ≤ k * m) : ce n m ≤ k := by
  unfold ce
  have := fl_bd (n := -n) (k := k) hm (by omega)
  omega
theorem fl_lece {n k m : Int} (hm : 0 < m) (h : n ≤ k) : fl n m ≤ ce k m := by
  have a := fl_mul (n := n) hm
  have b := ce_mul (n := k) hm
  exact Int.le_of_mul_le_mul_right (a := m) (by omega) hm
/-- the directions of a box and of its image agree -/
theorem dir_same {nl nh el eh m : Int} (hn : nl ≤ nh) (he : el ≤ eh) (hm : 0 < m) :
    agreeB (brgLo (fl (el * 1073741824) m) (ce (eh * 1073741824) m) (fl (nl * 1073741824) m) (ce (nh * 1073741824) m)) (brgHi (fl (el * 1073741824) m) (ce (eh * 1073741824) m) (fl (nl * 1073741824) m) (ce (nh * 1073741824) m))
      (brgLo (4096 * el) (4096 * eh) (4096 * nl) (4096 * nh)) (brgHi (4096 * el) (4096 * eh) (4096 * nl) (4096 * nh)) = true := by
  have a1 := fl_mul (n := nl * 1073741824) hm
  have a2 := ce_mul (n := nh * 1073741824) hm
  have a3 := fl_mul (n := el * 1073741824) hm
  have a4 := ce_mul (n := eh * 1073741824) hm
  have b1 := fl_lece (n := nl * 1073741824) (k := nh * 1073741824) hm (by omega)
  have b2 := fl_lece (n := el * 1073741824) (k := eh * 1073741824) hm (by omega)
  generalize fl (nl * 1073741824) m = xl at *
  generalize ce (nh * 1073741824) m = xh at *
  generalize fl (el * 1073741824) m = yl at *
  generalize ce (eh * 1073741824) m = yh at *
  rw [Int.mul_comm xl m] at a1
  rw [Int.mul_comm xh m] at a2
  rw [Int.mul_comm yl m] at a3
  rw [Int.mul_comm yh m] at a4
  have key : (brgLo (4096 * el) (4096 * eh) (4096 * nl) (4096 * nh) - brgLo yl yh xl xh) % 21600000 ≤ brgHi yl yh xl xh - brgLo yl yh xl xh ∨ (brgLo yl yh xl xh - brgLo (4096 * el) (4096 * eh) (4096 * nl) (4096 * nh)) % 21600000 ≤ brgHi (4096 * el) (4096 * eh) (4096 * nl) (4096 * nh) - brgLo (4096 * el) (4096 * eh) (4096 * nl) (4096 * nh) := by
    cases h1 : origB xl xh yl yh
    · cases h2 : origB (4096 * nl) (4096 * nh) (4096 * el) (4096 * eh)
      · refine agree_of (D := ang cK sK nl el) (brg_has (s := m) (t := 1073741824) b1 b2 h1 hm (by decide) ?_ ?_ ?_ ?_) (brg_has (s := 1) (t := 4096) (by omega) (by omega) h2 (by decide) (by decide) ?_ ?_ ?_ ?_)
        · omega
        · omega
        · omega
        · omega
        · omega
        · omega
        · omega
        · omega
      · right
        rw [brgLo_yes h2, brgHi_yes h2]
        omega
    · left
      rw [brgLo_yes h1, brgHi_yes h1]
      omega
  unfold agreeB
  rcases key with k | k
  · rw [decide_eq_true k]; rfl
  · rw [decide_eq_true k, Bool.or_true]
theorem zB_zeroB (a b : Int) : zB a b = zeroB a b := rfl
theorem up_sq {n r : Int} (h : isRoot n r) : n ≤ upRoot n r * upRoot n r := by
  unfold upRoot
  split
  · have := h.2.2; omega
  · omega
theorem up_nn {n r : Int} (h : isRoot n r) : 0 ≤ upRoot n r := by
  have := h.1
  unfold upRoot
  split <;> omega
theorem up_le {n r : Int} : upRoot n r ≤ r + 1 := by
  unfold upRoot
  split <;> omega
/-- the lengths of a box and of its image meet -/
theorem len_same {nl nh el eh m s1 t1 s2 t2 r s p q lo hi : Int} (hn : nl ≤ nh) (he : el ≤ eh) (hm : 0 < m)
    (e1 : s1 = fl (sqLo (fl (nl * 1073741824) m) (ce (nh * 1073741824) m)) 1073741824) (e2 : t1 = ce (max (fl (nl * 1073741824) m * fl (nl * 1073741824) m) (ce (nh * 1073741824) m * ce (nh * 1073741824) m)) 1073741824)
    (e3 : s2 = fl (sqLo (fl (el * 1073741824) m) (ce (eh * 1073741824) m)) 1073741824) (e4 : t2 = ce (max (fl (el * 1073741824) m * fl (el * 1073741824) m) (ce (eh * 1073741824) m * ce (eh * 1073741824) m)) 1073741824)
    (hr : isRoot ((s1 + s2) * 1073741824) r) (hs : isRoot ((t1 + t2) * 1073741824) s)
    (hlo : lo * 1073741824 ≤ r * m) (hlo0 : 0 ≤ lo) (hhi : upRoot ((t1 + t2) * 1073741824) s * m ≤ hi * 1073741824) (hhi0 : 0 ≤ hi)
    (hp : isRoot (leastA nl nh * leastA nl nh + leastA el eh * leastA el eh) p) (hq : isRoot (mostA nl nh * mostA nl nh + mostA el eh * mostA el eh) q) :
    lo ≤ upRoot (mostA nl nh * mostA nl nh + mostA el eh * mostA el eh) q ∧ p ≤ hi := by
  have a1 := fl_mul (n := nl * 1073741824) hm
  have a2 := ce_mul (n := nh * 1073741824) hm
  have a3 := fl_mul (n := el * 1073741824) hm
  have a4 := ce_mul (n := eh * 1073741824) hm
  generalize fl (nl * 1073741824) m = xl at *
  generalize ce (nh * 1073741824) m = xh at *
  generalize fl (el * 1073741824) m = yl at *
  generalize ce (eh * 1073741824) m = yh at *
  have c1 : xl * m ≤ nl * 1073741824 := a1
  have c2 : nl * 1073741824 ≤ xh * m := by omega
  have c3 : yl * m ≤ el * 1073741824 := a3
  have c4 : el * 1073741824 ≤ yh * m := by omega
  have L1 := least_sq hm c1 c2
  have L2 := least_sq hm c3 c4
  have M1 := most_sq hm c1 c2
  have M2 := most_sq hm c3 c4
  rw [zB_zeroB] at L1 L2
  have f1 := fl_mul (n := sqLo xl xh) (m := 1073741824) (by decide)
  have f2 := fl_mul (n := sqLo yl yh) (m := 1073741824) (by decide)
  have g1 := ce_mul (n := max (xl * xl) (xh * xh)) (m := 1073741824) (by decide)
  have g2 := ce_mul (n := max (yl * yl) (yh * yh)) (m := 1073741824) (by decide)
  rw [← e1] at f1
  rw [← e3] at f2
  rw [← e2] at g1
  rw [← e4] at g2
  have low := low_len (a := nl) (b := el) (m := m) (U := 1073741824) (lo := lo) (r := r) (q1 := s1) (q2 := s2) (by decide) hm hlo0 hlo hr.2.1 f1 f2 L1 L2
  have high := high_len (a := nl) (b := el) (m := m) (U := 1073741824) (hi := hi) (r := upRoot ((t1 + t2) * 1073741824) s) (q1 := t1) (q2 := t2) (by decide) hm (up_nn hs) hhi (up_sq hs) g1 g2 M1 M2
  have n1 := leastA_sq (a := nl) (b := nh) (x := nl) (by omega) hn
  have n2 := leastA_sq (a := el) (b := eh) (x := el) (by omega) he
  have m1 := mostA_sq (a := nl) (b := nh) (x := nl) (by omega) hn
  have m2 := mostA_sq (a := el) (b := eh) (x := el) (by omega) he
  have u := up_sq hq
  constructor
  · exact le_of_sq (up_nn hq) (by omega)
  · exact le_of_sq hhi0 (by have := hp.2.1; omega)
theorem root_ex (n : Int) (h : 0 ≤ n) : ∃ r, isRoot n r := by
  obtain ⟨r, a, b, c⟩ := iroot_ex n h
  exact ⟨r, a, b, c⟩
theorem enc_ord (a b : Int) : encLo a b ≤ encHi a b := by
  have x := b_bd a
  unfold encLo encHi
  repeat' split
  all_goals omega
theorem enc_fix (a b : Int) : fixB (encLo a b) (encHi a b) = true := by
  have x := enc_ord a b
  have y := enc_bd a b
  exact fixB_mk (by omega)
theorem arc_trig {a b : Int} (h : arcB a b = true) : arcV a b = true := by
  have := arcB_t h
  exact arcV_mk (by omega)
/-- the parts of a size in a direction -/
def nLo (a b c d : Int) : Int := tmLo c d (encLo (a + 5400000) (b + 5400000)) (encHi (a + 5400000) (b + 5400000))
def nHi (a b c d : Int) : Int := tmHi c d (encLo (a + 5400000) (b + 5400000)) (encHi (a + 5400000) (b + 5400000))
def eLo (a b c d : Int) : Int := tmLo c d (encLo a b) (encHi a b)
def eHi (a b c d : Int) : Int := tmHi c d (encLo a b) (encHi a b)
theorem part_bd {a b c d : Int} (h : wiB 0 200000 c d = true) : -200000 ≤ nLo a b c d ∧ nLo a b c d ≤ nHi a b c d ∧ nHi a b c d ≤ 200000 ∧ -200000 ≤ eLo a b c d ∧ eLo a b c d ≤ eHi a b c d ∧ eHi a b c d ≤ 200000 := by
  obtain ⟨h1, h2, h3⟩ := wiB_t h
  have x := enc_bd a b
  have y := enc_bd (a + 5400000) (b + 5400000)
  have p := tm_bd h2 h1 h3 x.1 x.2.1 x.2.2.1 x.2.2.2
  have q := tm_bd h2 h1 h3 y.1 y.2.1 y.2.2.1 y.2.2.2
  have r := tm_le c d (encLo a b) (encHi a b)
  have s := tm_le c d (encLo (a + 5400000) (b + 5400000)) (encHi (a + 5400000) (b + 5400000))
  unfold nLo nHi eLo eHi
  omega
theorem reach_of {c d : Int} (h : wiB 0 200000 c d = true) : reachB c = true ∧ reachB d = true := by
  obtain ⟨h1, h2, h3⟩ := wiB_t h
  exact ⟨reachB_mk (by omega), reachB_mk (by omega)⟩
theorem parts_ok (a b c d : Int) (w : World) (h1 : arcB a b = true) (h2 : wiB 0 200000 c d = true) :
    Calls Tryz.prog 120 #[.agg #[.int .i64 a, .int .i64 b], .agg #[.int .i64 c, .int .i64 d]] w fun e w' => e = .returned (.tuple #[.agg #[.int .i64 (nLo a b c d), .int .i64 (nHi a b c d)], .agg #[.int .i64 (eLo a b c d), .int .i64 (eHi a b c d)], .int .i64 0]) ∧ Below w.heap.size w w' := by
  have r := reach_of h2
  exact cparts_walk a b c d _ _ _ _ _ _ _ _ w (hidden fun w => cos_ok a b w (arc_trig h1)) (hidden fun w => sin_ok a b w (arc_trig h1)) (hidden fun w => cprod_any c d _ _ w (enc_fix _ _) r.1 r.2) (hidden fun w => cprod_any c d _ _ w (enc_fix _ _) r.1 r.2)
theorem mval_ok {a b c d : Int} (w : World) (h1 : arcB a b = true) (h2 : wiB 0 200000 c d = true) :
    Calls Tryz.prog 43 #[.agg #[.int .i64 a, .int .i64 b, .int .i64 c, .int .i64 d]] w fun e w' => e = .returned (.bool true) ∧ Below w.heap.size w w' := by
  obtain ⟨t1, t2, t3⟩ := wiB_t h2
  have h := mvalid_any a b c d w
  rw [h1, arcB_mk (by omega : c ≤ d ∧ -1099511627776 ≤ c ∧ d ≤ 1099511627776), decide_eq_true t2] at h
  exact h
theorem plane_ok (a b c d : Int) (w : World) (h1 : arcB a b = true) (h2 : wiB 0 200000 c d = true) :
    Calls Tryz.prog 44 #[.agg #[.int .i64 a, .int .i64 b, .int .i64 c, .int .i64 d]] w fun e w' => e = .returned (.tuple #[.agg #[.int .i64 (nLo a b c d), .int .i64 (nHi a b c d)], .agg #[.int .i64 (eLo a b c d), .int .i64 (eHi a b c d)], .int .i64 0]) ∧ Below w.heap.size w w' := by
  obtain ⟨t1, t2, t3⟩ := wiB_t h2
  have x := enc_bd a b
  have y := enc_bd (a + 5400000) (b + 5400000)
  exact plane_walk a b c d _ _ _ _ _ _ _ _ w (hidden fun w => mval_ok w h1 h2) (hidden fun w => cos_ok a b w (arc_trig h1)) (hidden fun w => sin_ok a b w (arc_trig h1)) (hidden fun w => mprod_any _ _ c d 200000 w (enc_fix _ _) y.1 y.2.2.2 t2 t1 t3 (by decide)) (hidden fun w => mprod_any _ _ c d 200000 w (enc_fix _ _) x.1 x.2.2.2 t2 t1 t3 (by decide))
theorem add_is (a b c d e f : Int) (w : World) (h1 : arcB a b = true) (h2 : arcB c d = true) (he : a + c = e) (hf : b + d = f) (h : arcB e f = true) :
    Calls Tryz.prog 42 #[.agg #[.int .i64 a, .int .i64 b], .agg #[.int .i64 c, .int .i64 d]] w fun e' w' => e' = .returned (.tuple #[.agg #[.int .i64 e, .int .i64 f], .int .i64 0]) ∧ Below w.heap.size w w' := by
  have t := arcB_t h
  have := add_ok a b c d w h1 h2 (by simp [fitsB]; omega) (by simp [fitsB]; omega)
  rw [he, hf] at this
  exact this
theorem mul_le_of_abs {n m : Int} (_hm : 0 < m) (h1 : -m ≤ n) (h2 : n ≤ m) : -(1073741824 * m) ≤ n * 1073741824 ∧ n * 1073741824 ≤ 1073741824 * m := by omega
theorem make_is (n m : Int) (w : World) (hm : 0 < m) (m1 : m ≤ 400000) (h1 : -m ≤ n) (h2 : n ≤ m) :
    Calls Tryz.prog 128 #[.int .i64 n, .int .i64 m] w fun e w' => e = .returned (.tuple #[.agg #[.int .i64 (fl (n * 1073741824) m), .int .i64 (ce (n * 1073741824) m)], .int .i64 0]) ∧ Below w.heap.size w w' := by
  have b := mul_le_of_abs hm h1 h2
  have h := make_any n m w (by omega) (by omega) (by omega) (by omega) (by omega)
  rw [fitF_ok] at h
  · exact h
  · have x1 := fl_bd (n := n * 1073741824) (k := 1073741824) hm b.1
    have x2 := ce_bd (n := n * 1073741824) (k := 1073741824) hm b.2
    have x3 := fl_lece (n := n * 1073741824) (k := n * 1073741824) hm (by omega)
    exact fixB_mk (by omega)
theorem sq_bds {x y : Int} (h0 : -1073741824 ≤ x) (hxy : x ≤ y) (h1 : y ≤ 1073741824) : 0 ≤ sqLo x y ∧ sqLo x y ≤ max (x * x) (y * y) ∧ max (x * x) (y * y) ≤ 1152921504606846976 := by
  have a := Spd.sq_abs (x := x) (y := 1073741824) h0 (by omega)
  have b := Spd.sq_abs (x := y) (y := 1073741824) (by omega) h1
  have c := Spd.sq_nn x
  have d := Spd.sq_nn y
  unfold sqLo
  split <;> omega
theorem square_is (x y : Int) (w : World) (h0 : -1073741824 ≤ x) (hxy : x ≤ y) (h1 : y ≤ 1073741824) :
    Calls Tryz.prog 48 #[.agg #[.int .i64 x, .int .i64 y]] w fun e w' => e = .returned (.tuple #[.agg #[.int .i64 (fl (sqLo x y) 1073741824), .int .i64 (ce (max (x * x) (y * y)) 1073741824)], .int .i64 0]) ∧ Below w.heap.size w w' := by
  have h := square_any x y w (fixB_mk (by omega))
  have b := sq_bds h0 hxy h1
  rw [fitF_ok] at h
  · exact h
  · have x1 := fl_bd (n := sqLo x y) (m := 1073741824) (k := 0) (by decide) (by omega)
    have x2 := ce_bd (n := max (x * x) (y * y)) (m := 1073741824) (k := 1073741824) (by decide) (by omega)
    have x3 := fl_lece (n := sqLo x y) (k := max (x * x) (y * y)) (m := 1073741824) (by decide) (by omega)
    exact fixB_mk (by omega)
theorem scl_lo {f g m : Int} (hm : 0 ≤ m) (f0 : 0 ≤ f) (fg : f ≤ g) : 0 ≤ cLo f g 1073741824 1073741824 m ∧ cLo f g 1073741824 1073741824 m * 1073741824 ≤ f * m := by
  have a := Int.mul_nonneg f0 hm
  have b : f * m ≤ g * m := Int.mul_le_mul_of_nonneg_right fg hm
  unfold cLo
  generalize f * m = X at *
  generalize g * m = Y at *
  omega
theorem scl_hi {f g m : Int} (hm : 0 ≤ m) (f0 : 0 ≤ f) (fg : f ≤ g) : g * m ≤ cHi f g 1073741824 1073741824 m * 1073741824 ∧ cHi f g 1073741824 1073741824 m * 1073741824 ≤ g * m + 1073741823 := by
  have a := Int.mul_nonneg f0 hm
  have b : f * m ≤ g * m := Int.mul_le_mul_of_nonneg_right fg hm
  unfold cHi
  generalize f * m = X at *
  generalize g * m = Y at *
  omega
theorem root_mono {n m r s : Int} (h : n ≤ m) (hr : isRoot n r) (hs : isRoot m s) : r ≤ upRoot m s := by
  have a := isRoot_le h hr hs
  unfold upRoot
  split <;> omega
set_option maxRecDepth 10000 in
/-- the leg of components, and the motion that they make -/
theorem leg_all (nl nh el eh p q : Int) (hn : nl ≤ nh) (he : el ≤ eh) (n0 : -400000 ≤ nl) (n1 : nh ≤ 400000) (e0 : -400000 ≤ el) (e1 : eh ≤ 400000)
    (hp : isRoot (Spd.leastA nl nh * Spd.leastA nl nh + Spd.leastA el eh * Spd.leastA el eh) p) (hq : isRoot (Spd.mostA nl nh * Spd.mostA nl nh + Spd.mostA el eh * Spd.mostA el eh) q) :
    ∃ P Q lo hi : Int, (∀ w, Calls Tryz.prog 11 #[.agg #[.int .i64 nl, .int .i64 nh], .agg #[.int .i64 el, .int .i64 eh]] w fun e w' => e = .returned (.tuple #[.agg #[.int .i64 P, .int .i64 Q, .int .i64 lo, .int .i64 hi], .int .i64 0]) ∧ Below w.heap.size w w') ∧ arcB P Q = true ∧
      agreeB P Q (brgLo (4096 * el) (4096 * eh) (4096 * nl) (4096 * nh)) (brgHi (4096 * el) (4096 * eh) (4096 * nl) (4096 * nh)) = true ∧ arcB lo hi = true ∧ lo ≤ upRoot (Spd.mostA nl nh * Spd.mostA nl nh + Spd.mostA el eh * Spd.mostA el eh) q ∧ p ≤ hi := by
  obtain ⟨m, hm⟩ : ∃ m, max nh (max (-nl) (max eh (-el))) = m := ⟨_, rfl⟩
  by_cases m0 : m = 0
  · have z1 : nl = 0 := by omega
    have z2 : nh = 0 := by omega
    have z3 : el = 0 := by omega
    have z4 : eh = 0 := by omega
    subst z1 z2 z3 z4
    refine ⟨0, 21600000, 0, 0, fun w => leg_zero 0 0 0 0 w (by decide) (by decide) (by decide), by decide, ?_, by decide, up_nn hq, ?_⟩
    · unfold agreeB
      rw [Bool.or_eq_true, decide_eq_true_eq, decide_eq_true_eq]
      left; omega
    · have h := hp.2.1
      have z : Spd.leastA 0 0 = 0 := by decide
      rw [z] at h
      rcases Int.lt_or_le 0 p with k | k
      · have := Int.mul_pos k k; omega
      · exact k
  · have mp : 0 < m := by omega
    have m4 : m ≤ 400000 := by omega
    have b1 := mul_le_of_abs (n := nl) mp (by omega) (by omega)
    have b2 := mul_le_of_abs (n := nh) mp (by omega) (by omega)
    have b3 := mul_le_of_abs (n := el) mp (by omega) (by omega)
    have b4 := mul_le_of_abs (n := eh) mp (by omega) (by omega)
    have x1 := fl_bd (n := nl * 1073741824) (k := 1073741824) mp b1.1
    have x2 := ce_bd (n := nh * 1073741824) (k := 1073741824) mp b2.2
    have x3 := fl_lece (n := nl * 1073741824) (k := nh * 1073741824) mp (by omega)
    have y1 := fl_bd (n := el * 1073741824) (k := 1073741824) mp b3.1
    have y2 := ce_bd (n := eh * 1073741824) (k := 1073741824) mp b4.2
    have y3 := fl_lece (n := el * 1073741824) (k := eh * 1073741824) mp (by omega)
    have dir := dir_same hn he mp
    have R1 : Hid (∀ w, Calls Tryz.prog 46 #[.agg #[.int .i64 nl, .int .i64 nh], .int .i64 m] w fun e w' => e = .returned (.agg #[.int .i64 (fl (nl * 1073741824) m), .int .i64 (ce (nh * 1073741824) m)]) ∧ Below w.heap.size w w') := hidden fun w => ratio_walk nl nh m _ _ _ _ w (hidden fun w => make_is nl m w mp m4 (by omega) (by omega)) (hidden fun w => make_is nh m w mp m4 (by omega) (by omega))
    have R2 : Hid (∀ w, Calls Tryz.prog 46 #[.agg #[.int .i64 el, .int .i64 eh], .int .i64 m] w fun e w' => e = .returned (.agg #[.int .i64 (fl (el * 1073741824) m), .int .i64 (ce (eh * 1073741824) m)]) ∧ Below w.heap.size w w') := hidden fun w => ratio_walk el eh m _ _ _ _ w (hidden fun w => make_is el m w mp m4 (by omega) (by omega)) (hidden fun w => make_is eh m w mp m4 (by omega) (by omega))
    have len := fun {s1 t1 s2 t2 r s lo hi : Int} => len_same (nl := nl) (nh := nh) (el := el) (eh := eh) (m := m) (s1 := s1) (t1 := t1) (s2 := s2) (t2 := t2) (r := r) (s := s) (p := p) (q := q) (lo := lo) (hi := hi) hn he mp
    generalize fl (nl * 1073741824) m = xl at *
    generalize ce (nh * 1073741824) m = xh at *
    generalize fl (el * 1073741824) m = yl at *
    generalize ce (eh * 1073741824) m = yh at *
    have sx := sq_bds x1 x3 x2
    have sy := sq_bds y1 y3 y2
    have S1 := hidden fun w => square_is xl xh w x1 x3 x2
    have S2 := hidden fun w => square_is yl yh w y1 y3 y2
    have f1 := fl_bd (n := sqLo xl xh) (m := 1073741824) (k := 0) (by decide) (by omega)
    have f2 := ce_bd (n := max (xl * xl) (xh * xh)) (m := 1073741824) (k := 1073741824) (by decide) (by omega)
    have f3 := fl_lece (n := sqLo xl xh) (k := max (xl * xl) (xh * xh)) (m := 1073741824) (by decide) (by omega)
    have g1 := fl_bd (n := sqLo yl yh) (m := 1073741824) (k := 0) (by decide) (by omega)
    have g2 := ce_bd (n := max (yl * yl) (yh * yh)) (m := 1073741824) (k := 1073741824) (by decide) (by omega)
    have g3 := fl_lece (n := sqLo yl yh) (k := max (yl * yl) (yh * yh)) (m := 1073741824) (by decide) (by omega)
    obtain ⟨s1, e1'⟩ : ∃ s, s = fl (sqLo xl xh) 1073741824 := ⟨_, rfl⟩
    obtain ⟨t1, e2'⟩ : ∃ s, s = ce (max (xl * xl) (xh * xh)) 1073741824 := ⟨_, rfl⟩
    obtain ⟨s2, e3'⟩ : ∃ s, s = fl (sqLo yl yh) 1073741824 := ⟨_, rfl⟩
    obtain ⟨t2, e4'⟩ : ∃ s, s = ce (max (yl * yl) (yh * yh)) 1073741824 := ⟨_, rfl⟩
    rw [← e1', ← e2'] at S1
    rw [← e3', ← e4'] at S2
    rw [← e1'] at f1 f3
    rw [← e2'] at f2 f3
    rw [← e3'] at g1 g3
    rw [← e4'] at g2 g3
    obtain ⟨r, hr⟩ := root_ex ((s1 + s2) * 1073741824) (by omega)
    obtain ⟨s, hs⟩ := root_ex ((t1 + t2) * 1073741824) (by omega)
    have rs := root_mono (by omega) hr hs
    have sb := isRoot_bd (by omega) hs
    have ub := up_le (n := (t1 + t2) * 1073741824) (r := s)
    have r0 := hr.1
    have Q : Hid (∀ w, Calls Tryz.prog 50 #[.agg #[.int .i64 (s1 + s2), .int .i64 (t1 + t2)]] w fun e w' => e = .returned (.tuple #[.agg #[.int .i64 r, .int .i64 (upRoot ((t1 + t2) * 1073741824) s)], .int .i64 0]) ∧ Below w.heap.size w w') := hidden fun w => sqrt_any (s1 + s2) (t1 + t2) r s w (fixB_mk (by omega)) (by omega) (by rw [show max 0 (s1 + s2) = s1 + s2 by omega]; exact hr) hs
    have A : Hid (∀ w, Calls Tryz.prog 49 #[.agg #[.int .i64 s1, .int .i64 t1], .agg #[.int .i64 s2, .int .i64 t2]] w fun e w' => e = .returned (.tuple #[.agg #[.int .i64 (s1 + s2), .int .i64 (t1 + t2)], .int .i64 0]) ∧ Below w.heap.size w w') := hidden fun w => by
      have h := add_any s1 t1 s2 t2 w (fixB_mk (by omega)) (fixB_mk (by omega))
      rw [fitF_ok (fixB_mk (by omega))] at h
      exact h
    obtain ⟨u, hu⟩ : ∃ u, upRoot ((t1 + t2) * 1073741824) s = u := ⟨_, rfl⟩
    rw [hu] at rs ub Q
    have l := scl_lo (f := r) (g := u) (m := m) (by omega) r0 rs
    have k := scl_hi (f := r) (g := u) (m := m) (by omega) r0 rs
    have um : u * m ≤ 1518500250 * 400000 := Int.mul_le_mul (by omega) m4 (by omega) (by omega)
    have rm : r * m ≤ u * m := Int.mul_le_mul_of_nonneg_right rs (by omega)
    have C := hidden fun w => scale_any r u m w (fixB_mk (by omega)) (reachB_mk (by omega))
    have fin := len e1' e2' e3' e4' hr hs l.2 l.1 (by rw [hu]; exact k.1) (by omega) hp hq
    refine ⟨_, _, _, _, fun w => leg_walk nl nh el eh m _ _ _ _ _ _ _ _ _ _ _ _ _ _ _ _ w (arcB_mk (by omega)) (arcB_mk (by omega)) hm mp (by omega) R1 R2 (hidden fun w => bearing_any yl yh xl xh w (fixB_mk (by omega)) (fixB_mk (by omega))) S1 S2 A Q C, ?_, dir, ?_, fin.1, fin.2⟩
    · have b := brg_bd yl yh xl xh
      exact arcB_mk (by omega)
    · exact arcB_mk (by omega)
theorem comp_ok (nl nh el eh p q : Int) (w : World) (hn : nl ≤ nh) (he : el ≤ eh) (n0 : -400000 ≤ nl) (n1 : nh ≤ 400000) (e0 : -400000 ≤ el) (e1 : eh ≤ 400000)
    (hp : isRoot (Spd.leastA nl nh * Spd.leastA nl nh + Spd.leastA el eh * Spd.leastA el eh) p) (hq : isRoot (Spd.mostA nl nh * Spd.mostA nl nh + Spd.mostA el eh * Spd.mostA el eh) q) :
    Calls Tryz.prog 121 #[.agg #[.int .i64 nl, .int .i64 nh], .agg #[.int .i64 el, .int .i64 eh]] w fun e w' => e = .returned (.tuple #[.agg #[.int .i64 (brgLo (4096 * el) (4096 * eh) (4096 * nl) (4096 * nh)), .int .i64 (brgHi (4096 * el) (4096 * eh) (4096 * nl) (4096 * nh))], .agg #[.int .i64 p, .int .i64 (upRoot (Spd.mostA nl nh * Spd.mostA nl nh + Spd.mostA el eh * Spd.mostA el eh) q)], .int .i64 0]) ∧ Below w.heap.size w w' := by
  have B := hidden fun w => bearing_any (4096 * el) (4096 * eh) (4096 * nl) (4096 * nh) w (fixB_mk (by omega)) (fixB_mk (by omega))
  have L1 := hidden fun w => cleast_any nl nh w (by omega) (by omega)
  have L2 := hidden fun w => cleast_any el eh w (by omega) (by omega)
  have M1 := hidden fun w => cmost_any nl nh w (by omega) (by omega)
  have M2 := hidden fun w => cmost_any el eh w (by omega) (by omega)
  have a1 : 0 ≤ Spd.leastA nl nh ∧ Spd.leastA nl nh ≤ 400000 := by unfold Spd.leastA; omega
  have a2 : 0 ≤ Spd.leastA el eh ∧ Spd.leastA el eh ≤ 400000 := by unfold Spd.leastA; omega
  have a3 : 0 ≤ Spd.mostA nl nh ∧ Spd.mostA nl nh ≤ 400000 := by unfold Spd.mostA; omega
  have a4 : 0 ≤ Spd.mostA el eh ∧ Spd.mostA el eh ≤ 400000 := by unfold Spd.mostA; omega
  generalize Spd.leastA nl nh = l1 at *
  generalize Spd.leastA el eh = l2 at *
  generalize Spd.mostA nl nh = m1 at *
  generalize Spd.mostA el eh = m2 at *
  have q1 := Spd.sq_le a1.1 a1.2
  have q2 := Spd.sq_le a2.1 a2.2
  have q3 := Spd.sq_le a3.1 a3.2
  have q4 := Spd.sq_le a4.1 a4.2
  have z1 := Spd.sq_nn l1
  have z2 := Spd.sq_nn l2
  have z3 := Spd.sq_nn m1
  have z4 := Spd.sq_nn m2
  have rb : ∀ {n r : Int}, isRoot n r → n ≤ 320000000000 → r ≤ 600000 := fun {n r} h hn => by
    rcases Int.lt_or_le 600000 r with k | k
    · have := Spd.sq_le (x := 600000) (y := r) (by decide) (by omega)
      have := h.2.1
      omega
    · exact k
  have p6 := rb hp (by omega)
  have q6 := rb hq (by omega)
  have R1 := hidden fun w => croot_any (l1 * l1 + l2 * l2) p w (by omega) hp
  have R2 := hidden fun w => croot_any (m1 * m1 + m2 * m2) q w (by omega) hq
  have q0 := hq.1
  have qq := Spd.sq_le q0 q6
  have qz := Spd.sq_nn q
  exact comp_walk nl nh el eh _ _ l1 l2 m1 m2 _ _ (q * q) p q _ (l1 * l1) (l2 * l2) (m1 * m1) (m2 * m2) w n0 hn n1 e0 he e1 B L1 L2 M1 M2 R1 R2
    (by rw [IntKind.wrap_i64]; omega) (by rw [IntKind.wrap_i64]; omega) (by rw [IntKind.wrap_i64]; omega) (by rw [IntKind.wrap_i64]; omega) (by rw [IntKind.wrap_i64]; omega) (by rw [IntKind.wrap_i64]; omega) (by rw [IntKind.wrap_i64]; omega) q0 (by omega) rfl
set_option maxRecDepth 10000 in
theorem drifts_in (a b c d a2 b2 c2 d2 : Int) (w : World) (W : Hid (∀ w, Calls Tryz.prog 6 #[] w fun e w' => e = .returned (.bool true) ∧ Below w.heap.size w w'))
    (h1 : wiB 0 200000 c d = true) (h2 : arcB a b = true) (h3 : wiB 0 200000 c2 d2 = true) (h4 : arcB a2 b2 = true) :
    Calls Tryz.prog 3 #[.agg #[.int .i64 a, .int .i64 b, .int .i64 c, .int .i64 d], .agg #[.int .i64 a2, .int .i64 b2, .int .i64 c2, .int .i64 d2]] w fun e w' => e = .returned (.bool true) ∧ Below w.heap.size w w' := by
  have VM : Hid (∀ w, Calls Tryz.prog 7 #[.agg #[.int .i64 a, .int .i64 b, .int .i64 c, .int .i64 d]] w fun e w' => e = .returned (.bool true) ∧ Below w.heap.size w w') := hidden fun w => by have := vmot_any a b c d w; rw [h1, h2] at this; exact this
  have VD : Hid (∀ w, Calls Tryz.prog 8 #[.agg #[.int .i64 a2, .int .i64 b2, .int .i64 c2, .int .i64 d2]] w fun e w' => e = .returned (.bool true) ∧ Below w.heap.size w w') := hidden fun w => by have := vdri_any a2 b2 c2 d2 w; rw [h3, h4] at this; exact this
  have p1 := part_bd (a := a) (b := b) h1
  have p2 := part_bd (a := a2) (b := b2) h3
  have P1 := hidden fun w => parts_ok a b c d w h2 h1
  have P2 := hidden fun w => parts_ok a2 b2 c2 d2 w h4 h3
  have L1 := hidden fun w => plane_ok a b c d w h2 h1
  have L2 := hidden fun w => plane_ok a2 b2 c2 d2 w h4 h3
  generalize nLo a b c d = n1 at *
  generalize nHi a b c d = n2 at *
  generalize eLo a b c d = x1 at *
  generalize eHi a b c d = x2 at *
  generalize nLo a2 b2 c2 d2 = m1 at *
  generalize nHi a2 b2 c2 d2 = m2 at *
  generalize eLo a2 b2 c2 d2 = y1 at *
  generalize eHi a2 b2 c2 d2 = y2 at *
  have nn1 : arcB n1 n2 = true := arcB_mk (by omega)
  have nx1 : arcB x1 x2 = true := arcB_mk (by omega)
  have nm1 : arcB m1 m2 = true := arcB_mk (by omega)
  have ny1 : arcB y1 y2 = true := arcB_mk (by omega)
  have A1 := hidden fun w => add_is 0 0 n1 n2 n1 n2 w (by decide) nn1 (by omega) (by omega) nn1
  have A2 := hidden fun w => add_is 0 0 x1 x2 x1 x2 w (by decide) nx1 (by omega) (by omega) nx1
  have A3 := hidden fun w => add_is n1 n2 m1 m2 (n1 + m1) (n2 + m2) w nn1 nm1 rfl rfl (arcB_mk (by omega))
  have A4 := hidden fun w => add_is x1 x2 y1 y2 (x1 + y1) (x2 + y2) w nx1 ny1 rfl rfl (arcB_mk (by omega))
  have b1 : n1 + m1 ≤ n2 + m2 ∧ -400000 ≤ n1 + m1 ∧ n2 + m2 ≤ 400000 := by omega
  have b2' : x1 + y1 ≤ x2 + y2 ∧ -400000 ≤ x1 + y1 ∧ x2 + y2 ≤ 400000 := by omega
  generalize n1 + m1 = N1 at *
  generalize n2 + m2 = N2 at *
  generalize x1 + y1 = E1 at *
  generalize x2 + y2 = E2 at *
  obtain ⟨p, hp⟩ := root_ex (Spd.leastA N1 N2 * Spd.leastA N1 N2 + Spd.leastA E1 E2 * Spd.leastA E1 E2) (by have := Spd.sq_nn (Spd.leastA N1 N2); have := Spd.sq_nn (Spd.leastA E1 E2); omega)
  obtain ⟨q, hq⟩ := root_ex (Spd.mostA N1 N2 * Spd.mostA N1 N2 + Spd.mostA E1 E2 * Spd.mostA E1 E2) (by have := Spd.sq_nn (Spd.mostA N1 N2); have := Spd.sq_nn (Spd.mostA E1 E2); omega)
  have C := hidden fun w => comp_ok N1 N2 E1 E2 p q w b1.1 b2'.1 b1.2.1 b1.2.2 b2'.2.1 b2'.2.2 hp hq
  obtain ⟨P, Q, lo, hi, LG, v1, ag, v2, k1, k2⟩ := leg_all N1 N2 E1 E2 p q b1.1 b2'.1 b1.2.1 b1.2.2 b2'.2.1 b2'.2.2 hp hq
  have bb := brg_bd (4096 * E1) (4096 * E2) (4096 * N1) (4096 * N2)
  have p0 := hp.1
  generalize brgLo (4096 * E1) (4096 * E2) (4096 * N1) (4096 * N2) = bl at *
  generalize brgHi (4096 * E1) (4096 * E2) (4096 * N1) (4096 * N2) = bh at *
  generalize upRoot (Spd.mostA N1 N2 * Spd.mostA N1 N2 + Spd.mostA E1 E2 * Spd.mostA E1 E2) q = s at *
  have M1 := hidden fun w => moves_ok a b c d w h2 h1
  have M2 := hidden fun w => moves_ok a2 b2 c2 d2 w h4 h3
  cases hs : wiB 0 200000 p s
  · have S : Hid (∀ w, Calls Tryz.prog 122 #[.agg #[.int .i64 p, .int .i64 s]] w fun e w' => e = .returned (.bool false) ∧ Below w.heap.size w w') := hidden fun w => by have := cspeed_any p s w; rw [hs] at this; exact this
    exact dri_big a b c d a2 b2 c2 d2 w W VM VD (hidden fun w => made_big a b c d a2 b2 c2 d2 bl bh p s w (hidden fun w => joined_big a b c d a2 b2 c2 d2 _ _ _ _ _ _ _ _ _ _ _ _ bl bh p s w M1 M2 P1 P2 A3 A4 C S))
  · have S : Hid (∀ w, Calls Tryz.prog 122 #[.agg #[.int .i64 p, .int .i64 s]] w fun e w' => e = .returned (.bool true) ∧ Below w.heap.size w w') := hidden fun w => by have := cspeed_any p s w; rw [hs] at this; exact this
    have t := wiB_t hs
    have vb : arcB bl bh = true := arcB_mk (by omega)
    have vs : arcB p s = true := arcB_mk (by omega)
    have t2 := arcB_t v2
    refine dri_main a b c d a2 b2 c2 d2 bl bh p s P Q lo hi N1 N2 E1 E2 w W VM VD (hidden fun w => made_ok a b c d a2 b2 c2 d2 bl bh p s w (hidden fun w => joined_ok a b c d a2 b2 c2 d2 _ _ _ _ _ _ _ _ _ _ _ _ bl bh p s w M1 M2 P1 P2 A3 A4 C S))
      (hidden fun B1 w g0 g1 g2 g3 g4 g5 g6 g7 => trav_walk a b c d a2 b2 c2 d2 _ _ _ _ _ _ _ _ _ _ _ _ B1 w g0 g1 g2 g3 g4 g5 g6 g7 (hidden fun w => mval_ok w h2 h1) (hidden fun w => mval_ok w h4 h3) L1 L2 A1 A2 A3 A4)
      (hidden LG) (hidden fun w => hour_ok bl bh p s w vb hs) (hidden fun w => ?_) (hidden fun w => ?_) (hidden fun w => ?_) (hidden fun w => wmeets_ok lo hi p s w v2 vs k1 k2)
    · have := valid5_any P Q w; rw [v1] at this; exact this
    · have := valid5_any bl bh w; rw [vb] at this; exact this
    · have := agree_ok P Q bl bh w v1 vb; rw [ag] at this; exact this
theorem drifts_walk (a b c d a2 b2 c2 d2 : Int) (w : World) (W : Hid (∀ w, Calls Tryz.prog 6 #[] w fun e w' => e = .returned (.bool true) ∧ Below w.heap.size w w')) :
    Calls Tryz.prog 3 #[.agg #[.int .i64 a, .int .i64 b, .int .i64 c, .int .i64 d], .agg #[.int .i64 a2, .int .i64 b2, .int .i64 c2, .int .i64 d2]] w fun e w' => e = .returned (.bool true) ∧ Below w.heap.size w w' := by
  have VM := hidden fun w => vmot_any a b c d w
  have VD := hidden fun w => vdri_any a2 b2 c2 d2 w
  cases h1 : (wiB 0 200000 c d && arcB a b)
  · rw [h1] at VM
    exact dri_out1 a b c d a2 b2 c2 d2 w W VM
  · rw [h1] at VM
    cases h2 : (wiB 0 200000 c2 d2 && arcB a2 b2)
    · rw [h2] at VD
      exact dri_out2 a b c d a2 b2 c2 d2 w W VM VD
    · rw [Bool.and_eq_true] at h1 h2
      exact drifts_in a b c d a2 b2 c2 d2 w W h1.1 h1.2 h2.1 h2.2
end Go.Proofs.YtdhbeoahpfimbaaGreat
