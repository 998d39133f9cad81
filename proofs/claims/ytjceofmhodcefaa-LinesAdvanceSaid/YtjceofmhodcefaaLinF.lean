/- Move of package lines by its numbers: what it returns, or that it is too wide; and what the way back leads to. -/
import Derived.Test.YtjceofmhodcefaaLinE
import Derived.Test.YtjceofmhodcefaaLin3
import Derived.Test.YtjceofmhodcefaaTrigP
namespace Go.Proofs.Ytjceofmhodcefaa
open Go.RowKit

/-- the cosine of the turn between a course and an azimuth -/
def crLo (m n a b : Int) : Int := encLo (m - b + 5400000) (n - a + 5400000)
def crHi (m n a b : Int) : Int := encHi (m - b + 5400000) (n - a + 5400000)
theorem mul_in {f a M N : Int} (h1 : -M ≤ f) (h2 : f ≤ M) (h3 : 0 ≤ a) (h4 : a ≤ N) (hM : 0 ≤ M) : -(M * N) ≤ f * a ∧ f * a ≤ M * N := by
  have e1 := Int.mul_le_mul_of_nonneg_right h2 h3
  have e2 := Int.mul_le_mul_of_nonneg_right h1 h3
  have e3 := Int.mul_le_mul_of_nonneg_left h4 hM
  rw [Int.neg_mul] at e2
  omega
theorem cLo_one (a b n : Int) : cLo a b 1073741824 1073741824 n = min (a * n / 1073741824) (b * n / 1073741824) := by unfold cLo; omega
theorem cHi_one (a b n : Int) : cHi a b 1073741824 1073741824 n = max (-(-(a * n) / 1073741824)) (-(-(b * n) / 1073741824)) := by unfold cHi; omega
theorem tm_le (g h f k : Int) : tmLo g h f k ≤ tmHi g h f k := by
  unfold tmLo tmHi
  rw [cLo_one, cLo_one, cHi_one, cHi_one]
  omega
theorem tm_bd {g h f k : Int} (g0 : 0 ≤ g) (gh : g ≤ h) (h1 : h ≤ 21600000) (f0 : -1073741824 ≤ f) (f1 : f ≤ 1073741824) (k0 : -1073741824 ≤ k) (k1 : k ≤ 1073741824) :
    -21600000 ≤ tmLo g h f k ∧ tmHi g h f k ≤ 21600000 := by
  have e1 := mul_in f0 f1 g0 (by omega : g ≤ 21600000) (by decide)
  have e2 := mul_in f0 f1 (by omega : 0 ≤ h) h1 (by decide)
  have e3 := mul_in k0 k1 g0 (by omega : g ≤ 21600000) (by decide)
  have e4 := mul_in k0 k1 (by omega : 0 ≤ h) h1 (by decide)
  unfold tmLo tmHi
  rw [cLo_one, cLo_one, cHi_one, cHi_one]
  omega
theorem tm_neg (g h f k : Int) : tmLo g h (-k) (-f) = -tmHi g h f k ∧ tmHi g h (-k) (-f) = -tmLo g h f k := by
  unfold tmLo tmHi
  rw [cLo_one, cLo_one, cHi_one, cHi_one, cLo_one, cLo_one, cHi_one, cHi_one, Int.neg_mul, Int.neg_mul, Int.neg_mul, Int.neg_mul]
  simp only [Int.neg_neg]
  omega
theorem tm_zero (g h : Int) : tmLo g h 0 0 = 0 ∧ tmHi g h 0 0 = 0 := by
  unfold tmLo tmHi
  rw [cLo_one, cLo_one, cHi_one, cHi_one]
  simp
theorem enc_le37 (c d : Int) : encLo c d ≤ encHi c d := by
  have x := b_bd c
  have y := b_bd d
  unfold encLo encHi
  split <;> split <;> omega
theorem enc_whole37 (a b : Int) (h : 21600000 ≤ b - a) : encLo a b = -1073741824 ∧ encHi a b = 1073741824 := by
  have h1 : meetB a b 16200000 = true := by unfold meetB; simp; omega
  have h2 : meetB a b 5400000 = true := by unfold meetB; simp; omega
  unfold encLo encHi
  rw [h1, h2]
  exact ⟨rfl, rfl⟩
theorem cr_turn {m n a b : Int} (_hm : m ≤ n) (ha : a ≤ b) :
    encLo (arcLo m n - b + 5400000) (arcHi m n - a + 5400000) = crLo m n a b ∧ encHi (arcLo m n - b + 5400000) (arcHi m n - a + 5400000) = crHi m n a b := by
  unfold crLo crHi arcLo arcHi
  split
  · have x := enc_whole37 (0 - b + 5400000) (21600000 - a + 5400000) (by omega)
    have y := enc_whole37 (m - b + 5400000) (n - a + 5400000) (by omega)
    omega
  · have x := enc_turn (m - b + 5400000) (n - a + 5400000) (-(m / 21600000))
    rw [show m % 21600000 - b + 5400000 = m - b + 5400000 + -(m / 21600000) * 21600000 by omega, show m % 21600000 + (n - m) - a + 5400000 = n - a + 5400000 + -(m / 21600000) * 21600000 by omega]
    exact x
theorem cr_back (m n a b : Int) : crLo (m + 10800000) (n + 10800000) a b = -crHi m n a b ∧ crHi (m + 10800000) (n + 10800000) a b = -crLo m n a b := by
  have x := enc_half (m - b + 5400000) (n - a + 5400000)
  unfold crLo crHi
  rw [show m + 10800000 - b + 5400000 = m - b + 5400000 + 10800000 by omega, show n + 10800000 - a + 5400000 = n - a + 5400000 + 10800000 by omega]
  exact x
theorem cr_along (a : Int) : crLo (a + 5400000) (a + 5400000) a a = 0 ∧ crHi (a + 5400000) (a + 5400000) a a = 0 := by
  unfold crLo crHi
  rw [show a + 5400000 - a + 5400000 = 10800000 by omega]
  have e := enc_point 10800000
  have z := b_zero (n := 10800000) (by omega)
  omega
theorem cr_bd (m n a b : Int) : -1073741824 ≤ crLo m n a b ∧ crLo m n a b ≤ 1073741824 ∧ -1073741824 ≤ crHi m n a b ∧ crHi m n a b ≤ 1073741824 := enc_bd _ _
theorem cr_fix (m n a b : Int) : fixB (crLo m n a b) (crHi m n a b) = true := by
  unfold crLo crHi
  have x := enc_le37 (m - b + 5400000) (n - a + 5400000)
  have e := enc_bd (m - b + 5400000) (n - a + 5400000)
  exact fixB_mk (by omega)
/-- the intercept behind a leg -/
def mvLo (m n a b p g h : Int) : Int := p + tmLo g h (crLo m n a b) (crHi m n a b)
def mvHi (m n a b q g h : Int) : Int := q + tmHi g h (crLo m n a b) (crHi m n a b)
theorem mv_back (m n a b p q g h : Int) : mvLo (m + 10800000) (n + 10800000) a b (mvLo m n a b p g h) g h ≤ p ∧ q ≤ mvHi (m + 10800000) (n + 10800000) a b (mvHi m n a b q g h) g h := by
  unfold mvLo mvHi
  obtain ⟨e1, e2⟩ := cr_back m n a b
  rw [e1, e2]
  have x := tm_neg g h (crLo m n a b) (crHi m n a b)
  have y := tm_le g h (crLo m n a b) (crHi m n a b)
  omega
theorem mv_along (a p q g h : Int) : mvLo (a + 5400000) (a + 5400000) a a p g h = p ∧ mvHi (a + 5400000) (a + 5400000) a a q g h = q := by
  unfold mvLo mvHi
  obtain ⟨e1, e2⟩ := cr_along a
  obtain ⟨x, y⟩ := tm_zero g h
  rw [e1, e2, x, y]
  omega
theorem lineB_t {c d a b p q : Int} (h : lineB c d a b p q = true) : nearB c d = true ∧ a ≤ b ∧ 0 ≤ a ∧ a < 21600000 ∧ b - a < 10800000 ∧ p ≤ q ∧ -600000 ≤ p ∧ q ≤ 600000 := by
  simp only [lineB, Bool.and_eq_true, decide_eq_true_eq] at h
  have x := arcB_t h.2.1
  have y := arcB_t h.2.2.2.2.2.1
  exact ⟨h.1, x.1, h.2.2.1, h.2.2.2.1, h.2.2.2.2.1, y.1, h.2.2.2.2.2.2.1, h.2.2.2.2.2.2.2⟩
theorem lineB_mk {c d a b p q : Int} (h : nearB c d = true ∧ a ≤ b ∧ 0 ≤ a ∧ a < 21600000 ∧ b - a < 10800000 ∧ p ≤ q ∧ -600000 ≤ p ∧ q ≤ 600000) : lineB c d a b p q = true := by
  obtain ⟨h0, h1, h2, h3, h4, h5, h6, h7⟩ := h
  simp only [lineB, Bool.and_eq_true, decide_eq_true_eq]
  exact ⟨h0, arcB_mk (by omega), h2, h3, h4, arcB_mk (by omega), h6, h7⟩
theorem mv_line {c d a b p q m n g h : Int} (h1 : lineB c d a b p q = true) (hw : withB (mvLo m n a b p g h) (mvHi m n a b q g h) = true) : lineB c d a b (mvLo m n a b p g h) (mvHi m n a b q g h) = true := by
  have x := lineB_t h1
  have y := tm_le g h (crLo m n a b) (crHi m n a b)
  simp [withB] at hw
  refine lineB_mk ⟨x.1, x.2.1, x.2.2.1, x.2.2.2.1, x.2.2.2.2.1, ?_, hw.1, hw.2⟩
  unfold mvLo mvHi
  omega
theorem mv_ok (c d a b p q m n g h : Int) (w : World) (h1 : lineB c d a b p q = true) (h2 : arcB m n = true) (h4 : 0 ≤ g) (h3 : g ≤ h) (h5 : h ≤ 21600000) (hw : withB (mvLo m n a b p g h) (mvHi m n a b q g h) = true) :
    Calls Try.prog 9 #[.agg #[.int .i64 c, .int .i64 d, .int .i64 a, .int .i64 b, .int .i64 p, .int .i64 q], .agg #[.int .i64 m, .int .i64 n, .int .i64 g, .int .i64 h]] w fun e w' => e = .returned (.tuple #[.agg #[.int .i64 c, .int .i64 d, .int .i64 a, .int .i64 b, .int .i64 (mvLo m n a b p g h), .int .i64 (mvHi m n a b q g h)], .int .i64 0]) ∧ Below w.heap.size w w' := by
  obtain ⟨n0, ab, a0, a1, ba, pq, p0, q0⟩ := lineB_t h1
  obtain ⟨m0, m1, m2⟩ := arcB_t h2
  obtain ⟨f0, f1, k0, k1⟩ := cr_bd m n a b
  have tb := tm_bd h4 h3 h5 f0 f1 k0 k1
  have tl := tm_le g h (crLo m n a b) (crHi m n a b)
  have h6 : arcB g h = true := arcB_mk (by omega)
  have F := cr_fix m n a b
  have T := hidden fun B w ok => ptimes_any g h (crLo m n a b) (crHi m n a b) B w ok F (reachB_mk (by omega)) (reachB_mk (by omega))
  have A := hidden fun w => ladd_any p q (tmLo g h (crLo m n a b) (crHi m n a b)) (tmHi g h (crLo m n a b) (crHi m n a b)) w (by omega) (by omega) (by omega) (by omega)
  have W := within_any (mvLo m n a b p g h) (mvHi m n a b q g h)
  rw [hw] at W
  by_cases hf : fitsB (m - b) = true ∧ fitsB (n - a) = true
  · have S := hidden fun w => sub_ok m n a b w h2 (arcB_mk (by omega)) hf.1 hf.2
    have i1 := fitsB_t hf.1
    have i2 := fitsB_t hf.2
    have C := hidden fun B w ok => pcos_any (m - b) (n - a) B w ok (arcV_mk (by omega))
    exact move_ok c d a b p q m n g h _ _ _ _ _ _ _ _ w h1 h2 h6 h4 h5 S C T A (hidden W)
  · have S := hidden fun w => sub_big m n a b w h2 (arcB_mk (by omega)) (by
      cases e1 : fitsB (m - b)
      · exact .inl rfl
      · cases e2 : fitsB (n - a)
        · exact .inr rfl
        · exact absurd ⟨e1, e2⟩ hf)
    have U := hidden fun w => turn_ok m n w h2
    have dd := arcLo_bd m0
    have dl : arcLo m n ≤ arcHi m n := by unfold arcLo arcHi; split <;> omega
    have D := hidden fun w => lsub_any (arcLo m n) (arcHi m n) a b w (by omega) (by omega) (by omega) (by omega)
    have C := fun B w ok => pcos_any (arcLo m n - b) (arcHi m n - a) B w ok (arcV_mk (by omega))
    obtain ⟨e1, e2⟩ := cr_turn m0 ab
    rw [e1, e2] at C
    exact move_bigok c d a b p q m n g h _ _ _ _ _ _ _ _ _ _ w h1 h2 h6 h4 h5 S U D (hidden C) T A (hidden W)
theorem mv_wide (c d a b p q m n g h : Int) (w : World) (h1 : lineB c d a b p q = true) (h2 : arcB m n = true) (h4 : 0 ≤ g) (h3 : g ≤ h) (h5 : h ≤ 21600000) (hw : withB (mvLo m n a b p g h) (mvHi m n a b q g h) = false) :
    Calls Try.prog 9 #[.agg #[.int .i64 c, .int .i64 d, .int .i64 a, .int .i64 b, .int .i64 p, .int .i64 q], .agg #[.int .i64 m, .int .i64 n, .int .i64 g, .int .i64 h]] w fun e w' => e = .returned (.tuple #[.agg #[.int .i64 0, .int .i64 0, .int .i64 0, .int .i64 0, .int .i64 0, .int .i64 0], .int .i64 24]) ∧ Below w.heap.size w w' := by
  obtain ⟨n0, ab, a0, a1, ba, pq, p0, q0⟩ := lineB_t h1
  obtain ⟨m0, m1, m2⟩ := arcB_t h2
  obtain ⟨f0, f1, k0, k1⟩ := cr_bd m n a b
  have tb := tm_bd h4 h3 h5 f0 f1 k0 k1
  have tl := tm_le g h (crLo m n a b) (crHi m n a b)
  have h6 : arcB g h = true := arcB_mk (by omega)
  have F := cr_fix m n a b
  have T := hidden fun B w ok => ptimes_any g h (crLo m n a b) (crHi m n a b) B w ok F (reachB_mk (by omega)) (reachB_mk (by omega))
  have A := hidden fun w => ladd_any p q (tmLo g h (crLo m n a b) (crHi m n a b)) (tmHi g h (crLo m n a b) (crHi m n a b)) w (by omega) (by omega) (by omega) (by omega)
  have W := within_any (mvLo m n a b p g h) (mvHi m n a b q g h)
  rw [hw] at W
  by_cases hf : fitsB (m - b) = true ∧ fitsB (n - a) = true
  · have S := hidden fun w => sub_ok m n a b w h2 (arcB_mk (by omega)) hf.1 hf.2
    have i1 := fitsB_t hf.1
    have i2 := fitsB_t hf.2
    have C := hidden fun B w ok => pcos_any (m - b) (n - a) B w ok (arcV_mk (by omega))
    exact move_wide c d a b p q m n g h _ _ _ _ _ _ _ _ w h1 h2 h6 h4 h5 S C T A (hidden W)
  · have S := hidden fun w => sub_big m n a b w h2 (arcB_mk (by omega)) (by
      cases e1 : fitsB (m - b)
      · exact .inl rfl
      · cases e2 : fitsB (n - a)
        · exact .inr rfl
        · exact absurd ⟨e1, e2⟩ hf)
    have U := hidden fun w => turn_ok m n w h2
    have dd := arcLo_bd m0
    have dl : arcLo m n ≤ arcHi m n := by unfold arcLo arcHi; split <;> omega
    have D := hidden fun w => lsub_any (arcLo m n) (arcHi m n) a b w (by omega) (by omega) (by omega) (by omega)
    have C := fun B w ok => pcos_any (arcLo m n - b) (arcHi m n - a) B w ok (arcV_mk (by omega))
    obtain ⟨e1, e2⟩ := cr_turn m0 ab
    rw [e1, e2] at C
    exact move_bigwide c d a b p q m n g h _ _ _ _ _ _ _ _ _ _ w h1 h2 h6 h4 h5 S U D (hidden C) T A (hidden W)

end Go.Proofs.Ytjceofmhodcefaa
