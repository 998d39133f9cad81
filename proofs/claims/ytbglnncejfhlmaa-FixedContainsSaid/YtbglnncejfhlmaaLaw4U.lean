/- What subtracting what was added, and dividing by what was multiplied by, leads to: an interval that contains the former one. -/
import Derived.Test.YtbglnncejfhlmaaFixC
import Derived.Test.YtbglnncejfhlmaaLaw4T
namespace Go.Proofs.Ytbglnncejfhlmaa
open Go.RowKit

/-- of a value: it is an interval that holds [a, b], or an error of those that may be -/
def backOK (a b p q k : Int) (z : Bool) : Prop := (k = 0 ∧ insB a b p q = true) ∨ k = 5 ∨ (k = 16 ∧ z = true)
theorem fitF_ways (L H p q k : Int) (h : fitF L H = .tuple #[.agg #[.int .i64 (p), .int .i64 (q)], .int .i64 (k)]) : (k = 0 ∧ p = L ∧ q = H ∧ fixB L H = true) ∨ (k = 5 ∧ p = 0 ∧ q = 0 ∧ fixB L H = false) := by
  unfold fitF at h
  split at h
  · rename_i g; injection h with h; simp at h; left; exact ⟨h.2.symm, h.1.1.symm, h.1.2.symm, g⟩
  · rename_i g; injection h with h; simp at h; right; exact ⟨h.2.symm, h.1.1.symm, h.1.2.symm, by simpa using g⟩

theorem sub_back (a b c d p q k : Int) (h1 : fixB a b = true) (h2 : fixB c d = true) (h : fitF (a + c - d) (b + d - c) = .tuple #[.agg #[.int .i64 (p), .int .i64 (q)], .int .i64 (k)]) : backOK a b p q k false := by
  obtain ⟨c1, c2, c3⟩ := fixB_t h2
  rcases fitF_ways _ _ _ _ _ h with ⟨rfl, rfl, rfl, g⟩ | ⟨rfl, _, _, _⟩
  · exact .inl ⟨rfl, insB_mk ⟨h1, g, by omega, by omega⟩⟩
  · exact .inr (.inl rfl)

theorem fl_le_of {n d x : Int} (hd : 0 < d) (h : n ≤ x * d) : fl n d ≤ x := by
  rw [fl_pos' hd]
  have : n / d < x + 1 := Int.ediv_lt_of_lt_mul hd (by rw [Int.add_mul]; omega)
  omega
theorem ce_ge_of {n d x : Int} (hd : 0 < d) (h : x * d ≤ n) : x ≤ ce n d := by
  unfold ce
  have := fl_le_of (n := -n) (d := d) (x := -x) hd (by rw [Int.neg_mul]; omega)
  omega
theorem fl_le_of' {n d x : Int} (hd : d < 0) (h : x * d ≤ n) : fl n d ≤ x := by
  rw [fl_neg' hd]
  have : -n / -d < x + 1 := Int.ediv_lt_of_lt_mul (by omega) (by rw [Int.add_mul, Int.mul_neg]; omega)
  omega
theorem ce_ge_of' {n d x : Int} (hd : d < 0) (h : n ≤ x * d) : x ≤ ce n d := by
  unfold ce
  have := fl_le_of' (n := -n) (d := d) (x := -x) hd (by rw [Int.neg_mul]; omega)
  omega

theorem fl30_le (n : Int) : fl n 1073741824 * 1073741824 ≤ n ∧ n ≤ ce n 1073741824 * 1073741824 := by
  rw [fl_30, ce_30]; omega

theorem div_back (a b c d P Q p q k : Int) (h1 : fixB a b = true) (hz : zeroB c d = false)
    (hP : P = fl (min (a * c) (min (a * d) (min (b * c) (b * d)))) 1073741824) (hQ : Q = ce (max (a * c) (max (a * d) (max (b * c) (b * d)))) 1073741824)
    (h : fitF (divLo P Q c d) (divHi P Q c d) = .tuple #[.agg #[.int .i64 (p), .int .i64 (q)], .int .i64 (k)]) : backOK a b p q k true := by
  rcases fitF_ways _ _ _ _ _ h with ⟨rfl, rfl, rfl, g⟩ | ⟨rfl, _, _, _⟩
  · have e1 := (fl30_le (min (a * c) (min (a * d) (min (b * c) (b * d))))).1
    have e2 := (fl30_le (max (a * c) (max (a * d) (max (b * c) (b * d))))).2
    rw [← hP] at e1
    rw [← hQ] at e2
    refine .inl ⟨rfl, insB_mk ⟨h1, g, ?_, ?_⟩⟩
    · rcases zeroB_f hz with z | z
      · have := fl_le_of (n := P * 1073741824) (d := c) (x := a) z (by omega)
        unfold divLo; omega
      · have := fl_le_of' (n := Q * 1073741824) (d := d) (x := a) z (by omega)
        unfold divLo; omega
    · rcases zeroB_f hz with z | z
      · have := ce_ge_of (n := Q * 1073741824) (d := c) (x := b) z (by omega)
        unfold divHi; omega
      · have := ce_ge_of' (n := P * 1073741824) (d := d) (x := b) z (by omega)
        unfold divHi; omega
  · exact .inr (.inl rfl)

theorem square_in (a b p q k r s j : Int) (h1 : fixB a b = true) (hx : fitF (fl (sqLo a b) 1073741824) (ce (max (a * a) (b * b)) 1073741824) = .tuple #[.agg #[.int .i64 (p), .int .i64 (q)], .int .i64 (k)])
    (hy : fitF (fl (min (a * a) (min (a * b) (min (b * a) (b * b)))) 1073741824) (ce (max (a * a) (max (a * b) (max (b * a) (b * b)))) 1073741824) = .tuple #[.agg #[.int .i64 (r), .int .i64 (s)], .int .i64 (j)]) :
    (k = 5 ∧ j = 5) ∨ (k = 0 ∧ 0 ≤ p ∧ (j = 5 ∨ (j = 0 ∧ insB p q r s = true))) := by
  obtain ⟨a1, a2, a3⟩ := fixB_t h1
  have ba : b * a = a * b := Int.mul_comm _ _
  have aa : 0 ≤ a * a := by rcases Int.le_total 0 a with g | g; exact Int.mul_nonneg g g; exact Int.mul_nonneg_of_nonpos_of_nonpos g g
  have bb : 0 ≤ b * b := by rcases Int.le_total 0 b with g | g; exact Int.mul_nonneg g g; exact Int.mul_nonneg_of_nonpos_of_nonpos g g
  have d2 : 0 ≤ (b - a) * (b - a) := Int.mul_nonneg (by omega) (by omega)
  have e2 : (b - a) * (b - a) = b * b - 2 * (a * b) + a * a := by grind
  have sl : 0 ≤ sqLo a b ∧ min (a * a) (min (a * b) (min (b * a) (b * b))) ≤ sqLo a b := by
    unfold sqLo
    split
    · rename_i z
      obtain ⟨z1, z2⟩ := zeroB_t z
      have : a * b ≤ 0 := Int.mul_nonpos_of_nonpos_of_nonneg z1 z2
      omega
    · omega
  have mx : max (a * a) (max (a * b) (max (b * a) (b * b))) = max (a * a) (b * b) := by omega
  rw [mx] at hy
  have l1 : fl (min (a * a) (min (a * b) (min (b * a) (b * b)))) 1073741824 ≤ fl (sqLo a b) 1073741824 := by rw [fl_30, fl_30]; omega
  have l2 : 0 ≤ fl (sqLo a b) 1073741824 := by rw [fl_30]; omega
  have l3 : fl (sqLo a b) 1073741824 ≤ ce (max (a * a) (b * b)) 1073741824 := by rw [fl_30, ce_30]; exact fl_le_ce _ _ _ (by omega) (sqLo_le a b)
  rcases fitF_ways _ _ _ _ _ hx with ⟨rfl, rfl, rfl, g⟩ | ⟨rfl, _, _, g⟩
  · right
    refine ⟨rfl, l2, ?_⟩
    rcases fitF_ways _ _ _ _ _ hy with ⟨rfl, rfl, rfl, g2⟩ | ⟨rfl, _, _, _⟩
    · exact .inr ⟨rfl, insB_mk ⟨g, g2, l1, by omega⟩⟩
    · exact .inl rfl
  · left
    rcases fitF_ways _ _ _ _ _ hy with ⟨rfl, rfl, rfl, g2⟩ | ⟨rfl, _, _, _⟩
    · exfalso
      have := fixB_t g2
      exact absurd (fixB_mk ⟨by omega, l3, this.2.2⟩) (by rw [g]; decide)
    · exact ⟨rfl, rfl⟩

end Go.Proofs.Ytbglnncejfhlmaa
