/- The results for numbers inside intervals are inside the results for the intervals: the plain laws. -/
import Derived.Test.YtbglnncejfhlmaaLaw4U
namespace Go.Proofs.Ytbglnncejfhlmaa
open Go.RowKit

/-- what a result for the intervals says of the one for the numbers: an error, or that it is inside, or that there is none -/
def heldOK (P Q k p q j : Int) : Prop := k ≠ 0 ∨ (j = 0 ∧ insB p q P Q = true) ∨ j = 2

theorem held_fit {L H l h P Q k p q j : Int} (e : fitF L H = .tuple #[.agg #[.int .i64 (P), .int .i64 (Q)], .int .i64 (k)]) (g : fitF l h = .tuple #[.agg #[.int .i64 (p), .int .i64 (q)], .int .i64 (j)]) (hL : L ≤ l) (hH : h ≤ H) (lh : l ≤ h) : heldOK P Q k p q j := by
  rcases fitF_ways _ _ _ _ _ e with ⟨rfl, rfl, rfl, e1⟩ | ⟨rfl, _, _, _⟩
  · have b := fixB_t e1
    have e2 : fixB l h = true := fixB_mk ⟨by omega, lh, by omega⟩
    rw [fitF_ok e2] at g
    injection g with g; simp at g
    obtain ⟨⟨rfl, rfl⟩, rfl⟩ := g
    exact .inr (.inl ⟨rfl, insB_mk ⟨e2, e1, hL, hH⟩⟩)
  · exact .inl (by omega)

theorem lin_mid {k c d y : Int} (h1 : c ≤ y) (h2 : y ≤ d) : min (k * c) (k * d) ≤ k * y ∧ k * y ≤ max (k * c) (k * d) := by
  rcases Int.le_total 0 k with h | h
  · have := Int.mul_le_mul_of_nonneg_left h1 h
    have := Int.mul_le_mul_of_nonneg_left h2 h
    omega
  · have := Int.mul_le_mul_of_nonpos_left h h1
    have := Int.mul_le_mul_of_nonpos_left h h2
    omega
theorem prod_mid {a b c d x y : Int} (x1 : a ≤ x) (x2 : x ≤ b) (y1 : c ≤ y) (y2 : y ≤ d) :
    min (a * c) (min (a * d) (min (b * c) (b * d))) ≤ x * y ∧ x * y ≤ max (a * c) (max (a * d) (max (b * c) (b * d))) := by
  have h1 := lin_mid (k := y) x1 x2
  have h2 := lin_mid (k := a) y1 y2
  have h3 := lin_mid (k := b) y1 y2
  rw [Int.mul_comm y a, Int.mul_comm y b, Int.mul_comm y x] at h1
  omega

theorem fl30_mono {n m : Int} (h : n ≤ m) : fl n 1073741824 ≤ fl m 1073741824 ∧ ce n 1073741824 ≤ ce m 1073741824 ∧ fl n 1073741824 ≤ ce n 1073741824 := by
  rw [fl_30, fl_30, ce_30, ce_30]; exact ⟨by omega, by omega, fl_le_ce _ _ _ (by omega) (by omega)⟩

theorem ediv_mid {n c d y : Int} (hc : 0 < c) (h1 : c ≤ y) (h2 : y ≤ d) : min (n / c) (n / d) ≤ n / y ∧ n / y ≤ max (n / c) (n / d) := by
  have hy : 0 < y := by omega
  have hd : 0 < d := by omega
  have f : ∀ z, 0 < z → n / z * z ≤ n := fun z hz => Int.ediv_mul_le n (by omega)
  rcases Int.lt_or_le n 0 with h | h
  · have q1 : n / c < 0 := Int.ediv_neg_of_neg_of_pos h hc
    have q2 : n / y < 0 := Int.ediv_neg_of_neg_of_pos h hy
    have a1 : n / c ≤ n / y := by
      apply (Int.le_ediv_iff_mul_le hy).2
      have := Int.mul_le_mul_of_nonpos_left (show n / c ≤ 0 by omega) h1
      have := f c hc
      omega
    have a2 : n / y ≤ n / d := by
      apply (Int.le_ediv_iff_mul_le hd).2
      have := Int.mul_le_mul_of_nonpos_left (show n / y ≤ 0 by omega) h2
      have := f y hy
      omega
    omega
  · have q1 : 0 ≤ n / d := Int.ediv_nonneg h (by omega)
    have q2 : 0 ≤ n / y := Int.ediv_nonneg h (by omega)
    have a1 : n / d ≤ n / y := by
      apply (Int.le_ediv_iff_mul_le hy).2
      have := Int.mul_le_mul_of_nonneg_left h2 q1
      have := f d hd
      omega
    have a2 : n / y ≤ n / c := by
      apply (Int.le_ediv_iff_mul_le hc).2
      have := Int.mul_le_mul_of_nonneg_left h1 q2
      have := f y hy
      omega
    omega

theorem fl_mid {n c d y : Int} (hz : zeroB c d = false) (h1 : c ≤ y) (h2 : y ≤ d) : min (fl n c) (fl n d) ≤ fl n y ∧ fl n y ≤ max (fl n c) (fl n d) := by
  rcases zeroB_f hz with z | z
  · rw [fl_pos' z, fl_pos' (show 0 < d by omega), fl_pos' (show 0 < y by omega)]; exact ediv_mid z h1 h2
  · rw [fl_neg' z, fl_neg' (show c < 0 by omega), fl_neg' (show y < 0 by omega)]
    have := ediv_mid (n := -n) (c := -d) (d := -c) (y := -y) (by omega) (by omega) (by omega)
    omega
theorem fl_num {p q u y : Int} (hy : y ≠ 0) (h : (p ≤ u ∧ u ≤ q) ∨ (q ≤ u ∧ u ≤ p)) : min (fl p y) (fl q y) ≤ fl u y ∧ fl u y ≤ max (fl p y) (fl q y) := by
  have m : ∀ n k : Int, n ≤ k → (0 < y → fl n y ≤ fl k y) ∧ (y < 0 → fl k y ≤ fl n y) := by
    intro n k hnk
    constructor
    · intro z; rw [fl_pos' z, fl_pos' z]; exact Int.ediv_le_ediv z hnk
    · intro z; rw [fl_neg' z, fl_neg' z]; exact Int.ediv_le_ediv (by omega) (by omega)
  rcases Int.lt_or_lt_of_ne hy with z | z <;> rcases h with ⟨a, b⟩ | ⟨a, b⟩
  · have := (m _ _ a).2 z; have := (m _ _ b).2 z; omega
  · have := (m _ _ a).2 z; have := (m _ _ b).2 z; omega
  · have := (m _ _ a).1 z; have := (m _ _ b).1 z; omega
  · have := (m _ _ a).1 z; have := (m _ _ b).1 z; omega
theorem zero_in {c d y : Int} (hz : zeroB c d = false) (h1 : c ≤ y) (h2 : y ≤ d) : y ≠ 0 ∧ zeroB y y = false := by
  rcases zeroB_f hz with z | z
  · exact ⟨by omega, zeroB_not (by omega)⟩
  · exact ⟨by omega, zeroB_not (by omega)⟩
theorem corner_fl {p q u c d y : Int} (hz : zeroB c d = false) (h1 : c ≤ y) (h2 : y ≤ d) (h : (p ≤ u ∧ u ≤ q) ∨ (q ≤ u ∧ u ≤ p)) :
    min (fl p c) (min (fl p d) (min (fl q c) (fl q d))) ≤ fl u y ∧ fl u y ≤ max (fl p c) (max (fl p d) (max (fl q c) (fl q d))) := by
  have a := fl_num (zero_in hz h1 h2).1 h
  have b := fl_mid (n := p) hz h1 h2
  have e := fl_mid (n := q) hz h1 h2
  omega
theorem corner_ce {p q u c d y : Int} (hz : zeroB c d = false) (h1 : c ≤ y) (h2 : y ≤ d) (h : (p ≤ u ∧ u ≤ q) ∨ (q ≤ u ∧ u ≤ p)) :
    min (ce p c) (min (ce p d) (min (ce q c) (ce q d))) ≤ ce u y ∧ ce u y ≤ max (ce p c) (max (ce p d) (max (ce q c) (ce q d))) := by
  have a := corner_fl (p := -p) (q := -q) (u := -u) hz h1 h2 (by omega)
  unfold ce
  omega

theorem held_add {a b c d x y P Q k p q j : Int} (x1 : a ≤ x) (x2 : x ≤ b) (y1 : c ≤ y) (y2 : y ≤ d) (e : fitF (a + c) (b + d) = .tuple #[.agg #[.int .i64 (P), .int .i64 (Q)], .int .i64 (k)]) (g : fitF (x + y) (x + y) = .tuple #[.agg #[.int .i64 (p), .int .i64 (q)], .int .i64 (j)]) : heldOK P Q k p q j :=
  held_fit e g (by omega) (by omega) (by omega)
theorem held_sub {a b c d x y P Q k p q j : Int} (x1 : a ≤ x) (x2 : x ≤ b) (y1 : c ≤ y) (y2 : y ≤ d) (e : fitF (a - d) (b - c) = .tuple #[.agg #[.int .i64 (P), .int .i64 (Q)], .int .i64 (k)]) (g : fitF (x - y) (x - y) = .tuple #[.agg #[.int .i64 (p), .int .i64 (q)], .int .i64 (j)]) : heldOK P Q k p q j :=
  held_fit e g (by omega) (by omega) (by omega)
theorem held_mul {a b c d x y P Q k p q j : Int} (x1 : a ≤ x) (x2 : x ≤ b) (y1 : c ≤ y) (y2 : y ≤ d)
    (e : fitF (fl (min (a * c) (min (a * d) (min (b * c) (b * d)))) 1073741824) (ce (max (a * c) (max (a * d) (max (b * c) (b * d)))) 1073741824) = .tuple #[.agg #[.int .i64 (P), .int .i64 (Q)], .int .i64 (k)])
    (g : fitF (fl (min (x * y) (min (x * y) (min (x * y) (x * y)))) 1073741824) (ce (max (x * y) (max (x * y) (max (x * y) (x * y)))) 1073741824) = .tuple #[.agg #[.int .i64 (p), .int .i64 (q)], .int .i64 (j)]) : heldOK P Q k p q j := by
  have m := prod_mid x1 x2 y1 y2
  have e1 : min (x * y) (min (x * y) (min (x * y) (x * y))) = x * y := by omega
  have e2 : max (x * y) (max (x * y) (max (x * y) (x * y))) = x * y := by omega
  rw [e1, e2] at g
  exact held_fit e g (fl30_mono m.1).1 (fl30_mono m.2).2.1 (fl30_mono (Int.le_refl _)).2.2
theorem held_square {a b x P Q k p q j : Int} (x1 : a ≤ x) (x2 : x ≤ b)
    (e : fitF (fl (sqLo a b) 1073741824) (ce (max (a * a) (b * b)) 1073741824) = .tuple #[.agg #[.int .i64 (P), .int .i64 (Q)], .int .i64 (k)]) (g : fitF (fl (sqLo x x) 1073741824) (ce (max (x * x) (x * x)) 1073741824) = .tuple #[.agg #[.int .i64 (p), .int .i64 (q)], .int .i64 (j)]) : heldOK P Q k p q j := by
  have nn : ∀ z : Int, 0 ≤ z * z := fun z => by rcases Int.le_total 0 z with g | g; exact Int.mul_nonneg g g; exact Int.mul_nonneg_of_nonpos_of_nonpos g g
  have e1 : sqLo x x = x * x := by
    unfold sqLo
    split
    · rename_i z; have := zeroB_t z; rw [show x = 0 by omega]; rfl
    · omega
  have e2 : max (x * x) (x * x) = x * x := by omega
  rw [e1, e2] at g
  have m1 : sqLo a b ≤ x * x := by
    unfold sqLo
    split
    · exact nn x
    · rename_i z
      rcases zeroB_f (by simpa using z) with z | z
      · have := sq_mono (show 0 ≤ a by omega) x1; omega
      · have := sq_mono (show 0 ≤ -b by omega) (show -b ≤ -x by omega)
        rw [Int.neg_mul_neg, Int.neg_mul_neg] at this; omega
  have m2 : x * x ≤ max (a * a) (b * b) := by
    rcases Int.le_total 0 x with h | h
    · have := sq_mono h x2; omega
    · have := sq_mono (show 0 ≤ -x by omega) (show -x ≤ -a by omega)
      rw [Int.neg_mul_neg, Int.neg_mul_neg] at this; omega
  exact held_fit e g (fl30_mono m1).1 (fl30_mono m2).2.1 (fl30_mono (Int.le_refl _)).2.2
theorem div_one {x y : Int} (_hy : y ≠ 0) : divLo x x y y = fl (x * 1073741824) y ∧ divHi x x y y = ce (x * 1073741824) y := by
  unfold divLo divHi; omega
theorem held_div {a b c d x y P Q k p q j : Int} (hz : zeroB c d = false) (x1 : a ≤ x) (x2 : x ≤ b) (y1 : c ≤ y) (y2 : y ≤ d)
    (e : fitF (divLo a b c d) (divHi a b c d) = .tuple #[.agg #[.int .i64 (P), .int .i64 (Q)], .int .i64 (k)]) (g : fitF (divLo x x y y) (divHi x x y y) = .tuple #[.agg #[.int .i64 (p), .int .i64 (q)], .int .i64 (j)]) : heldOK P Q k p q j := by
  have z := (zero_in hz y1 y2).1
  obtain ⟨e1, e2⟩ := div_one (x := x) z
  rw [e1, e2] at g
  have h1 := corner_fl (p := a * 1073741824) (q := b * 1073741824) (u := x * 1073741824) hz y1 y2 (by omega)
  have h2 := corner_ce (p := a * 1073741824) (q := b * 1073741824) (u := x * 1073741824) hz y1 y2 (by omega)
  exact held_fit e g h1.1 h2.2 (fl_le_ce' _ _ z).1
theorem held_ins {P Q p q : Int} (h1 : fixB p q = true) (h2 : fixB P Q = true) (h3 : P ≤ p) (h4 : q ≤ Q) : heldOK P Q 0 p q 0 := .inr (.inl ⟨rfl, insB_mk ⟨h1, h2, h3, h4⟩⟩)

theorem upRoot_le {m n s t : Int} (h : m ≤ n) (hs : isRoot m s) (ht : isRoot n t) : upRoot m s ≤ upRoot n t := by
  have a := isRoot_le h hs ht
  unfold upRoot
  split <;> split <;> (try omega)
  rename_i g1 g2
  rcases Int.lt_or_le s t with k | k
  · omega
  · obtain rfl : s = t := by omega
    have := hs.2.1
    have := ht.2.1
    omega
theorem upRoot_ge {m s : Int} : s ≤ upRoot m s := by unfold upRoot; split <;> omega
theorem upRoot_bd {m s : Int} (hm : m ≤ 2305843009213693952) (hs : isRoot m s) : upRoot m s ≤ 1518500250 := by
  have := iroot_bd hs.2.1 hm
  unfold upRoot; split <;> omega

theorem reach_in {L H l h : Int} (r1 : reachB L = true) (r2 : reachB H = true) (h1 : L ≤ l) (h2 : l ≤ h) (h3 : h ≤ H) : reachB l = true ∧ reachB h = true := by
  have a := reachB_t r1
  have b := reachB_t r2
  exact ⟨reachB_mk (by omega), reachB_mk (by omega)⟩

theorem scale_in {a b x n : Int} (x1 : a ≤ x) (x2 : x ≤ b) : cLo a b 1073741824 1073741824 n ≤ cLo x x 1073741824 1073741824 n ∧ cLo x x 1073741824 1073741824 n ≤ cHi x x 1073741824 1073741824 n ∧ cHi x x 1073741824 1073741824 n ≤ cHi a b 1073741824 1073741824 n := by
  have m := lin_mid (k := n) x1 x2
  rw [Int.mul_comm n a, Int.mul_comm n b, Int.mul_comm n x] at m
  unfold cLo cHi
  omega

theorem quo_in {a b c d x y n : Int} (hz : zeroB c d = false) (x1 : a ≤ x) (x2 : x ≤ b) (y1 : c ≤ y) (y2 : y ≤ d) :
    qLo a b c d n ≤ qLo x x y y n ∧ qLo x x y y n ≤ qHi x x y y n ∧ qHi x x y y n ≤ qHi a b c d n := by
  have z := (zero_in hz y1 y2).1
  have m := lin_mid (k := n) x1 x2
  rw [Int.mul_comm n a, Int.mul_comm n b, Int.mul_comm n x] at m
  have h1 := corner_fl (p := a * n) (q := b * n) (u := x * n) hz y1 y2 (by omega)
  have h2 := corner_ce (p := a * n) (q := b * n) (u := x * n) hz y1 y2 (by omega)
  have h3 := (fl_le_ce' (x * n) y z).1
  unfold qLo qHi
  omega

end Go.Proofs.Ytbglnncejfhlmaa
