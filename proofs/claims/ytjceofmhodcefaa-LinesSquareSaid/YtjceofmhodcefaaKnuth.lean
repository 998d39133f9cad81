/- Plain arithmetic for the long division of two words by one word: the digit that is guessed is corrected to the true one. -/
namespace Go.Proofs.Ytjceofmhodcefaa
namespace Knuth

/-- what a guess of a digit fulfils: B is 4294967296 -/
structure Good (yy d1 d0 U l a b : Int) : Prop where
  eq : a * d1 + b = U
  b0 : 0 ≤ b
  b1 : b ≤ 4294967295
  lo : (U * 4294967296 + l) / yy ≤ a
  hi : a ≤ 4294967297

/-- the frame of a digit -/
structure Base (yy d1 d0 U l : Int) : Prop where
  yy_eq : yy = d1 * 4294967296 + d0
  d1lo : 2147483648 ≤ d1
  d1hi : d1 ≤ 4294967295
  d0lo : 0 ≤ d0
  d0hi : d0 ≤ 4294967295
  Ulo : 0 ≤ U
  Uhi : U < yy
  llo : 0 ≤ l
  lhi : l ≤ 4294967295

theorem mul_yy {yy d1 d0 U l : Int} (h : Base yy d1 d0 U l) (a : Int) : a * yy = (a * d1) * 4294967296 + a * d0 := by
  rw [h.yy_eq, Int.mul_add, Int.mul_assoc]

theorem ypos {yy d1 d0 U l : Int} (h : Base yy d1 d0 U l) : 0 < yy := by
  have := h.yy_eq; have := h.d1lo; have := h.d0lo; omega

theorem digit_hi {yy d1 d0 U l : Int} (h : Base yy d1 d0 U l) : (U * 4294967296 + l) / yy ≤ 4294967295 := by
  have hp := ypos h
  have h1 := h.Uhi; have h2 := h.lhi
  have : (U * 4294967296 + l) / yy < 4294967296 := Int.ediv_lt_of_lt_mul hp (by omega)
  omega

theorem digit_lo {yy d1 d0 U l : Int} (h : Base yy d1 d0 U l) : 0 ≤ (U * 4294967296 + l) / yy := by
  have h1 := h.Ulo; have h2 := h.llo
  exact Int.ediv_nonneg (by omega) (Int.le_of_lt (ypos h))

theorem start {yy d1 d0 U l : Int} (h : Base yy d1 d0 U l) : Good yy d1 d0 U l (U / d1) (U - U / d1 * d1) := by
  have hd : 0 < d1 := by have := h.d1lo; omega
  have hp := ypos h
  have e := Int.mul_ediv_add_emod U d1
  have m0 := Int.emod_nonneg U (Int.ne_of_gt hd)
  have m1 := Int.emod_lt_of_pos U hd
  rw [Int.mul_comm] at e
  have h3 := h.d1hi
  refine ⟨by omega, by omega, by omega, ?_, ?_⟩
  · have q1 := Int.ediv_mul_le (U * 4294967296 + l) (Int.ne_of_gt hp)
    generalize hq : (U * 4294967296 + l) / yy = q at *
    have q0 : 0 ≤ q := by rw [← hq]; exact digit_lo h
    rw [mul_yy h] at q1
    have := Int.mul_nonneg q0 h.d0lo
    have := h.lhi
    exact (Int.le_ediv_iff_mul_le hd).2 (by omega)
  · have h5 : U < 4294967298 * d1 := by
      have := h.Uhi; have := h.yy_eq; have := h.d0hi; have := h.d1lo; omega
    have := Int.ediv_lt_of_lt_mul hd h5
    omega

theorem prod_lo {yy d1 d0 U l a b : Int} (h : Base yy d1 d0 U l) (g : Good yy d1 d0 U l a b) : 0 ≤ a * d0 :=
  Int.mul_nonneg (Int.le_trans (digit_lo h) g.lo) h.d0lo

theorem prod_hi {yy d1 d0 U l a b : Int} (h : Base yy d1 d0 U l) (g : Good yy d1 d0 U l a b) : a * d0 ≤ 18446744073709551615 := by
  have a0 := Int.le_trans (digit_lo h) g.lo
  have : a * d0 ≤ 4294967297 * 4294967295 := Int.mul_le_mul g.hi h.d0hi h.d0lo (by decide)
  omega

/-- the test says no: the guess is the digit -/
theorem done {yy d1 d0 U l a b : Int} (h : Base yy d1 d0 U l) (g : Good yy d1 d0 U l a b) (_h1 : a < 4294967296) (h2 : a * d0 ≤ 4294967296 * b + l) : a = (U * 4294967296 + l) / yy := by
  have hp := ypos h
  have e := mul_yy h a
  have g1 := g.eq
  have : a ≤ (U * 4294967296 + l) / yy := (Int.le_ediv_iff_mul_le hp).2 (by omega)
  have := g.lo
  omega

/-- the test says yes: the guess is too great -/
theorem less {yy d1 d0 U l a b : Int} (h : Base yy d1 d0 U l) (g : Good yy d1 d0 U l a b) (h2 : 4294967296 ≤ a ∨ 4294967296 * b + l < a * d0) : (U * 4294967296 + l) / yy ≤ a - 1 := by
  have hp := ypos h
  rcases h2 with h2 | h2
  · have := digit_hi h; omega
  · have e := mul_yy h a
    have g1 := g.eq
    have : (U * 4294967296 + l) / yy < a := Int.ediv_lt_of_lt_mul hp (by omega)
    omega

theorem step {yy d1 d0 U l a b : Int} (h : Base yy d1 d0 U l) (g : Good yy d1 d0 U l a b) (h2 : 4294967296 ≤ a ∨ 4294967296 * b + l < a * d0) (h3 : b + d1 ≤ 4294967295) : Good yy d1 d0 U l (a - 1) (b + d1) := by
  have l1 := less h g h2
  have g1 := g.eq; have g2 := g.b0; have g3 := g.hi; have := h.d1lo
  refine ⟨?_, by omega, h3, l1, by omega⟩
  rw [Int.sub_mul]; omega

theorem out {yy d1 d0 U l a b : Int} (h : Base yy d1 d0 U l) (g : Good yy d1 d0 U l a b) (h2 : 4294967296 ≤ a ∨ 4294967296 * b + l < a * d0) (h3 : 4294967296 ≤ b + d1) : a - 1 = (U * 4294967296 + l) / yy := by
  have hp := ypos h
  have l1 := less h g h2
  have e := mul_yy h (a - 1)
  have g1 := g.eq
  have g3 := g.hi
  have e2 : (a - 1) * d1 = a * d1 - d1 := by rw [Int.sub_mul]; omega
  have p0 : 0 ≤ a - 1 := Int.le_trans (digit_lo h) l1
  have p1 : (a - 1) * d0 ≤ 4294967296 * 4294967295 := Int.mul_le_mul (by omega) h.d0hi h.d0lo (by decide)
  have := h.llo
  have : a - 1 ≤ (U * 4294967296 + l) / yy := (Int.le_ediv_iff_mul_le hp).2 (by omega)
  omega

end Knuth
end Go.Proofs.Ytjceofmhodcefaa
