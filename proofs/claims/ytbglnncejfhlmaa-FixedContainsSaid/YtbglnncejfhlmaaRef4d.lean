/- The reference of layer 4: products of a range with a number, and quotients of two ranges times a number, each as a contract. -/
import Derived.Test.YtbglnncejfhlmaaRef4c
namespace Go.Proofs.Ytbglnncejfhlmaa
open Go.RowKit

def reachB (n : Int) : Bool := decide (-1099511627776 ≤ n) && decide (n ≤ 1099511627776)
theorem reachB_t {n : Int} (h : reachB n = true) : -1099511627776 ≤ n ∧ n ≤ 1099511627776 := by simp [reachB] at h; omega
theorem reachB_f {n : Int} (h : reachB n = false) : ¬ (-1099511627776 ≤ n ∧ n ≤ 1099511627776) := by intro ⟨a, b⟩; simp [reachB, a, b] at h
theorem reachB_mk {n : Int} (h : -1099511627776 ≤ n ∧ n ≤ 1099511627776) : reachB n = true := by simp [reachB]; omega
theorem reachB_not {n : Int} (h : ¬ (-1099511627776 ≤ n ∧ n ≤ 1099511627776)) : reachB n = false := by simp [reachB]; omega

theorem reaches_any (n : Int) (w : World) :
    Calls Try.prog 62 #[.int .i64 n] w fun e w' => e = .returned (.bool (reachB n)) ∧ w = w' := by
  by_cases h1 : -1099511627776 ≤ n
  · by_cases h2 : n ≤ 1099511627776
    · have H := hidden (reachB_mk ⟨h1, h2⟩)
      go_enter Try.func62, Try.ntmps62
      go_wp2
      go_ret
      exact ⟨by rw [H.out]; rfl, rfl⟩
    · have H := hidden (reachB_not (n := n) (by omega))
      go_enter Try.func62, Try.ntmps62
      go_wp2
      go_ret
      exact ⟨by rw [H.out]; rfl, rfl⟩
  · have H := hidden (reachB_not (n := n) (by omega))
    go_enter Try.func62, Try.ntmps62
    go_wp2
    go_ret
    exact ⟨by rw [H.out]; rfl, rfl⟩

theorem factor_any (n : Int) (w : World) :
    Calls Try.prog 61 #[.int .i64 n] w fun e w' => e = .returned (.bool (reachB n)) ∧ w = w' := by
  by_cases h1 : -1099511627776 ≤ n
  · by_cases h2 : n ≤ 1099511627776
    · have H := hidden (reachB_mk ⟨h1, h2⟩)
      go_enter Try.func61, Try.ntmps61
      go_wp2
      go_ret
      exact ⟨by rw [H.out]; rfl, rfl⟩
    · have H := hidden (reachB_not (n := n) (by omega))
      go_enter Try.func61, Try.ntmps61
      go_wp2
      go_ret
      exact ⟨by rw [H.out]; rfl, rfl⟩
  · have H := hidden (reachB_not (n := n) (by omega))
    go_enter Try.func61, Try.ntmps61
    go_wp2
    go_ret
    exact ⟨by rw [H.out]; rfl, rfl⟩

theorem mul_bd {x y X Y : Int} (hx : -X ≤ x ∧ x ≤ X) (hy : -Y ≤ y ∧ y ≤ Y) : -(X * Y) ≤ x * y ∧ x * y ≤ X * Y := by
  have e := Int.natAbs_mul x y
  have h : x.natAbs * y.natAbs ≤ X.toNat * Y.toNat := Nat.mul_le_mul (by omega) (by omega)
  rw [← e] at h
  have h2 : ((x * y).natAbs : Int) ≤ ((X.toNat * Y.toNat : Nat) : Int) := by exact_mod_cast h
  rw [Int.natCast_mul, Int.toNat_of_nonneg (by omega), Int.toNat_of_nonneg (by omega)] at h2
  omega

theorem times_math (x n y : Int) (x0 : -2147483648 ≤ x) (x1 : x ≤ 2147483648) (n0 : -1099511627776 ≤ n) (n1 : n ≤ 1099511627776) (y0 : 1 ≤ y) (y1 : y ≤ 2147483648)
    (o0 : -1152921504606846976 * y ≤ x * n) (o1 : x * n ≤ 1152921504606846976 * y) : ∃ low high p q s m f : Int,
    n.tmod 1048576 = low ∧ -1048576 ≤ low ∧ low ≤ 1048576 ∧ (n - low).tdiv 1048576 = high ∧ -1048576 ≤ high ∧ high ≤ 1048576 ∧ x * high = p ∧ -2251799813685248 ≤ p ∧ p ≤ 2251799813685248 ∧
    p / y = q ∧ -2199023255552 ≤ q ∧ q ≤ 2199023255552 ∧ q * y = s ∧ 0 ≤ p - s ∧ p - s ≤ 2147483648 ∧ x * low = m ∧ -2251799813685248 ≤ m ∧ m ≤ 2251799813685248 ∧
    ((p - s) * 1048576 + m) / y = f ∧ -4503599627370497 ≤ f ∧ f ≤ 4503599627370497 ∧ q * 1048576 + f = x * n / y := by
  have hl : n.tmod 1048576 = n - 1048576 * n.tdiv 1048576 := by have := Int.mul_tdiv_add_tmod n 1048576; omega
  have hb : -1048576 < n.tmod 1048576 ∧ n.tmod 1048576 < 1048576 := by
    have e := tmod_abs n 1048576
    have e2 : absI 1048576 = 1048576 := by decide
    rw [e2] at e
    have q1 := Int.emod_nonneg (absI n) (show (1048576 : Int) ≠ 0 by omega)
    have q2 := Int.emod_lt_of_pos (absI n) (show (0 : Int) < 1048576 by omega)
    split at e <;> omega
  have hh : (n - n.tmod 1048576).tdiv 1048576 = n.tdiv 1048576 := by
    rw [hl, show n - (n - 1048576 * n.tdiv 1048576) = n.tdiv 1048576 * 1048576 by omega]
    exact Int.mul_tdiv_cancel _ (by omega)
  generalize hlow : n.tmod 1048576 = low at *
  generalize hhigh : n.tdiv 1048576 = high at *
  have en : n = high * 1048576 + low := by omega
  have hb2 : -1048576 ≤ high ∧ high ≤ 1048576 := by omega
  have bp := mul_bd (X := 2147483648) (Y := 1048576) (x := x) (y := high) (by omega) (by omega)
  have bm := mul_bd (X := 2147483648) (Y := 1048576) (x := x) (y := low) (by omega) (by omega)
  have exn : x * n = x * high * 1048576 + x * low := by rw [en, Int.mul_add]; grind
  generalize hp : x * high = p at *
  generalize hm : x * low = m at *
  have ey : y ≠ 0 := by omega
  have e := Int.mul_ediv_add_emod p y
  have r0 := Int.emod_nonneg p ey
  have r1 := Int.emod_lt_of_pos p (show 0 < y by omega)
  have eq : y * (p / y) = p / y * y := Int.mul_comm _ _
  have q0 : -2199023255552 ≤ p / y := by
    apply (Int.le_ediv_iff_mul_le (by omega)).2; omega
  have q1 : p / y ≤ 2199023255552 := by
    have : p / y < 2199023255552 + 1 := Int.ediv_lt_of_lt_mul (by omega) (by omega)
    omega
  generalize hq : p / y = q at *
  generalize hs : q * y = s at *
  have f0 : -4503599627370497 ≤ ((p - s) * 1048576 + m) / y := by
    apply (Int.le_ediv_iff_mul_le (by omega)).2; omega
  have f1 : ((p - s) * 1048576 + m) / y ≤ 4503599627370497 := by
    have : ((p - s) * 1048576 + m) / y < 4503599627370497 + 1 := Int.ediv_lt_of_lt_mul (by omega) (by omega)
    omega
  refine ⟨low, high, p, q, s, m, _, rfl, by omega, by omega, hh, by omega, by omega, hp, by omega, by omega, hq, q0, q1, hs, by omega, by omega, hm, by omega, by omega, rfl, f0, f1, ?_⟩
  have e2 : x * n = q * 1048576 * y + ((p - s) * 1048576 + m) := by
    have : q * 1048576 * y = s * 1048576 := by rw [← hs]; grind
    rw [exn, this]; omega
  rw [e2, Int.add_comm (q * 1048576 * y), Int.add_mul_ediv_right _ _ ey]; omega

set_option maxHeartbeats 1000000 in
theorem times_any (x n y : Int) (w : World) (x0 : -2147483648 ≤ x) (x1 : x ≤ 2147483648) (n0 : -1099511627776 ≤ n) (n1 : n ≤ 1099511627776) (y0 : 1 ≤ y) (y1 : y ≤ 2147483648)
    (o0 : -1152921504606846976 * y ≤ x * n) (o1 : x * n ≤ 1152921504606846976 * y) :
    Calls Try.prog 68 #[.int .i64 x, .int .i64 n, .int .i64 y] w fun e w' => e = .returned (.int .i64 (x * n / y)) ∧ w = w' := by
  obtain ⟨low, high, p, q, s, m, f, e1, l0, l1, e2, h0, h1, e3, p0, p1, e4, q0, q1, e5, r0, r1, e6, m0, m1, e7, f0, f1, e8⟩ := times_math x n y x0 x1 n0 n1 y0 y1 o0 o1
  have FA := fun w => floor4_any p y w (by omega) (by omega) (by omega) (by omega)
  have FB := fun w => floor4_any ((p - s) * 1048576 + m) y w (by omega) (by omega) (by omega) (by omega)
  rw [e4] at FA
  rw [e7] at FB
  have w1 : IntKind.i64.wrap (x * high) = p := by rw [e3]; exact wrap_id (by omega) (by omega)
  have w2 : IntKind.i64.wrap (q * y) = s := by rw [e5]; exact wrap_id (by omega) (by omega)
  have w3 : IntKind.i64.wrap (x * low) = m := by rw [e6]; exact wrap_id (by omega) (by omega)
  replace FA := hidden FA
  replace FB := hidden FB
  replace e8 := hidden e8
  clear e3 e4 e5 e6 e7 o0 o1
  go_enter Try.func68, Try.ntmps68
  go_wp2_with (first | (go_at_call 52; ((with_reducible refine (FA.out _).mono ?_); rintro e w' ⟨rfl, rfl⟩)) | (go_at_call 52; ((with_reducible refine (FB.out _).mono ?_); rintro e w' ⟨rfl, rfl⟩)))
  go_ret
  exact ⟨ret_one e8.out, rfl⟩

end Go.Proofs.Ytbglnncejfhlmaa
