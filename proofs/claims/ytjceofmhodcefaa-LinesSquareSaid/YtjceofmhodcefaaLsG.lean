/- The best point of copies of two lines at right angles on the equator. -/
import Derived.Test.YtjceofmhodcefaaLsD
import Derived.Test.YtjceofmhodcefaaLsB
import Derived.Test.YtjceofmhodcefaaLinB
namespace Go.Proofs.Ytjceofmhodcefaa
open Go.RowKit

theorem mul_abs {a b M N : Int} (h0 : -M ≤ a) (h1 : a ≤ M) (h2 : -N ≤ b) (h3 : b ≤ N) : -(M * N) ≤ a * b ∧ a * b ≤ M * N := by
  have e := Int.natAbs_mul a b
  have h : a.natAbs * b.natAbs ≤ M.natAbs * N.natAbs := Nat.mul_le_mul (by omega) (by omega)
  rw [← e, ← Int.natAbs_mul] at h
  have p : 0 ≤ M * N := Int.mul_nonneg (by omega) (by omega)
  omega
/-- the quotient of package lines, where it fits -/
theorem quot_fits (m n o p d x : Int) (w : World) (m0 : -137438953472 ≤ m) (m1 : m ≤ 137438953472) (n0 : -2147483648 ≤ n) (n1 : n ≤ 2147483648) (o0 : -137438953472 ≤ o) (o1 : o ≤ 137438953472) (p0 : -2147483648 ≤ p) (p1 : p ≤ 2147483648) (d0 : 0 < d) (d1 : d ≤ 9223372036854775807)
    (hx : (8192 * m * n - 8192 * o * p) / d = x) (x0 : -9223372036854775808 ≤ x) (x1 : x ≤ 9223372036854775807) :
    Calls Try.prog 41 #[.int .i64 m, .int .i64 n, .int .i64 o, .int .i64 p, .int .i64 d] w fun e w' => e = .returned (.tuple #[.int .i64 x, .int .i64 0]) ∧ Below w.heap.size w w' := by
  have b1 := mul_abs (a := 8192 * m) (b := n) (M := 1125899906842624) (N := 2147483648) (by omega) (by omega) n0 n1
  have b2 := mul_abs (a := 8192 * o) (b := p) (M := 1125899906842624) (N := 2147483648) (by omega) (by omega) p0 p1
  refine quotient_walk m n o p d (8192 * m) (8192 * o) _ _ _ _ _ _ x w (by rw [IntKind.wrap_i64]; omega) (by rw [IntKind.wrap_i64]; omega) (hidden fun w => product_ok (8192 * m) n w (by omega) (by omega) (by omega) (by omega) (fitsW_mk (by omega))) (hidden fun w => product_ok (8192 * o) p w (by omega) (by omega) (by omega) (by omega) (fitsW_mk (by omega)))
    (hidden fun w => wsub_walk _ _ _ _ _ _ w (wideB_mk (by omega)) (wideB_mk (by omega)) rfl rfl (wideB_mk (by omega))) (hidden fun w => wfloor_is _ _ _ x w (wideB_mk (by omega)) (by omega) (by omega) d1 ?_ ⟨x0, x1⟩)
  rw [fl_pos _ _ d0, ← hx]
  congr 1
  omega
/-- one number for lines of even places, one for the others -/
def pick (i : Nat) (a b : Int) : Int := if i % 2 = 0 then a else b
theorem pick_cases (i : Nat) : (∀ a b, pick i a b = a) ∨ (∀ a b, pick i a b = b) := by
  unfold pick
  by_cases h : i % 2 = 0
  · exact .inl fun a b => if_pos h
  · exact .inr fun a b => if_neg h
def sqA (p l : Int) : Nat → Int
  | 0 => 0
  | 1 => l
  | 2 => 0
  | 3 => 0
  | _ => p
def sqB (q l : Int) : Nat → Int
  | 0 => 0
  | 1 => l
  | 2 => 5400000
  | 3 => 5400000
  | _ => q
def sqF (p q l : Int) (i j : Nat) : Int := pick i (sqA p l j) (sqB q l j)
theorem sm_sq (a b : Int) (m : Nat) : sm (fun i => pick i a b) (2 * m) = m * (a + b) := by
  induction m with
  | zero => simp [sm]
  | succ k ih =>
    rw [show 2 * (k + 1) = 2 * k + 1 + 1 by omega]
    simp only [sm, ih]
    have e0 : pick (2 * k) a b = a := if_pos (by omega)
    have e1 : pick (2 * k + 1) a b = b := if_neg (by omega)
    rw [e0, e1, Int.natCast_add, Int.add_mul]
    omega

set_option maxRecDepth 100000 in
set_option maxHeartbeats 1000000 in
theorem sq_least (B m c : Nat) (p q l : Int) (w : World) (hl : LnS w B (2 * m) (sqF p q l)) (m1 : 1 ≤ m) (m8 : m ≤ 8) (p0 : -600000 ≤ p) (p1 : p ≤ 600000) (q0 : -600000 ≤ q) (q1 : q ≤ 600000) (l0 : -10800000 ≤ l) (l1 : l < 10800000) :
    Calls Try.prog 13 #[.slice (some ⟨B, 0, none⟩) (2 * m) c] w fun e w' => (∃ gg cap : Nat, e = .returned (.tuple #[.agg #[.int .i64 p, .int .i64 (sgn (l + q))], .slice (some ⟨gg, 0, none⟩) (2 * m) cap, .int .i64 0]) ∧ ∀ i, i < 2 * m → w'.cell? ⟨gg, i, none⟩ = some (.int .i64 0)) ∧ Below w.heap.size w w' := by
  obtain ⟨i0, hi, hz0, hz1, hz2⟩ : ∃ i0, Try.prog.info? 77 = some i0 ∧ i0.zero = some (.agg #[.int .i64 0, .int .i64 0, .int .i64 0]) ∧ i0.size = 3 ∧ i0.bytes = 24 := ⟨(Try.prog.info? 77).get (by kernel_rfl), (Option.some_get _).symm, by kernel_rfl, by kernel_rfl, by kernel_rfl⟩
  obtain ⟨i1, hj, hj0, hj1, hj2⟩ : ∃ i1, Try.prog.info? 3 = some i1 ∧ i1.zero = some (.int .i64 0) ∧ i1.size = 1 ∧ i1.bytes = 8 := ⟨(Try.prog.info? 3).get (by kernel_rfl), (Option.some_get _).symm, by kernel_rfl, by kernel_rfl, by kernel_rfl⟩
  have s0 := sgn_part (l + q)
  have gv : ∀ i, i < 2 * m → lineB (sqF p q l i 0) (sqF p q l i 1) (sqF p q l i 2) (sqF p q l i 3) (sqF p q l i 4) (sqF p q l i 5) = true := by
    intro i _
    refine lineB_mk ?_
    unfold sqF
    rcases pick_cases i with h | h <;> (simp only [h, sqA, sqB, nearB]; refine ⟨by simp; omega, by omega, by omega, by omega, by omega, by omega, by omega, by omega⟩)
  have aa : sm (fun i => pick i 0 8192 * pick i 0 8192) (2 * m) = m * 67108864 := by
    rw [show (fun i => pick i 0 8192 * pick i 0 8192) = fun i => pick i 0 67108864 from funext fun i => by rcases pick_cases i with h | h <;> simp [h], sm_sq]; omega
  have ab : sm (fun i => pick i 0 8192 * pick i 8192 0) (2 * m) = 0 := by
    rw [show (fun i => pick i 0 8192 * pick i 8192 0) = fun i => pick i 0 0 from funext fun i => by rcases pick_cases i with h | h <;> simp [h], sm_sq]; omega
  have ac : sm (fun i => pick i 8192 0 * pick i 8192 0) (2 * m) = m * 67108864 := by
    rw [show (fun i => pick i 8192 0 * pick i 8192 0) = fun i => pick i 67108864 0 from funext fun i => by rcases pick_cases i with h | h <;> simp [h], sm_sq]; omega
  have au : sm (fun i => pick i 0 8192 * pick i p q) (2 * m) = m * (8192 * q) := by
    rw [show (fun i => pick i 0 8192 * pick i p q) = fun i => pick i 0 (8192 * q) from funext fun i => by rcases pick_cases i with h | h <;> simp [h], sm_sq, Int.zero_add]
  have av : sm (fun i => pick i 8192 0 * pick i p q) (2 * m) = m * (8192 * p) := by
    rw [show (fun i => pick i 8192 0 * pick i p q) = fun i => pick i (8192 * p) 0 from funext fun i => by rcases pick_cases i with h | h <;> simp [h], sm_sq, Int.add_zero]
  have qx : (8192 * ((m : Int) * (8192 * q)) * (m * 67108864) - 8192 * ((m : Int) * (8192 * p)) * 0) / ((m : Int) * 67108864 * (m * 67108864) - 0 * 0) = q := by
    have hm : m = 1 ∨ m = 2 ∨ m = 3 ∨ m = 4 ∨ m = 5 ∨ m = 6 ∨ m = 7 ∨ m = 8 := by omega
    rcases hm with rfl | rfl | rfl | rfl | rfl | rfl | rfl | rfl <;> omega
  have qy : (8192 * ((m : Int) * (8192 * p)) * (m * 67108864) - 8192 * ((m : Int) * (8192 * q)) * 0) / ((m : Int) * 67108864 * (m * 67108864) - 0 * 0) = p := by
    have hm : m = 1 ∨ m = 2 ∨ m = 3 ∨ m = 4 ∨ m = 5 ∨ m = 6 ∨ m = 7 ∨ m = 8 := by omega
    rcases hm with rfl | rfl | rfl | rfl | rfl | rfl | rfl | rfl <;> omega
  have dd : 1099511627776 ≤ (m : Int) * 67108864 * (m * 67108864) - 0 * 0 ∧ (m : Int) * 67108864 * (m * 67108864) - 0 * 0 ≤ 1152921504606846976 := by
    have hm : m = 1 ∨ m = 2 ∨ m = 3 ∨ m = 4 ∨ m = 5 ∨ m = 6 ∨ m = 7 ∨ m = 8 := by omega
    rcases hm with rfl | rfl | rfl | rfl | rfl | rfl | rfl | rfl <;> omega
  have bu : (-137438953472 ≤ (m : Int) * (8192 * q) ∧ (m : Int) * (8192 * q) ≤ 137438953472) ∧ -137438953472 ≤ (m : Int) * (8192 * p) ∧ (m : Int) * (8192 * p) ≤ 137438953472 := by
    have hm : m = 1 ∨ m = 2 ∨ m = 3 ∨ m = 4 ∨ m = 5 ∨ m = 6 ∨ m = 7 ∨ m = 8 := by omega
    rcases hm with rfl | rfl | rfl | rfl | rfl | rfl | rfl | rfl <;> omega
  have bs : ∀ i, i < 2 * m → (-67108864 ≤ pick i 0 8192 * pick i 0 8192 ∧ pick i 0 8192 * pick i 0 8192 ≤ 67108864) ∧ (-67108864 ≤ pick i 0 8192 * pick i 8192 0 ∧ pick i 0 8192 * pick i 8192 0 ≤ 67108864) ∧ (-67108864 ≤ pick i 8192 0 * pick i 8192 0 ∧ pick i 8192 0 * pick i 8192 0 ≤ 67108864) ∧ (-4915200000 ≤ pick i 0 8192 * pick i p q ∧ pick i 0 8192 * pick i p q ≤ 4915200000) ∧ (-4915200000 ≤ pick i 8192 0 * pick i p q ∧ pick i 8192 0 * pick i p q ≤ 4915200000) := by
    intro i _
    rcases pick_cases i with h | h <;> (simp only [h]; omega)
  have CW : ∀ (e : Ending) (w w' : World) (v : Value), (e = .returned v ∧ w = w') → e = .returned v ∧ Below w.heap.size w w' := fun e w w' v h => ⟨h.1, h.2 ▸ Below.refl _ _⟩
  have WE : ∀ n : Int, -600000 ≤ n → n ≤ 600000 → Hid (∀ w, Calls Try.prog 31 #[.agg #[.int .i64 (n), .int .i64 (n)], .int .i64 2000000] w fun e w' => e = .returned (.bool true) ∧ Below w.heap.size w w') := fun n h0 h1 => hidden fun w => by
    have k := withinE_any n n w
    rw [show withEB n n = true by simp [withEB]; omega] at k
    exact k
  have fz : sqF p q l 0 0 = 0 := rfl
  have fo : sqF p q l 0 1 = l := rfl
  have K := least_ok B (2 * m) c (sqF p q l) (fun i => pick i 0 5400000) (fun i => pick i 0 1073741824) (fun i => pick i 0 1073741824) (fun i => pick i 1073741824 0) (fun i => pick i 1073741824 0) (fun i => pick i 0 8192) (fun i => pick i 8192 0) (fun i => pick i p q)
    (sm fun i => pick i 0 8192 * pick i 0 8192) (sm fun i => pick i 0 8192 * pick i 8192 0) (sm fun i => pick i 8192 0 * pick i 8192 0) (sm fun i => pick i 0 8192 * pick i p q) (sm fun i => pick i 8192 0 * pick i p q) 1073741824 1073741824 q p q (sgn (l + q)) w hl (by omega) (by omega) i0 hi hz0 hz1 hz2 i1 hj hj0 hj1 hj2
    (hidden fun w h => given_walk B (2 * m) c (sqF p q l) (fun _ => true) 0 w h (by omega) (hidden fun i hi w => by have := lvalid_any (sqF p q l i 0) (sqF p q l i 1) (sqF p q l i 2) (sqF p q l i 3) (sqF p q l i 4) (sqF p q l i 5) w; rw [gv i hi] at this; exact this) (hidden fun _ _ h => by cases h) (hidden fun _ i _ h => absurd (by unfold sqF; rcases pick_cases i with e | e <;> rcases pick_cases 0 with e2 | e2 <;> simp [e, e2, sqA, sqB]) h) (hidden fun _ _ => rfl))
    (hidden fun i _ w => by unfold sqF; rcases pick_cases i with h | h <;> simp only [h, sqA, sqB]; exact middle_any 0 0 w (by decide) (by decide) (by decide) (by decide); exact middle_any 5400000 5400000 w (by decide) (by decide) (by decide) (by decide))
    (hidden fun i _ w => lat_any _ w)
    (hidden fun i _ B w ok => by rcases pick_cases i with h | h <;> simp only [h]; exact sin_0 B w ok; exact sin_q B w ok)
    (hidden fun i _ B w ok => by rcases pick_cases i with h | h <;> simp only [h]; exact cos_0 B w ok; exact cos_q B w ok)
    (hidden fun i _ w => by rcases pick_cases i with h | h <;> simp only [h]; exact (lfloor_any 0 131072 w (by decide) (by decide) (by decide) (by decide)).mono fun e w' h => CW e w w' _ h; exact (lfloor_any 1073741824 131072 w (by decide) (by decide) (by decide) (by decide)).mono fun e w' h => CW e w w' _ h)
    (hidden fun i _ w => by rcases pick_cases i with h | h <;> simp only [h]; exact (lfloor_any 1073741824 131072 w (by decide) (by decide) (by decide) (by decide)).mono fun e w' h => CW e w w' _ h; exact (lfloor_any 0 131072 w (by decide) (by decide) (by decide) (by decide)).mono fun e w' h => CW e w w' _ h)
    (hidden fun i _ w => by
      have P := middle_any p p w (by omega) (by omega) (by omega) (by omega)
      have Q := middle_any q q w (by omega) (by omega) (by omega) (by omega)
      rw [show (p + p) / 2 = p by omega] at P
      rw [show (q + q) / 2 = q by omega] at Q
      unfold sqF; rcases pick_cases i with h | h <;> simp only [h, sqA, sqB]
      · exact P
      · exact Q)
    (hidden bs)
    (hidden fun k hk => by
      have t1 := sm_bd (fun i hi => (bs i hi).1) (by decide) k hk
      have t2 := sm_bd (fun i hi => (bs i hi).2.1) (by decide) k hk
      have t3 := sm_bd (fun i hi => (bs i hi).2.2.1) (by decide) k hk
      have t4 := sm_bd (fun i hi => (bs i hi).2.2.2.1) (by decide) k hk
      have t5 := sm_bd (fun i hi => (bs i hi).2.2.2.2) (by decide) k hk
      refine ⟨by omega, by omega, by omega, by omega, by omega⟩)
    (hidden ⟨rfl, rfl, rfl, rfl, rfl⟩) (hidden fun k _ => ⟨rfl, rfl, rfl, rfl, rfl⟩)
    (hidden (by rw [aa, ab, ac]; omega))
    (hidden fun w => lat_any _ w) (hidden cos_0) (by rw [aa, ab, ac]; omega)
    (hidden fun w => by rw [aa, ab, ac, au, av]; exact quot_fits _ _ _ _ _ _ w (by omega) (by omega) (by omega) (by omega) (by omega) (by omega) (by omega) (by omega) (by omega) (by omega) qx (by omega) (by omega))
    (hidden fun w => by rw [aa, ab, ac, au, av]; exact quot_fits _ _ _ _ _ _ w (by omega) (by omega) (by omega) (by omega) (by omega) (by omega) (by omega) (by omega) (by omega) (by omega) qy (by omega) (by omega))
    (hidden fun w => lat_any _ w) (hidden fun w => lat_any _ w) (WE q q0 q1) (WE p p0 p1) (by omega) (by omega) (by omega) (by omega) (by rw [fz]; omega) (by rw [fz]; omega) (by rw [fo]; omega) (by rw [fo]; omega) (by rw [fz]; omega) (by rw [fz]; omega)
    (hidden fun i _ => by rcases pick_cases i with h | h <;> (simp only [h]; omega))
    (hidden fun i _ w => lfloor_any _ 8192 w (by rcases pick_cases i with h | h <;> (simp only [h]; omega)) (by rcases pick_cases i with h | h <;> (simp only [h]; omega)) (by decide) (by decide))
    (hidden fun w => by
      have F := lfloor_any (q * 1073741824) 1073741824 w (by omega) (by omega) (by decide) (by decide)
      rw [show q * 1073741824 / 1073741824 = q by omega] at F
      exact F.mono fun e w' h => CW e w w' _ h)
    (by omega) (hidden fun w => by rw [fo]; exact (signed_any (l + q) w (by omega) (by omega)).mono fun e w' h => CW e w w' _ h)
  refine K.mono fun e w' h => ?_
  obtain ⟨⟨gg, cap, rfl, hc⟩, hb⟩ := h
  refine ⟨⟨gg, cap, by rw [fz, show (0 : Int) + p = p by omega], fun i hi => ?_⟩, hb⟩
  have e : pick i p q - (pick i 0 8192 * q + pick i 8192 0 * p) / 8192 = 0 := by rcases pick_cases i with h | h <;> (simp only [h]; omega)
  have k : w'.cell? ⟨gg, i, none⟩ = some (.int .i64 (pick i p q - (pick i 0 8192 * q + pick i 8192 0 * p) / 8192)) := hc i hi
  rw [e] at k
  exact k

end Go.Proofs.Ytjceofmhodcefaa
