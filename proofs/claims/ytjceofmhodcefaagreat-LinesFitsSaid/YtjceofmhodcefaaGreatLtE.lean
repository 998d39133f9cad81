/- Least of package lines for valid lines near one point: its result in numbers. -/
import Derived.Test.YtjceofmhodcefaaGreatLtD
import Derived.Test.YtjceofmhodcefaaGreatLtP
import Derived.Test.YtjceofmhodcefaaGreatLb
import Derived.Test.YtjceofmhodcefaaGreatLin7
namespace Go.Proofs.YtjceofmhodcefaaGreat
open Go.RowKit

theorem quot_fit3 (m n o p d x : Int) (w : World) (m0 : -137438953472 ≤ m) (m1 : m ≤ 137438953472) (n0 : -2147483648 ≤ n) (n1 : n ≤ 2147483648) (o0 : -137438953472 ≤ o) (o1 : o ≤ 137438953472) (p0 : -2147483648 ≤ p) (p1 : p ≤ 2147483648) (d0 : 0 < d) (d1 : d ≤ 9223372036854775807)
    (hx : (8192 * m * n - 8192 * o * p) / d = x) (x0 : -9223372036854775808 ≤ x) (x1 : x ≤ 9223372036854775807) :
    Calls Tryz.prog 17 #[.int .i64 m, .int .i64 n, .int .i64 o, .int .i64 p, .int .i64 d] w fun e w' => e = .returned (.tuple #[.int .i64 x, .int .i64 0]) ∧ Below w.heap.size w w' := by
  have b1 := mulB (a := 8192 * m) (b := n) (M := 1125899906842624) (N := 2147483648) (by omega) (by omega) n0 n1
  have b2 := mulB (a := 8192 * o) (b := p) (M := 1125899906842624) (N := 2147483648) (by omega) (by omega) p0 p1
  refine quotient_walk m n o p d (8192 * m) (8192 * o) _ _ _ _ _ _ x w (by rw [IntKind.wrap_i64]; omega) (by rw [IntKind.wrap_i64]; omega) (hidden fun w => product_ok (8192 * m) n w (by omega) (by omega) (by omega) (by omega) (fitsW_mk (by omega))) (hidden fun w => product_ok (8192 * o) p w (by omega) (by omega) (by omega) (by omega) (fitsW_mk (by omega)))
    (hidden fun w => wsub_walk _ _ _ _ _ _ w (wideB_mk (by omega)) (wideB_mk (by omega)) rfl rfl (wideB_mk (by omega))) (hidden fun w => wfloor_is _ _ _ x w (wideB_mk (by omega)) (by omega) (by omega) d1 ?_ ⟨x0, x1⟩)
  rw [fl_pos _ _ d0, ← hx]
  congr 1
  omega
theorem below_same3 {e : Ending} {w w' : World} {v : Value} (h : e = .returned v ∧ w = w') : e = .returned v ∧ Below w.heap.size w w' := ⟨h.1, h.2 ▸ Below.refl _ _⟩
theorem arcV_one {z : Int} (h0 : 0 ≤ z + 99999999) (h1 : z ≤ 99999999) : arcV z z = true := by simp [arcV]; omega
theorem quo_eq (a b c d : Int) : 8192 * a * b - 8192 * c * d = (a * b + -(c * d)) * 8192 := by
  rw [Int.mul_assoc 8192 a b, Int.mul_assoc 8192 c d]
  omega

set_option maxRecDepth 100000 in
set_option maxHeartbeats 1000000 in
theorem least_main37 (B oo n c : Nat) (f : Nat → Nat → Int) (w : World) (hl : LnS w B oo n f) (n2 : 2 ≤ n) (n16 : n ≤ 16) (hv : ∀ i, i < n → lineB (f i 0) (f i 1) (f i 2) (f i 3) (f i 4) (f i 5) = true) (hs : ∀ i, i < n → f i 0 = f 0 0 ∧ f i 1 = f 0 1) :
    Calls Tryz.prog 5 #[.slice (some ⟨B, oo, none⟩) n c] w (LeastR w n (detL f n) (xL f n) (yL f n) (f 0 0) (lonL f n) (rL f n)) := by
  obtain ⟨i0, hi, hz0, hz1, hz2⟩ : ∃ i0, Tryz.prog.info? 57 = some i0 ∧ i0.zero = some (.agg #[.int .i64 0, .int .i64 0, .int .i64 0]) ∧ i0.size = 3 ∧ i0.bytes = 24 := ⟨(Tryz.prog.info? 57).get (by kernel_rfl), (Option.some_get _).symm, by kernel_rfl, by kernel_rfl, by kernel_rfl⟩
  obtain ⟨i1, hj, hj0, hj1, hj2⟩ : ∃ i1, Tryz.prog.info? 3 = some i1 ∧ i1.zero = some (.int .i64 0) ∧ i1.size = 1 ∧ i1.bytes = 8 := ⟨(Tryz.prog.info? 3).get (by kernel_rfl), (Option.some_get _).symm, by kernel_rfl, by kernel_rfl, by kernel_rfl⟩
  have lb := fun i hi => lineB_u (hv i hi)
  have l0 := lb 0 (by omega)
  have bx := xL_bd n16 hv
  have bs := sums n16 hv n (Nat.le_refl _)
  have bd := dets n16 hv
  have kk := kL_bd (f := f) l0.1.1 l0.1.2
  have WE : ∀ q : Int, ∀ r : Bool, decide (-2000000 ≤ q ∧ q ≤ 2000000) = r → ∀ w, Calls Tryz.prog 18 #[.agg #[.int .i64 (q), .int .i64 (q)], .int .i64 2000000] w fun e w' => e = .returned (.bool r) ∧ Below w.heap.size w w' := fun q r hr w => by
    have k := withinE_any q q w
    rw [show withEB q q = r by rw [← hr]; simp [withEB]] at k
    exact k
  refine least_any37 B oo n c f (zL f) (fun i => bLo (zL f i)) (fun i => bHi (zL f i)) (fun i => bLo (zL f i + 5400000)) (fun i => bHi (zL f i + 5400000)) (sL f) (dL f) (pL f) (aL f) (bL f) (cL f) (uL f) (vL f) (kL f) (bHi (f 0 0 + 5400000)) (xL f n) (yL f n) (eL f n) (lonL f n) w hl n2 n16 i0 hi hz0 hz1 hz2 i1 hj hj0 hj1 hj2
    (hidden fun w h => given_walk B oo n c f (fun _ => true) 0 w h (by omega) (hidden fun i hi w => by have := lvalid_any (f i 0) (f i 1) (f i 2) (f i 3) (f i 4) (f i 5) w; rw [hv i hi] at this; exact this) (hidden fun _ _ h => by cases h) (hidden fun _ i hi h => absurd (hs i hi) h) (hidden fun _ _ => rfl))
    (hidden fun i hi w => middle_any (f i 2) (f i 3) w (by have := lb i hi; omega) (by have := lb i hi; omega) (by have := lb i hi; omega) (by have := lb i hi; omega))
    (hidden fun i _ w => lat_any _ w)
    (hidden fun i hi B w ok => by
      have lz : 0 ≤ zL f i ∧ zL f i ≤ 43200000 := by have := lb i hi; unfold zL; omega
      have := psin_any (zL f i) (zL f i) B w ok (arcV_one (by omega) (by omega))
      rw [(enc_point (zL f i)).1, (enc_point (zL f i)).2] at this
      exact this)
    (hidden fun i hi B w ok => by
      have lz : 0 ≤ zL f i ∧ zL f i ≤ 43200000 := by have := lb i hi; unfold zL; omega
      have := pcos_any (zL f i) (zL f i) B w ok (arcV_one (by omega) (by omega))
      rw [(enc_point (zL f i + 5400000)).1, (enc_point (zL f i + 5400000)).2] at this
      exact this)
    (hidden fun i _ w => (lfloor_any (bLo (zL f i)) 131072 w (by have := b_bd (zL f i); omega) (by have := b_bd (zL f i); omega) (by omega) (by omega)).mono fun e w' h => below_same3 h)
    (hidden fun i _ w => (lfloor_any (bLo (zL f i + 5400000)) 131072 w (by have := b_bd (zL f i + 5400000); omega) (by have := b_bd (zL f i + 5400000); omega) (by omega) (by omega)).mono fun e w' h => below_same3 h)
    (hidden fun i hi w => middle_any (f i 4) (f i 5) w (by have := lb i hi; omega) (by have := lb i hi; omega) (by have := lb i hi; omega) (by have := lb i hi; omega))
    (hidden (prods hv)) (hidden (sums n16 hv)) (hidden (sums_zero f)) (hidden fun k _ => sums_succ f k) (hidden bd)
    (hidden fun w => lat_any _ w)
    (hidden fun B w ok => by
      have := pcos_any (f 0 0) (f 0 0) B w ok (arcV_one (by omega) (by omega))
      rw [(enc_point (f 0 0 + 5400000)).1, (enc_point (f 0 0 + 5400000)).2] at this
      exact this)
    (hidden fun h w => ?qx) (hidden fun h w => ?qy)
    (hidden fun w => lat_any _ w) (hidden fun w => lat_any _ w) (hidden (WE _)) (hidden (WE _))
    (by omega) (by omega) (by omega) (by omega) (by omega) (by omega)
    (hidden fun F => rest_bd hv F.1.1 F.1.2 F.2.1.1 F.2.1.2)
    (hidden fun i hi w => ?fr)
    (hidden fun F w => ?fl)
    (hidden fun F => eL_bd l0.1.1 l0.1.2 F.1.1 F.1.2)
    (hidden fun F w => ?sg)
  case qx =>
    have h2 : ¬ detL f n < 1099511627776 := Int.not_lt.2 h
    have q : (uL f n * cL f n + -(vL f n * bL f n)) * 8192 / detL f n = xL f n := by unfold xL; rw [if_neg h2]
    exact quot_fit3 (uL f n) (cL f n) (vL f n) (bL f n) (detL f n) (xL f n) w (by omega) (by omega) (by omega) (by omega) (by omega) (by omega) (by omega) (by omega) (by omega) (by unfold detL; omega) (by rw [quo_eq]; exact q) (by omega) (by omega)
  case qy =>
    have h2 : ¬ detL f n < 1099511627776 := Int.not_lt.2 h
    have q : (vL f n * aL f n + -(uL f n * bL f n)) * 8192 / detL f n = yL f n := by unfold yL; rw [if_neg h2]
    exact quot_fit3 (vL f n) (aL f n) (uL f n) (bL f n) (detL f n) (yL f n) w (by omega) (by omega) (by omega) (by omega) (by omega) (by omega) (by omega) (by omega) (by omega) (by unfold detL; omega) (by rw [quo_eq]; exact q) (by omega) (by omega)
  case fr =>
    have s := sL_bd f i
    have d := dL_bd f i
    have m1 := mulB s.1 s.2 bx.1.1 bx.1.2
    have m2 := mulB d.1 d.2 bx.2.1 bx.2.2
    exact lfloor_any _ 8192 w (by omega) (by omega) (by omega) (by omega)
  case fl =>
    have x0 := F.1
    exact (lfloor_any (xL f n * 1073741824) (kL f) w (by omega) (by omega) (by omega) (by omega)).mono fun e w' h => below_same3 h
  case sg =>
    have e := eL_bd (n := n) l0.1.1 l0.1.2 F.1.1 F.1.2
    exact (signed_any (f 0 1 + eL f n) w (by omega) (by omega)).mono fun e w' h => below_same3 h

end Go.Proofs.YtjceofmhodcefaaGreat
