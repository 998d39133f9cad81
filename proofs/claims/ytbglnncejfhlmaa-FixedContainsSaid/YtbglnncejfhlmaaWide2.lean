/- Products and sizes of package wide, each as a contract. -/
import Derived.Test.YtbglnncejfhlmaaWide
namespace Go.Proofs.Ytbglnncejfhlmaa
open Go.RowKit

set_option maxHeartbeats 1000000 in
theorem sizew_pos (h l x y : Int) (w : World) (h0 : 0 ≤ h) (h1 : h < 72057594037927936) (h2 : 0 ≤ l) (h3 : l ≤ 18446744073709551615)
    (hx : h * 16 + l / 1152921504606846976 = x) (hy : l % 1152921504606846976 = y) :
    Calls Try.prog 71 #[.agg #[.int .u64 h, .int .u64 l, .bool false]] w fun e w' => e = .returned (.tuple #[.agg #[.int .i64 (x), .int .i64 (y)], .int .i64 (0)]) ∧ Below w.heap.size w w' := by
  have ho := Wd.or_top h l h0 (by omega) h2 h3
  have ha := Wd.and_low60 l h2 h3
  have hs : IntKind.u64.wrap (h * 16) = h * 16 := IntWalk.u64_in _ (by omega)
  rw [hx] at ho
  rw [hy] at ha
  have F := fun w => wfit_ok x y x y w (by omega) (by omega) (by omega) (by omega) (by omega) (by omega) (wideB_mk (by omega))
  replace F := hidden F
  have b0 : 0 ≤ x := by omega
  have b1 : x < 1152921504606846976 := by omega
  have b2 : 0 ≤ y := by omega
  have b3 : y < 1152921504606846976 := by omega
  clear hx hy
  go_enter Try.func71, Try.ntmps71
  go_wp2
  go_quiet (fail)
  clear ho ha hs
  go_wp2_with (go_at_call 73; refine (F.out _).mono ?_; rintro e w' ⟨rfl, hb⟩; (try replace hb := below_undrew hb); (try replace hb := below_undrewN hb); obtain ⟨hcell, hfroz⟩ := bcell hb; have hz := hb.size; (try simp at hz); (try (have z6 := Nat.lt_of_lt_of_le z7 hz)); (try (have z7 := Nat.lt_of_lt_of_le z8 hz)); (try (have z8 := Nat.lt_of_lt_of_le z9 hz)); (try (have z9 := Nat.lt_of_lt_of_le (Nat.lt_succ_self _) hz)); (try (have z0 : w.heap.size < w'.heap.size := by omega)); (try (have z1 : w.heap.size + 1 < w'.heap.size := by omega)); (try (have z2 : w.heap.size + 1 + 1 < w'.heap.size := by omega)); (try (have z3 : w.heap.size + 1 + 1 + 1 < w'.heap.size := by omega)); (try (have y1 : w1.heap.size < w'.heap.size := by omega)); (try (have y2 : w2.heap.size < w'.heap.size := by omega)); (try (have y3 : w3.heap.size < w'.heap.size := by omega)); (try (have y4 : w4.heap.size < w'.heap.size := by omega)); (try (have y5 : w5.heap.size < w'.heap.size := by omega)); (try (have y6 : w6.heap.size < w'.heap.size := by omega)))
  exact bodyPost_ret (v := .tuple #[.agg #[.int .i64 (x), .int .i64 (y)], .int .i64 (0)]) (by first | (simp only [results, Try.results71]; go_simp; done) | simp [results, Try.results71, go_sem, *]) rfl ⟨rfl, by (repeat (first | exact Below.refl _ _ | refine bl_drewN ?_ | refine bl_drew ?_ | refine bl_alloc ?_ _ | refine Below.setCell ?_ (by (first | (simp; done) | (simp; omega) | omega)) _ | refine bl_step (by assumption) ?_))⟩

set_option maxHeartbeats 1000000 in
theorem sizew_neg (h l x y X Y : Int) (w : World) (h0 : 0 ≤ h) (h1 : h < 72057594037927936 ∨ (h = 72057594037927936 ∧ l = 0)) (h2 : 0 ≤ l) (h3 : l ≤ 18446744073709551615)
    (hx : h * 16 + l / 1152921504606846976 = x) (hy : l % 1152921504606846976 = y) (hX : -x + -y / 1152921504606846976 = X) (hY : -y % 1152921504606846976 = Y) :
    Calls Try.prog 71 #[.agg #[.int .u64 h, .int .u64 l, .bool true]] w fun e w' => e = .returned (.tuple #[.agg #[.int .i64 (X), .int .i64 (Y)], .int .i64 (0)]) ∧ Below w.heap.size w w' := by
  have ho := Wd.or_top h l h0 (by omega) h2 h3
  have ha := Wd.and_low60 l h2 h3
  have hs : IntKind.u64.wrap (h * 16) = h * 16 := IntWalk.u64_in _ (by omega)
  rw [hx] at ho
  rw [hy] at ha
  have F := fun w => wfit_ok (-x) (-y) X Y w (by omega) (by omega) (by omega) (by omega) hX hY (wideB_mk (by omega))
  replace F := hidden F
  have b0 : 0 ≤ x := by omega
  have b1 : x ≤ 1152921504606846976 := by omega
  have b2 : 0 ≤ y := by omega
  have b3 : y < 1152921504606846976 := by omega
  clear hx hy hX hY
  have hc : (72057594037927936 ≤ h ∧ h ≤ 72057594037927936 ∧ l ≤ 0) ∨ h < 72057594037927936 := by omega
  clear h1
  rcases hc with ⟨c1, c2, c3⟩ | c1
  case' inl => have c4 : (h == 72057594037927936) = true := by rw [show h = 72057594037927936 by omega]; rfl
  all_goals
    go_enter Try.func71, Try.ntmps71
    go_wp2
    go_quiet (fail)
    clear ho ha hs
    go_wp2_with (go_at_call 73; refine (F.out _).mono ?_; rintro e w' ⟨rfl, hb⟩; (try replace hb := below_undrew hb); (try replace hb := below_undrewN hb); obtain ⟨hcell, hfroz⟩ := bcell hb; have hz := hb.size; (try simp at hz); (try (have z6 := Nat.lt_of_lt_of_le z7 hz)); (try (have z7 := Nat.lt_of_lt_of_le z8 hz)); (try (have z8 := Nat.lt_of_lt_of_le z9 hz)); (try (have z9 := Nat.lt_of_lt_of_le (Nat.lt_succ_self _) hz)); (try (have z0 : w.heap.size < w'.heap.size := by omega)); (try (have z1 : w.heap.size + 1 < w'.heap.size := by omega)); (try (have z2 : w.heap.size + 1 + 1 < w'.heap.size := by omega)); (try (have z3 : w.heap.size + 1 + 1 + 1 < w'.heap.size := by omega)); (try (have y1 : w1.heap.size < w'.heap.size := by omega)); (try (have y2 : w2.heap.size < w'.heap.size := by omega)); (try (have y3 : w3.heap.size < w'.heap.size := by omega)); (try (have y4 : w4.heap.size < w'.heap.size := by omega)); (try (have y5 : w5.heap.size < w'.heap.size := by omega)); (try (have y6 : w6.heap.size < w'.heap.size := by omega)))
    exact bodyPost_ret (v := .tuple #[.agg #[.int .i64 (X), .int .i64 (Y)], .int .i64 (0)]) (by first | (simp only [results, Try.results71]; go_simp; done) | simp [results, Try.results71, go_sem, *]) rfl ⟨rfl, by (repeat (first | exact Below.refl _ _ | refine bl_drewN ?_ | refine bl_drew ?_ | refine bl_alloc ?_ _ | refine Below.setCell ?_ (by (first | (simp; done) | (simp; omega) | omega)) _ | refine bl_step (by assumption) ?_))⟩

set_option maxHeartbeats 1000000 in
theorem sizew_big (h l : Int) (n : Bool) (w : World) (_h0 : 0 ≤ h) (h1 : 72057594037927936 < h ∨ (h = 72057594037927936 ∧ (0 < l ∨ n = false))) (_h2 : 0 ≤ l) :
    Calls Try.prog 71 #[.agg #[.int .u64 h, .int .u64 l, .bool n]] w fun e w' => e = .returned (.tuple #[.agg #[.int .i64 (0), .int .i64 (0)], .int .i64 (5)]) ∧ Below w.heap.size w w' := by
  rcases h1 with h1 | ⟨rfl, h1 | rfl⟩
  · go_enter Try.func71, Try.ntmps71
    go_wp2
    exact bodyPost_ret (v := .tuple #[.agg #[.int .i64 (0), .int .i64 (0)], .int .i64 (5)]) (by first | (simp only [results, Try.results71]; go_simp; done) | simp [results, Try.results71, go_sem, *]) rfl ⟨rfl, by (repeat (first | exact Below.refl _ _ | refine bl_drewN ?_ | refine bl_drew ?_ | refine bl_alloc ?_ _ | refine Below.setCell ?_ (by (first | (simp; done) | (simp; omega) | omega)) _ | refine bl_step (by assumption) ?_))⟩
  · go_enter Try.func71, Try.ntmps71
    go_wp2
    exact bodyPost_ret (v := .tuple #[.agg #[.int .i64 (0), .int .i64 (0)], .int .i64 (5)]) (by first | (simp only [results, Try.results71]; go_simp; done) | simp [results, Try.results71, go_sem, *]) rfl ⟨rfl, by (repeat (first | exact Below.refl _ _ | refine bl_drewN ?_ | refine bl_drew ?_ | refine bl_alloc ?_ _ | refine Below.setCell ?_ (by (first | (simp; done) | (simp; omega) | omega)) _ | refine bl_step (by assumption) ?_))⟩
  · by_cases hl : 0 < l
    · go_enter Try.func71, Try.ntmps71
      go_wp2
      exact bodyPost_ret (v := .tuple #[.agg #[.int .i64 (0), .int .i64 (0)], .int .i64 (5)]) (by first | (simp only [results, Try.results71]; go_simp; done) | simp [results, Try.results71, go_sem, *]) rfl ⟨rfl, by (repeat (first | exact Below.refl _ _ | refine bl_drewN ?_ | refine bl_drew ?_ | refine bl_alloc ?_ _ | refine Below.setCell ?_ (by (first | (simp; done) | (simp; omega) | omega)) _ | refine bl_step (by assumption) ?_))⟩
    · go_enter Try.func71, Try.ntmps71
      go_wp2
      exact bodyPost_ret (v := .tuple #[.agg #[.int .i64 (0), .int .i64 (0)], .int .i64 (5)]) (by first | (simp only [results, Try.results71]; go_simp; done) | simp [results, Try.results71, go_sem, *]) rfl ⟨rfl, by (repeat (first | exact Below.refl _ _ | refine bl_drewN ?_ | refine bl_drew ?_ | refine bl_alloc ?_ _ | refine Below.setCell ?_ (by (first | (simp; done) | (simp; omega) | omega)) _ | refine bl_step (by assumption) ?_))⟩

/-- the value of a size: its number, and its sign -/
def valW (h l : Int) (n : Bool) : Int := if n then -(h * 18446744073709551616 + l) else h * 18446744073709551616 + l
def fitsW (V : Int) : Bool := decide (-1329227995784915872903807060280344576 ≤ V) && decide (V < 1329227995784915872903807060280344576)
theorem fitsW_t {V : Int} (h : fitsW V = true) : -1329227995784915872903807060280344576 ≤ V ∧ V < 1329227995784915872903807060280344576 := by simpa [fitsW] using h
theorem fitsW_f {V : Int} (h : fitsW V = false) : V < -1329227995784915872903807060280344576 ∨ 1329227995784915872903807060280344576 ≤ V := by simp [fitsW] at h; omega
theorem fitsW_mk {V : Int} (h : -1329227995784915872903807060280344576 ≤ V ∧ V < 1329227995784915872903807060280344576) : fitsW V = true := by simpa [fitsW] using h

theorem sizew_ok (h l : Int) (n : Bool) (w : World) (h0 : 0 ≤ h) (h2 : 0 ≤ l) (h3 : l ≤ 18446744073709551615) (hv : fitsW (valW h l n) = true) :
    Calls Try.prog 71 #[.agg #[.int .u64 h, .int .u64 l, .bool n]] w fun e w' => e = .returned (.tuple #[.agg #[.int .i64 (valW h l n / 1152921504606846976), .int .i64 (valW h l n % 1152921504606846976)], .int .i64 (0)]) ∧ Below w.heap.size w w' := by
  have v := fitsW_t hv
  cases n
  · simp only [valW, Bool.false_eq_true, if_false] at *
    rw [show (h * 18446744073709551616 + l) / 1152921504606846976 = h * 16 + l / 1152921504606846976 by omega, show (h * 18446744073709551616 + l) % 1152921504606846976 = l % 1152921504606846976 by omega]
    exact sizew_pos h l _ _ w h0 (by omega) h2 h3 rfl rfl
  · simp only [valW, if_true] at *
    exact sizew_neg h l _ _ _ _ w h0 (by omega) h2 h3 rfl rfl (by omega) (by omega)

theorem sizew_no (h l : Int) (n : Bool) (w : World) (h0 : 0 ≤ h) (h2 : 0 ≤ l) (h3 : l ≤ 18446744073709551615) (hv : fitsW (valW h l n) = false) :
    Calls Try.prog 71 #[.agg #[.int .u64 h, .int .u64 l, .bool n]] w fun e w' => e = .returned (.tuple #[.agg #[.int .i64 (0), .int .i64 (0)], .int .i64 (5)]) ∧ Below w.heap.size w w' := by
  have v := fitsW_f hv
  refine sizew_big h l n w h0 ?_ h2
  cases n
  · simp only [valW, Bool.false_eq_true, if_false] at *
    by_cases c : 72057594037927936 < h
    · exact Or.inl c
    · exact Or.inr ⟨by omega, Or.inr trivial⟩
  · simp only [valW, if_true] at *
    by_cases c : 72057594037927936 < h
    · exact Or.inl c
    · exact Or.inr ⟨by omega, Or.inl (by omega)⟩

end Go.Proofs.Ytbglnncejfhlmaa
