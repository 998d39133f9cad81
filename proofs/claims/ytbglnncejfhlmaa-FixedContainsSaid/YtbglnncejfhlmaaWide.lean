/- What the small functions of package wide compute, each as a contract. -/
import Derived.Test.YtbglnncejfhlmaaWideM
import Derived.Test.YtbglnncejfhlmaaDivA
namespace Go.Proofs.Ytbglnncejfhlmaa
open Go.RowKit

def absI (n : Int) : Int := if n < 0 then -n else n
theorem absI_bd (n : Int) (h0 : -9223372036854775808 ≤ n) (h1 : n ≤ 9223372036854775807) : 0 ≤ absI n ∧ absI n ≤ 9223372036854775808 := by unfold absI; split <;> omega

set_option maxHeartbeats 400000 in
theorem abs_any (n : Int) (w : World) (h0 : -9223372036854775808 ≤ n) (h1 : n ≤ 9223372036854775807) :
    Calls Try.prog 70 #[.int .i64 n] w fun e w' => e = .returned (.int .u64 (absI n)) ∧ w = w' := by
  by_cases hn : n < 0
  · have H : Hid (absI n = -n) := by simp [absI, hn, Hid]
    have k1 : IntKind.u64.wrap n = n + 18446744073709551616 := by rw [IntKind.wrap_u64]; omega
    have k2 : IntKind.u64.wrap (-(n + 18446744073709551616)) = -n := by rw [IntKind.wrap_u64]; omega
    go_enter Try.func70, Try.ntmps70
    go_wp2
    go_ways
    go_ret
    exact ⟨ret_one (by rw [H.out]), rfl⟩
  · have H : Hid (absI n = n) := by simp [absI, hn, Hid]
    go_enter Try.func70, Try.ntmps70
    go_wp2
    go_ret
    exact ⟨ret_one (by rw [H.out]), rfl⟩

def wideB (hi lo : Int) : Bool := decide (-1152921504606846976 ≤ hi) && decide (hi < 1152921504606846976) && decide (0 ≤ lo) && decide (lo < 1152921504606846976)
theorem wideB_t {hi lo : Int} (h : wideB hi lo = true) : -1152921504606846976 ≤ hi ∧ hi < 1152921504606846976 ∧ 0 ≤ lo ∧ lo < 1152921504606846976 := by simp [wideB] at h; omega
theorem wideB_mk {hi lo : Int} (h : -1152921504606846976 ≤ hi ∧ hi < 1152921504606846976 ∧ 0 ≤ lo ∧ lo < 1152921504606846976) : wideB hi lo = true := by simp [wideB]; omega
theorem wideB_not {hi lo : Int} (h : ¬ (-1152921504606846976 ≤ hi ∧ hi < 1152921504606846976 ∧ 0 ≤ lo ∧ lo < 1152921504606846976)) : wideB hi lo = false := by simp [wideB]; omega

set_option maxHeartbeats 400000 in
theorem wvalid_any (a b : Int) (w : World) :
    Calls Try.prog 74 #[.agg #[.int .i64 (a), .int .i64 (b)]] w fun e w' => e = .returned (.bool (wideB a b)) ∧ Below w.heap.size w w' := by
  by_cases h1 : -1152921504606846976 ≤ a
  · by_cases h2 : a < 1152921504606846976
    · by_cases h3 : 0 ≤ b
      · by_cases h4 : b < 1152921504606846976
        · have H := hidden (wideB_mk ⟨h1, h2, h3, h4⟩)
          go_enter Try.func74, Try.ntmps74
          go_wp2
          go_ret
          exact ⟨by rw [H.out]; rfl, by (repeat (first | exact Below.refl _ _ | refine bl_drewN ?_ | refine bl_drew ?_ | refine bl_alloc ?_ _ | refine Below.setCell ?_ (by (first | (simp; done) | (simp; omega) | omega)) _ | refine bl_step (by assumption) ?_))⟩
        · have H := hidden (wideB_not (hi := a) (lo := b) (by omega))
          go_enter Try.func74, Try.ntmps74
          go_wp2
          go_ret
          exact ⟨by rw [H.out]; rfl, by (repeat (first | exact Below.refl _ _ | refine bl_drewN ?_ | refine bl_drew ?_ | refine bl_alloc ?_ _ | refine Below.setCell ?_ (by (first | (simp; done) | (simp; omega) | omega)) _ | refine bl_step (by assumption) ?_))⟩
      · have H := hidden (wideB_not (hi := a) (lo := b) (by omega))
        go_enter Try.func74, Try.ntmps74
        go_wp2
        go_ret
        exact ⟨by rw [H.out]; rfl, by (repeat (first | exact Below.refl _ _ | refine bl_drewN ?_ | refine bl_drew ?_ | refine bl_alloc ?_ _ | refine Below.setCell ?_ (by (first | (simp; done) | (simp; omega) | omega)) _ | refine bl_step (by assumption) ?_))⟩
    · have H := hidden (wideB_not (hi := a) (lo := b) (by omega))
      go_enter Try.func74, Try.ntmps74
      go_wp2
      go_ret
      exact ⟨by rw [H.out]; rfl, by (repeat (first | exact Below.refl _ _ | refine bl_drewN ?_ | refine bl_drew ?_ | refine bl_alloc ?_ _ | refine Below.setCell ?_ (by (first | (simp; done) | (simp; omega) | omega)) _ | refine bl_step (by assumption) ?_))⟩
  · have H := hidden (wideB_not (hi := a) (lo := b) (by omega))
    go_enter Try.func74, Try.ntmps74
    go_wp2
    go_ret
    exact ⟨by rw [H.out]; rfl, by (repeat (first | exact Below.refl _ _ | refine bl_drewN ?_ | refine bl_drew ?_ | refine bl_alloc ?_ _ | refine Below.setCell ?_ (by (first | (simp; done) | (simp; omega) | omega)) _ | refine bl_step (by assumption) ?_))⟩

set_option maxHeartbeats 400000 in
theorem wfit_ok (hi lo x y : Int) (w : World) (h0 : -4611686018427387904 ≤ hi) (h1 : hi ≤ 4611686018427387904) (h2 : -9223372036854775808 ≤ lo) (h3 : lo ≤ 9223372036854775807)
    (hx : hi + lo / 1152921504606846976 = x) (hy : lo % 1152921504606846976 = y) (h4 : wideB x y = true) :
    Calls Try.prog 73 #[.int .i64 hi, .int .i64 lo] w fun e w' => e = .returned (.tuple #[.agg #[.int .i64 (x), .int .i64 (y)], .int .i64 (0)]) ∧ Below w.heap.size w w' := by
  have m := Wd.and_low60s lo
  rw [hy] at m
  go_enter Try.func73, Try.ntmps73
  go_wp2_with (go_at_call 74; refine (wvalid_any _ _ _).mono ?_; rintro e w' ⟨rfl, hb⟩; (try replace hb := below_undrew hb); (try replace hb := below_undrewN hb); obtain ⟨hcell, hfroz⟩ := bcell hb; have hz := hb.size; (try simp at hz); (try (have z6 := Nat.lt_of_lt_of_le z7 hz)); (try (have z7 := Nat.lt_of_lt_of_le z8 hz)); (try (have z8 := Nat.lt_of_lt_of_le z9 hz)); (try (have z9 := Nat.lt_of_lt_of_le (Nat.lt_succ_self _) hz)); (try (have z0 : w.heap.size < w'.heap.size := by omega)); (try (have z1 : w.heap.size + 1 < w'.heap.size := by omega)); (try (have z2 : w.heap.size + 1 + 1 < w'.heap.size := by omega)); (try (have z3 : w.heap.size + 1 + 1 + 1 < w'.heap.size := by omega)); (try (have y1 : w1.heap.size < w'.heap.size := by omega)); (try (have y2 : w2.heap.size < w'.heap.size := by omega)); (try (have y3 : w3.heap.size < w'.heap.size := by omega)); (try (have y4 : w4.heap.size < w'.heap.size := by omega)); (try (have y5 : w5.heap.size < w'.heap.size := by omega)); (try (have y6 : w6.heap.size < w'.heap.size := by omega)))
  exact bodyPost_ret (v := .tuple #[.agg #[.int .i64 (x), .int .i64 (y)], .int .i64 (0)]) (by first | (simp only [results, Try.results73]; go_simp; done) | simp [results, Try.results73, go_sem, *]) rfl ⟨rfl, by (repeat (first | exact Below.refl _ _ | refine bl_drewN ?_ | refine bl_drew ?_ | refine bl_alloc ?_ _ | refine Below.setCell ?_ (by (first | (simp; done) | (simp; omega) | omega)) _ | refine bl_step (by assumption) ?_))⟩

set_option maxHeartbeats 400000 in
theorem wfit_big (hi lo x y : Int) (w : World) (h0 : -4611686018427387904 ≤ hi) (h1 : hi ≤ 4611686018427387904) (h2 : -9223372036854775808 ≤ lo) (h3 : lo ≤ 9223372036854775807)
    (hx : hi + lo / 1152921504606846976 = x) (hy : lo % 1152921504606846976 = y) (h4 : wideB x y = false) :
    Calls Try.prog 73 #[.int .i64 hi, .int .i64 lo] w fun e w' => e = .returned (.tuple #[.agg #[.int .i64 (0), .int .i64 (0)], .int .i64 (5)]) ∧ Below w.heap.size w w' := by
  have m := Wd.and_low60s lo
  rw [hy] at m
  go_enter Try.func73, Try.ntmps73
  go_wp2_with (go_at_call 74; refine (wvalid_any _ _ _).mono ?_; rintro e w' ⟨rfl, hb⟩; (try replace hb := below_undrew hb); (try replace hb := below_undrewN hb); obtain ⟨hcell, hfroz⟩ := bcell hb; have hz := hb.size; (try simp at hz); (try (have z6 := Nat.lt_of_lt_of_le z7 hz)); (try (have z7 := Nat.lt_of_lt_of_le z8 hz)); (try (have z8 := Nat.lt_of_lt_of_le z9 hz)); (try (have z9 := Nat.lt_of_lt_of_le (Nat.lt_succ_self _) hz)); (try (have z0 : w.heap.size < w'.heap.size := by omega)); (try (have z1 : w.heap.size + 1 < w'.heap.size := by omega)); (try (have z2 : w.heap.size + 1 + 1 < w'.heap.size := by omega)); (try (have z3 : w.heap.size + 1 + 1 + 1 < w'.heap.size := by omega)); (try (have y1 : w1.heap.size < w'.heap.size := by omega)); (try (have y2 : w2.heap.size < w'.heap.size := by omega)); (try (have y3 : w3.heap.size < w'.heap.size := by omega)); (try (have y4 : w4.heap.size < w'.heap.size := by omega)); (try (have y5 : w5.heap.size < w'.heap.size := by omega)); (try (have y6 : w6.heap.size < w'.heap.size := by omega)))
  exact bodyPost_ret (v := .tuple #[.agg #[.int .i64 (0), .int .i64 (0)], .int .i64 (5)]) (by first | (simp only [results, Try.results73]; go_simp; done) | simp [results, Try.results73, go_sem, *]) rfl ⟨rfl, by (repeat (first | exact Below.refl _ _ | refine bl_drewN ?_ | refine bl_drew ?_ | refine bl_alloc ?_ _ | refine Below.setCell ?_ (by (first | (simp; done) | (simp; omega) | omega)) _ | refine bl_step (by assumption) ?_))⟩

end Go.Proofs.Ytbglnncejfhlmaa
