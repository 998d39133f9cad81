/- What more functions of package angle compute, each as a contract; the world is below as it was. -/
import Derived.Test.YtjceofmhodcefaaAng
import Derived.Deep.RegionHeld3
namespace Go.Proofs.Ytjceofmhodcefaa
open Go.RowKit

set_option maxHeartbeats 400000 in
theorem wrap_any (n : Int) (w : World) (_h0 : -9223372036854775808 ≤ n) (_h1 : n ≤ 9223372036854775807) :
    Calls Try.prog 51 #[.int .i64 n] w fun e w' => e = .returned (.int .i64 (n % 21600000)) ∧ w = w' := by
  have e : n.tmod 21600000 = if 0 ≤ n ∨ n % 21600000 = 0 then n % 21600000 else n % 21600000 - 21600000 := by
    have := Int.tmod_eq_emod (a := n) (b := 21600000)
    simp only [Int.natAbs] at this
    rw [this]; split <;> split <;> omega
  by_cases hc : 0 ≤ n ∨ n % 21600000 = 0
  · rw [if_pos hc] at e
    have m0 : 0 ≤ n % 21600000 := by omega
    have m1 : n % 21600000 < 21600000 := by omega
    clear hc
    go_enter Try.func51, Try.ntmps51
    go_wp2
    go_ret
    exact ⟨rfl, rfl⟩
  · rw [if_neg hc] at e
    have m0 : 0 < n % 21600000 := by omega
    have m1 : n % 21600000 < 21600000 := by omega
    have H : Hid (n % 21600000 - 21600000 + 21600000 = n % 21600000) := by unfold Hid; omega
    have hn : n < 0 := by omega
    clear hc
    go_enter Try.func51, Try.ntmps51
    go_wp2
    go_ret
    exact ⟨by simp, rfl⟩



/-- the number of the same direction from -10800000 on -/
def sgn (n : Int) : Int := if 10800000 ≤ n % 21600000 then n % 21600000 - 21600000 else n % 21600000

set_option maxHeartbeats 400000 in
theorem signed_any (n : Int) (w : World) (_h0 : -9223372036854775808 ≤ n) (_h1 : n ≤ 9223372036854775807) :
    Calls Try.prog 42 #[.int .i64 n] w fun e w' => e = .returned (.int .i64 (sgn n)) ∧ w = w' := by
  have m0 : 0 ≤ n % 21600000 := by omega
  have m1 : n % 21600000 < 21600000 := by omega
  by_cases hc : 10800000 ≤ n % 21600000
  · have H : Hid (sgn n = n % 21600000 - 21600000) := by simp [sgn, hc, Hid]
    go_enter Try.func42, Try.ntmps42
    go_wp2_with (go_at_call 51; refine (wrap_any _ _ (by omega) (by omega)).mono ?_; rintro e w' ⟨rfl, rfl⟩)
    go_ret
    exact ⟨ret_one (by rw [H.out]), rfl⟩
  · have H : Hid (sgn n = n % 21600000) := by simp [sgn, hc, Hid]
    go_enter Try.func42, Try.ntmps42
    go_wp2_with (go_at_call 51; refine (wrap_any _ _ (by omega) (by omega)).mono ?_; rintro e w' ⟨rfl, rfl⟩)
    go_ret
    exact ⟨ret_one (by rw [H.out]), rfl⟩

set_option maxHeartbeats 400000 in
theorem result_ok (a b : Int) (w : World) (h1 : fitsB a = true) (h2 : fitsB b = true) :
    Calls Try.prog 59 #[.int .i64 a, .int .i64 b] w fun e w' => e = .returned (.tuple #[.agg #[.int .i64 (a), .int .i64 (b)], .int .i64 (0)]) ∧ Below w.heap.size w w' := by
  go_enter Try.func59, Try.ntmps59
  go_wp2_with (go_at_call 48; refine (fits_any _ _).mono ?_; rintro e w' ⟨rfl, rfl⟩)
  exact bodyPost_ret (v := .tuple #[.agg #[.int .i64 (a), .int .i64 (b)], .int .i64 (0)]) (by first | (simp only [results, Try.results59]; go_simp; done) | simp [results, Try.results59, go_sem, *]) rfl ⟨rfl, by (repeat (first | exact Below.refl _ _ | refine bl_drewN ?_ | refine bl_drew ?_ | refine bl_alloc ?_ _ | refine Below.setCell ?_ (by (first | (simp; done) | (simp; omega) | omega)) _ | refine bl_step (by assumption) ?_))⟩

set_option maxHeartbeats 400000 in
theorem add_ok (a b c d : Int) (w : World) (h1 : arcB a b = true) (h2 : arcB c d = true) (h3 : fitsB (a + c) = true) (h4 : fitsB (b + d) = true) :
    Calls Try.prog 50 #[.agg #[.int .i64 (a), .int .i64 (b)], .agg #[.int .i64 (c), .int .i64 (d)]] w fun e w' => e = .returned (.tuple #[.agg #[.int .i64 (a + c), .int .i64 (b + d)], .int .i64 (0)]) ∧ Below w.heap.size w w' := by
  have e1 := arcB_t h1
  have e2 := arcB_t h2
  have e3 := e1.1; have e4 := e1.2.1; have e5 := e1.2.2; have e6 := e2.1; have e7 := e2.2.1; have e8 := e2.2.2
  clear e1 e2
  have H3 := hidden h3
  have H4 := hidden h4
  clear h3 h4
  go_enter Try.func50, Try.ntmps50
  go_wp2_with (first | (go_at_call 24; refine (valid_any _ _ _).mono ?_; rintro e w' ⟨rfl, hb⟩; (try replace hb := below_undrew hb); (try replace hb := below_undrewN hb); obtain ⟨hcell, hfroz⟩ := bcell hb; have hz := hb.size; (try simp at hz); (try (have z6 := Nat.lt_of_lt_of_le z7 hz)); (try (have z7 := Nat.lt_of_lt_of_le z8 hz)); (try (have z8 := Nat.lt_of_lt_of_le z9 hz)); (try (have z9 := Nat.lt_of_lt_of_le (Nat.lt_succ_self _) hz)); (try (have z0 : w.heap.size < w'.heap.size := by omega)); (try (have z1 : w.heap.size + 1 < w'.heap.size := by omega)); (try (have z2 : w.heap.size + 1 + 1 < w'.heap.size := by omega)); (try (have z3 : w.heap.size + 1 + 1 + 1 < w'.heap.size := by omega)); (try (have y1 : w1.heap.size < w'.heap.size := by omega)); (try (have y2 : w2.heap.size < w'.heap.size := by omega)); (try (have y3 : w3.heap.size < w'.heap.size := by omega)); (try (have y4 : w4.heap.size < w'.heap.size := by omega)); (try (have y5 : w5.heap.size < w'.heap.size := by omega)); (try (have y6 : w6.heap.size < w'.heap.size := by omega))) | (go_at_call 59; refine (result_ok _ _ _ H3.out H4.out).mono ?_; rintro e w' ⟨rfl, hb⟩; (try replace hb := below_undrew hb); (try replace hb := below_undrewN hb); obtain ⟨hcell, hfroz⟩ := bcell hb; have hz := hb.size; (try simp at hz); (try (have z6 := Nat.lt_of_lt_of_le z7 hz)); (try (have z7 := Nat.lt_of_lt_of_le z8 hz)); (try (have z8 := Nat.lt_of_lt_of_le z9 hz)); (try (have z9 := Nat.lt_of_lt_of_le (Nat.lt_succ_self _) hz)); (try (have z0 : w.heap.size < w'.heap.size := by omega)); (try (have z1 : w.heap.size + 1 < w'.heap.size := by omega)); (try (have z2 : w.heap.size + 1 + 1 < w'.heap.size := by omega)); (try (have z3 : w.heap.size + 1 + 1 + 1 < w'.heap.size := by omega)); (try (have y1 : w1.heap.size < w'.heap.size := by omega)); (try (have y2 : w2.heap.size < w'.heap.size := by omega)); (try (have y3 : w3.heap.size < w'.heap.size := by omega)); (try (have y4 : w4.heap.size < w'.heap.size := by omega)); (try (have y5 : w5.heap.size < w'.heap.size := by omega)); (try (have y6 : w6.heap.size < w'.heap.size := by omega))))
  exact bodyPost_ret (v := .tuple #[.agg #[.int .i64 (a + c), .int .i64 (b + d)], .int .i64 (0)]) (by first | (simp only [results, Try.results50]; go_simp; done) | simp [results, Try.results50, go_sem, *]) rfl ⟨rfl, by (repeat (first | exact Below.refl _ _ | refine bl_drewN ?_ | refine bl_drew ?_ | refine bl_alloc ?_ _ | refine Below.setCell ?_ (by (first | (simp; done) | (simp; omega) | omega)) _ | refine bl_step (by assumption) ?_))⟩

end Go.Proofs.Ytjceofmhodcefaa
