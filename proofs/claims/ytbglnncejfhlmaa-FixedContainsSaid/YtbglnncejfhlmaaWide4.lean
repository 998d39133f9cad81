/- The size of a wide integer, and its quotients by an integer, rounded down and up, each as a contract. -/
import Derived.Test.YtbglnncejfhlmaaWide3
namespace Go.Proofs.Ytbglnncejfhlmaa
open Go.RowKit

set_option maxHeartbeats 1000000 in
theorem sizeof_walk (a b p q : Int) (n : Bool) (w : World) (h : wideB a b = true)
    (hn : n = decide (a < 0)) (hp : absI (a * 1152921504606846976 + b) / 18446744073709551616 = p) (hq : absI (a * 1152921504606846976 + b) % 18446744073709551616 = q) :
    Calls Try.prog 75 #[.agg #[.int .i64 (a), .int .i64 (b)]] w fun e w' => e = .returned (.agg #[.int .u64 p, .int .u64 q, .bool n]) ∧ Below w.heap.size w w' := by
  have t := wideB_t h
  have t0 := t.1; have t1 := t.2.1; have t2 := t.2.2.1; have t3 := t.2.2.2
  clear t h
  by_cases ha : a < 0
  · have hn' : n = true := by rw [hn]; exact decide_eq_true ha
    subst hn'
    clear hn
    have e : absI (a * 1152921504606846976 + b) = (-a + -b / 1152921504606846976) * 1152921504606846976 + -b % 1152921504606846976 := by
      unfold absI; rw [if_pos (by omega)]; omega
    rw [e] at hp hq
    have m := Wd.and_low60s (-b)
    have x0 : 0 ≤ -a + -b / 1152921504606846976 := by omega
    have x1 : -a + -b / 1152921504606846976 ≤ 1152921504606846976 := by omega
    have y0 : 0 ≤ -b % 1152921504606846976 := by omega
    have y1 : -b % 1152921504606846976 ≤ 1152921504606846975 := by omega
    have o := Wd.or_low (-a + -b / 1152921504606846976) (-b % 1152921504606846976) y0 y1
    generalize hx : -a + -b / 1152921504606846976 = x at *
    generalize -b % 1152921504606846976 = y at *
    have hp' : x / 16 = p := by omega
    have hq' : x % 16 * 1152921504606846976 + y = q := by omega
    rw [hq'] at o
    clear hp hq hq' e
    go_enter Try.func75, Try.ntmps75
    go_wp2
    go_quiet (fail)
    go_wp2
    exact bodyPost_ret (v := .agg #[.int .u64 p, .int .u64 q, .bool true]) (by first | (simp only [results, Try.results75]; go_simp; done) | simp [results, Try.results75, go_sem, *]) rfl ⟨rfl, by (repeat (first | exact Below.refl _ _ | refine bl_drewN ?_ | refine bl_drew ?_ | refine bl_alloc ?_ _ | refine Below.setCell ?_ (by (first | (simp; done) | (simp; omega) | omega)) _ | refine bl_step (by assumption) ?_))⟩
  · have hn' : n = false := by rw [hn]; exact decide_eq_false ha
    subst hn'
    clear hn
    have e : absI (a * 1152921504606846976 + b) = a * 1152921504606846976 + b := by
      unfold absI; rw [if_neg (by omega)]
    rw [e] at hp hq
    have o := Wd.or_low a b t2 (by omega)
    have hp' : a / 16 = p := by omega
    have hq' : a % 16 * 1152921504606846976 + b = q := by omega
    rw [hq'] at o
    clear hp hq hq' e
    go_enter Try.func75, Try.ntmps75
    go_wp2
    go_quiet (fail)
    go_wp2
    exact bodyPost_ret (v := .agg #[.int .u64 p, .int .u64 q, .bool false]) (by first | (simp only [results, Try.results75]; go_simp; done) | simp [results, Try.results75, go_sem, *]) rfl ⟨rfl, by (repeat (first | exact Below.refl _ _ | refine bl_drewN ?_ | refine bl_drew ?_ | refine bl_alloc ?_ _ | refine Below.setCell ?_ (by (first | (simp; done) | (simp; omega) | omega)) _ | refine bl_step (by assumption) ?_))⟩

end Go.Proofs.Ytbglnncejfhlmaa
