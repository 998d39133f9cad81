/- Square, Hull, Meet and Inside of package fixed, each as a contract. -/
import Derived.Test.YtbglnncejfhlmaaFix7
namespace Go.Proofs.Ytbglnncejfhlmaa
open Go.RowKit

set_option maxHeartbeats 400000 in
theorem hull_any (a b c d : Int) (w : World) (h1 : fixB a b = true) (h2 : fixB c d = true) :
    Calls Try.prog 25 #[.agg #[.int .i64 (a), .int .i64 (b)], .agg #[.int .i64 (c), .int .i64 (d)]] w fun e w' => e = .returned (.tuple #[.agg #[.int .i64 (min a c), .int .i64 (max b d)], .int .i64 (0)]) ∧ Below w.heap.size w w' := by
  have h : (fixB a b && fixB c d) = true := by rw [h1, h2]; rfl
  clear h1 h2
  go_enter Try.func25, Try.ntmps25
  go_wp2_with (go_at_call 45; refine (both_any _ _ _ _ _).mono ?_; rintro e w' ⟨rfl, hb⟩; (try replace hb := below_undrew hb); (try replace hb := below_undrewN hb); obtain ⟨hcell, hfroz⟩ := bcell hb; have hz := hb.size; (try simp at hz); (try (have z6 := Nat.lt_of_lt_of_le z7 hz)); (try (have z7 := Nat.lt_of_lt_of_le z8 hz)); (try (have z8 := Nat.lt_of_lt_of_le z9 hz)); (try (have z9 := Nat.lt_of_lt_of_le (Nat.lt_succ_self _) hz)); (try (have z0 : w.heap.size < w'.heap.size := by omega)); (try (have z1 : w.heap.size + 1 < w'.heap.size := by omega)); (try (have z2 : w.heap.size + 1 + 1 < w'.heap.size := by omega)); (try (have z3 : w.heap.size + 1 + 1 + 1 < w'.heap.size := by omega)); (try (have y1 : w1.heap.size < w'.heap.size := by omega)); (try (have y2 : w2.heap.size < w'.heap.size := by omega)); (try (have y3 : w3.heap.size < w'.heap.size := by omega)); (try (have y4 : w4.heap.size < w'.heap.size := by omega)); (try (have y5 : w5.heap.size < w'.heap.size := by omega)); (try (have y6 : w6.heap.size < w'.heap.size := by omega)))
  exact bodyPost_ret (v := .tuple #[.agg #[.int .i64 (min a c), .int .i64 (max b d)], .int .i64 (0)]) (by first | (simp only [results, Try.results25]; go_simp; done) | simp [results, Try.results25, go_sem, *]) rfl ⟨rfl, by (repeat (first | exact Below.refl _ _ | refine bl_drewN ?_ | refine bl_drew ?_ | refine bl_alloc ?_ _ | refine Below.setCell ?_ (by (first | (simp; done) | (simp; omega) | omega)) _ | refine bl_step (by assumption) ?_))⟩

set_option maxHeartbeats 400000 in
theorem meet_ok (a b c d : Int) (w : World) (h1 : fixB a b = true) (h2 : fixB c d = true) (hm : max a c ≤ min b d) :
    Calls Try.prog 26 #[.agg #[.int .i64 (a), .int .i64 (b)], .agg #[.int .i64 (c), .int .i64 (d)]] w fun e w' => e = .returned (.tuple #[.agg #[.int .i64 (max a c), .int .i64 (min b d)], .int .i64 (0)]) ∧ Below w.heap.size w w' := by
  have h : (fixB a b && fixB c d) = true := by rw [h1, h2]; rfl
  clear h1 h2
  go_enter Try.func26, Try.ntmps26
  go_wp2_with (go_at_call 45; refine (both_any _ _ _ _ _).mono ?_; rintro e w' ⟨rfl, hb⟩; (try replace hb := below_undrew hb); (try replace hb := below_undrewN hb); obtain ⟨hcell, hfroz⟩ := bcell hb; have hz := hb.size; (try simp at hz); (try (have z6 := Nat.lt_of_lt_of_le z7 hz)); (try (have z7 := Nat.lt_of_lt_of_le z8 hz)); (try (have z8 := Nat.lt_of_lt_of_le z9 hz)); (try (have z9 := Nat.lt_of_lt_of_le (Nat.lt_succ_self _) hz)); (try (have z0 : w.heap.size < w'.heap.size := by omega)); (try (have z1 : w.heap.size + 1 < w'.heap.size := by omega)); (try (have z2 : w.heap.size + 1 + 1 < w'.heap.size := by omega)); (try (have z3 : w.heap.size + 1 + 1 + 1 < w'.heap.size := by omega)); (try (have y1 : w1.heap.size < w'.heap.size := by omega)); (try (have y2 : w2.heap.size < w'.heap.size := by omega)); (try (have y3 : w3.heap.size < w'.heap.size := by omega)); (try (have y4 : w4.heap.size < w'.heap.size := by omega)); (try (have y5 : w5.heap.size < w'.heap.size := by omega)); (try (have y6 : w6.heap.size < w'.heap.size := by omega)))
  exact bodyPost_ret (v := .tuple #[.agg #[.int .i64 (max a c), .int .i64 (min b d)], .int .i64 (0)]) (by first | (simp only [results, Try.results26]; go_simp; done) | simp [results, Try.results26, go_sem, *]) rfl ⟨rfl, by (repeat (first | exact Below.refl _ _ | refine bl_drewN ?_ | refine bl_drew ?_ | refine bl_alloc ?_ _ | refine Below.setCell ?_ (by (first | (simp; done) | (simp; omega) | omega)) _ | refine bl_step (by assumption) ?_))⟩

set_option maxHeartbeats 400000 in
theorem meet_no (a b c d : Int) (w : World) (h1 : fixB a b = true) (h2 : fixB c d = true) (hm : min b d < max a c) :
    Calls Try.prog 26 #[.agg #[.int .i64 (a), .int .i64 (b)], .agg #[.int .i64 (c), .int .i64 (d)]] w fun e w' => e = .returned (.tuple #[.agg #[.int .i64 (0), .int .i64 (0)], .int .i64 (23)]) ∧ Below w.heap.size w w' := by
  have h : (fixB a b && fixB c d) = true := by rw [h1, h2]; rfl
  clear h1 h2
  go_enter Try.func26, Try.ntmps26
  go_wp2_with (go_at_call 45; refine (both_any _ _ _ _ _).mono ?_; rintro e w' ⟨rfl, hb⟩; (try replace hb := below_undrew hb); (try replace hb := below_undrewN hb); obtain ⟨hcell, hfroz⟩ := bcell hb; have hz := hb.size; (try simp at hz); (try (have z6 := Nat.lt_of_lt_of_le z7 hz)); (try (have z7 := Nat.lt_of_lt_of_le z8 hz)); (try (have z8 := Nat.lt_of_lt_of_le z9 hz)); (try (have z9 := Nat.lt_of_lt_of_le (Nat.lt_succ_self _) hz)); (try (have z0 : w.heap.size < w'.heap.size := by omega)); (try (have z1 : w.heap.size + 1 < w'.heap.size := by omega)); (try (have z2 : w.heap.size + 1 + 1 < w'.heap.size := by omega)); (try (have z3 : w.heap.size + 1 + 1 + 1 < w'.heap.size := by omega)); (try (have y1 : w1.heap.size < w'.heap.size := by omega)); (try (have y2 : w2.heap.size < w'.heap.size := by omega)); (try (have y3 : w3.heap.size < w'.heap.size := by omega)); (try (have y4 : w4.heap.size < w'.heap.size := by omega)); (try (have y5 : w5.heap.size < w'.heap.size := by omega)); (try (have y6 : w6.heap.size < w'.heap.size := by omega)))
  exact bodyPost_ret (v := .tuple #[.agg #[.int .i64 (0), .int .i64 (0)], .int .i64 (23)]) (by first | (simp only [results, Try.results26]; go_simp; done) | simp [results, Try.results26, go_sem, *]) rfl ⟨rfl, by (repeat (first | exact Below.refl _ _ | refine bl_drewN ?_ | refine bl_drew ?_ | refine bl_alloc ?_ _ | refine Below.setCell ?_ (by (first | (simp; done) | (simp; omega) | omega)) _ | refine bl_step (by assumption) ?_))⟩

end Go.Proofs.Ytbglnncejfhlmaa
