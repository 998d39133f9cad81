/- Below, the enclosures of sines and cosines, and those of haversines, of layer 6's reference, as contracts. -/
import Derived.Test.YtcpghihgppgpmaaGreatRef6d
namespace Go.Proofs.YtcpghihgppgpmaaGreat
open Go.RowKit Rot

theorem bHi_is (n : Int) : bHi n = if exactB (redA n) then bLo n else bLo n + 1 := by
  unfold bHi bLo upB
  cases exactB (redA n) <;> split <;> simp <;> omega

set_option maxHeartbeats 1000000 in
theorem ends_walk (n f : Int) (x : Bool) (w : World) (f0 : -1073741824 ≤ f) (f1 : f ≤ 1073741824)
    (F : Hid (∀ w, Calls Tryz.prog 81 #[.int .i64 n] w fun e w' => e = .returned (.tuple #[.int .i64 f, .bool x]) ∧ Below w.heap.size w w')) :
    Calls Tryz.prog 73 #[.int .i64 n] w fun e w' => e = .returned (.tuple #[.int .i64 f, .int .i64 (if x then f else f + 1)]) ∧ Below w.heap.size w w' := by
  cases x
  all_goals
    simp only [Bool.false_eq_true, if_false, if_true]
    go_enter Tryz.func73, Tryz.ntmps73
    go_wp2_with (go_at_call 81; ((with_reducible refine (F.out _).mono ?_); rintro e w' ⟨rfl, hb⟩); (try replace hb := below_undrew hb); (try replace hb := below_undrewN hb); obtain ⟨hcell, hfroz⟩ := bcell hb; have hz := hb.size; (try simp at hz); (try (have z6 := Nat.lt_of_lt_of_le z7 hz)); (try (have z7 := Nat.lt_of_lt_of_le z8 hz)); (try (have z8 := Nat.lt_of_lt_of_le z9 hz)); (try (have z9 := Nat.lt_of_lt_of_le (Nat.lt_succ_self _) hz)); (try (have z0 : w.heap.size < w'.heap.size := by omega)); (try (have z1 : w.heap.size + 1 < w'.heap.size := by omega)); (try (have z2 : w.heap.size + 1 + 1 < w'.heap.size := by omega)); (try (have z3 : w.heap.size + 1 + 1 + 1 < w'.heap.size := by omega)); (try (have y1 : w1.heap.size < w'.heap.size := by omega)); (try (have y2 : w2.heap.size < w'.heap.size := by omega)); (try (have y3 : w3.heap.size < w'.heap.size := by omega)); (try (have y4 : w4.heap.size < w'.heap.size := by omega)); (try (have y5 : w5.heap.size < w'.heap.size := by omega)); (try (have y6 : w6.heap.size < w'.heap.size := by omega)); (try (have x1 : w1.heap.size + 1 < w'.heap.size := by omega)); (try (have x2 : w2.heap.size + 1 < w'.heap.size := by omega)); (try (have x3 : w3.heap.size + 1 < w'.heap.size := by omega)); (try (have x4 : w4.heap.size + 1 < w'.heap.size := by omega)); (try (have x5 : w5.heap.size + 1 < w'.heap.size := by omega)); (try (have x6 : w6.heap.size + 1 < w'.heap.size := by omega)))
    go_ret2
    exact ⟨rfl, by (repeat (first | exact Below.refl _ _ | refine bl_drewN ?_ | refine bl_drew ?_ | refine bl_alloc ?_ _ | refine Below.setCell ?_ (by (first | (simp; done) | (simp; omega) | omega)) _ | refine bl_step (by assumption) ?_))⟩
theorem ends_any (n : Int) (w : World) :
    Calls Tryz.prog 73 #[.int .i64 n] w fun e w' => e = .returned (.tuple #[.int .i64 (bLo n), .int .i64 (bHi n)]) ∧ Below w.heap.size w w' := by
  have b := b_bd n
  rw [bHi_is]
  exact ends_walk n _ _ w (by omega) (by omega) (hidden fun w => floor6_any n w)

set_option maxHeartbeats 2000000 in
theorem has_walk (a b n t d : Int) (w : World) (a0 : -1099517027776 ≤ a) (a1 : a ≤ 1099517027776) (_b0 : -1099517027776 ≤ b) (_b1 : b ≤ 1099517027776) (n0 : -21600000 ≤ n) (n1 : n ≤ 21600000)
    (ht : (n - a).tmod 21600000 = t) (t0 : -21600000 < t) (t1 : t < 21600000) (hm : (t < 0 ∧ t + 21600000 = d) ∨ (0 ≤ t ∧ t = d)) (d0 : 0 ≤ d) (d1 : d < 21600000) :
    Calls Tryz.prog 74 #[.agg #[.int .i64 (a), .int .i64 (b)], .int .i64 n] w fun e w' => e = .returned (.bool (decide (a + d ≤ b))) ∧ Below w.heap.size w w' := by
  rcases hm with ⟨tn, hm⟩ | ⟨tp, rfl⟩
  · go_enter Tryz.func74, Tryz.ntmps74
    go_wp2
    go_ret
    exact ⟨rfl, by (repeat (first | exact Below.refl _ _ | refine bl_drewN ?_ | refine bl_drew ?_ | refine bl_alloc ?_ _ | refine Below.setCell ?_ (by (first | (simp; done) | (simp; omega) | omega)) _ | refine bl_step (by assumption) ?_))⟩
  · go_enter Tryz.func74, Tryz.ntmps74
    go_wp2
    go_ret
    exact ⟨rfl, by (repeat (first | exact Below.refl _ _ | refine bl_drewN ?_ | refine bl_drew ?_ | refine bl_alloc ?_ _ | refine Below.setCell ?_ (by (first | (simp; done) | (simp; omega) | omega)) _ | refine bl_step (by assumption) ?_))⟩
theorem has_any (a b n : Int) (w : World) (a0 : -1099517027776 ≤ a) (a1 : a ≤ 1099517027776) (b0 : -1099517027776 ≤ b) (b1 : b ≤ 1099517027776) (n0 : -21600000 ≤ n) (n1 : n ≤ 21600000) :
    Calls Tryz.prog 74 #[.agg #[.int .i64 (a), .int .i64 (b)], .int .i64 n] w fun e w' => e = .returned (.bool (meetB a b n)) ∧ Below w.heap.size w w' := by
  obtain ⟨t, ht, hm, t0, t1⟩ := tmod_turn (n - a)
  have h := has_walk a b n t _ w a0 a1 b0 b1 n0 n1 ht t0 t1 hm (by omega) (by omega)
  have e : meetB a b n = decide (a + (n - a) % 21600000 ≤ b) := by unfold meetB; rw [decide_eq_decide]; omega
  rw [e]
  exact h

set_option maxHeartbeats 1000000 in
theorem sine6_walk (a b p q r s L H : Int) (U V : Bool) (w : World)
    (A : Hid (∀ w, Calls Tryz.prog 73 #[.int .i64 a] w fun e w' => e = .returned (.tuple #[.int .i64 p, .int .i64 q]) ∧ Below w.heap.size w w'))
    (B : Hid (∀ w, Calls Tryz.prog 73 #[.int .i64 b] w fun e w' => e = .returned (.tuple #[.int .i64 r, .int .i64 s]) ∧ Below w.heap.size w w'))
    (M1 : Hid (∀ w, Calls Tryz.prog 74 #[.agg #[.int .i64 (a), .int .i64 (b)], .int .i64 5400000] w fun e w' => e = .returned (.bool U) ∧ Below w.heap.size w w'))
    (M3 : Hid (∀ w, Calls Tryz.prog 74 #[.agg #[.int .i64 (a), .int .i64 (b)], .int .i64 (-5400000)] w fun e w' => e = .returned (.bool V) ∧ Below w.heap.size w w'))
    (hL : (if V then -1073741824 else min p r) = L) (hH : (if U then 1073741824 else max q s) = H) :
    Calls Tryz.prog 55 #[.agg #[.int .i64 (a), .int .i64 (b)]] w fun e w' => e = .returned (.agg #[.int .i64 (L), .int .i64 (H)]) ∧ Below w.heap.size w w' := by
  cases U <;> cases V
  all_goals
    simp at hL hH
    subst hL hH
    go_enter Tryz.func55, Tryz.ntmps55
    go_wp2_with (first | (go_at_call 73; ((with_reducible refine (A.out _).mono ?_); rintro e w' ⟨rfl, hb⟩); (try replace hb := below_undrew hb); (try replace hb := below_undrewN hb); obtain ⟨hcell, hfroz⟩ := bcell hb; have hz := hb.size; (try simp at hz); (try (have z6 := Nat.lt_of_lt_of_le z7 hz)); (try (have z7 := Nat.lt_of_lt_of_le z8 hz)); (try (have z8 := Nat.lt_of_lt_of_le z9 hz)); (try (have z9 := Nat.lt_of_lt_of_le (Nat.lt_succ_self _) hz)); (try (have z0 : w.heap.size < w'.heap.size := by omega)); (try (have z1 : w.heap.size + 1 < w'.heap.size := by omega)); (try (have z2 : w.heap.size + 1 + 1 < w'.heap.size := by omega)); (try (have z3 : w.heap.size + 1 + 1 + 1 < w'.heap.size := by omega)); (try (have y1 : w1.heap.size < w'.heap.size := by omega)); (try (have y2 : w2.heap.size < w'.heap.size := by omega)); (try (have y3 : w3.heap.size < w'.heap.size := by omega)); (try (have y4 : w4.heap.size < w'.heap.size := by omega)); (try (have y5 : w5.heap.size < w'.heap.size := by omega)); (try (have y6 : w6.heap.size < w'.heap.size := by omega)); (try (have x1 : w1.heap.size + 1 < w'.heap.size := by omega)); (try (have x2 : w2.heap.size + 1 < w'.heap.size := by omega)); (try (have x3 : w3.heap.size + 1 < w'.heap.size := by omega)); (try (have x4 : w4.heap.size + 1 < w'.heap.size := by omega)); (try (have x5 : w5.heap.size + 1 < w'.heap.size := by omega)); (try (have x6 : w6.heap.size + 1 < w'.heap.size := by omega))) | (go_at_call 73; ((with_reducible refine (B.out _).mono ?_); rintro e w' ⟨rfl, hb⟩); (try replace hb := below_undrew hb); (try replace hb := below_undrewN hb); obtain ⟨hcell, hfroz⟩ := bcell hb; have hz := hb.size; (try simp at hz); (try (have z6 := Nat.lt_of_lt_of_le z7 hz)); (try (have z7 := Nat.lt_of_lt_of_le z8 hz)); (try (have z8 := Nat.lt_of_lt_of_le z9 hz)); (try (have z9 := Nat.lt_of_lt_of_le (Nat.lt_succ_self _) hz)); (try (have z0 : w.heap.size < w'.heap.size := by omega)); (try (have z1 : w.heap.size + 1 < w'.heap.size := by omega)); (try (have z2 : w.heap.size + 1 + 1 < w'.heap.size := by omega)); (try (have z3 : w.heap.size + 1 + 1 + 1 < w'.heap.size := by omega)); (try (have y1 : w1.heap.size < w'.heap.size := by omega)); (try (have y2 : w2.heap.size < w'.heap.size := by omega)); (try (have y3 : w3.heap.size < w'.heap.size := by omega)); (try (have y4 : w4.heap.size < w'.heap.size := by omega)); (try (have y5 : w5.heap.size < w'.heap.size := by omega)); (try (have y6 : w6.heap.size < w'.heap.size := by omega)); (try (have x1 : w1.heap.size + 1 < w'.heap.size := by omega)); (try (have x2 : w2.heap.size + 1 < w'.heap.size := by omega)); (try (have x3 : w3.heap.size + 1 < w'.heap.size := by omega)); (try (have x4 : w4.heap.size + 1 < w'.heap.size := by omega)); (try (have x5 : w5.heap.size + 1 < w'.heap.size := by omega)); (try (have x6 : w6.heap.size + 1 < w'.heap.size := by omega))) | (go_at_call 74; ((with_reducible refine (M1.out _).mono ?_); rintro e w' ⟨rfl, hb⟩); (try replace hb := below_undrew hb); (try replace hb := below_undrewN hb); obtain ⟨hcell, hfroz⟩ := bcell hb; have hz := hb.size; (try simp at hz); (try (have z6 := Nat.lt_of_lt_of_le z7 hz)); (try (have z7 := Nat.lt_of_lt_of_le z8 hz)); (try (have z8 := Nat.lt_of_lt_of_le z9 hz)); (try (have z9 := Nat.lt_of_lt_of_le (Nat.lt_succ_self _) hz)); (try (have z0 : w.heap.size < w'.heap.size := by omega)); (try (have z1 : w.heap.size + 1 < w'.heap.size := by omega)); (try (have z2 : w.heap.size + 1 + 1 < w'.heap.size := by omega)); (try (have z3 : w.heap.size + 1 + 1 + 1 < w'.heap.size := by omega)); (try (have y1 : w1.heap.size < w'.heap.size := by omega)); (try (have y2 : w2.heap.size < w'.heap.size := by omega)); (try (have y3 : w3.heap.size < w'.heap.size := by omega)); (try (have y4 : w4.heap.size < w'.heap.size := by omega)); (try (have y5 : w5.heap.size < w'.heap.size := by omega)); (try (have y6 : w6.heap.size < w'.heap.size := by omega)); (try (have x1 : w1.heap.size + 1 < w'.heap.size := by omega)); (try (have x2 : w2.heap.size + 1 < w'.heap.size := by omega)); (try (have x3 : w3.heap.size + 1 < w'.heap.size := by omega)); (try (have x4 : w4.heap.size + 1 < w'.heap.size := by omega)); (try (have x5 : w5.heap.size + 1 < w'.heap.size := by omega)); (try (have x6 : w6.heap.size + 1 < w'.heap.size := by omega))) | (go_at_call 74; ((with_reducible refine (M3.out _).mono ?_); rintro e w' ⟨rfl, hb⟩); (try replace hb := below_undrew hb); (try replace hb := below_undrewN hb); obtain ⟨hcell, hfroz⟩ := bcell hb; have hz := hb.size; (try simp at hz); (try (have z6 := Nat.lt_of_lt_of_le z7 hz)); (try (have z7 := Nat.lt_of_lt_of_le z8 hz)); (try (have z8 := Nat.lt_of_lt_of_le z9 hz)); (try (have z9 := Nat.lt_of_lt_of_le (Nat.lt_succ_self _) hz)); (try (have z0 : w.heap.size < w'.heap.size := by omega)); (try (have z1 : w.heap.size + 1 < w'.heap.size := by omega)); (try (have z2 : w.heap.size + 1 + 1 < w'.heap.size := by omega)); (try (have z3 : w.heap.size + 1 + 1 + 1 < w'.heap.size := by omega)); (try (have y1 : w1.heap.size < w'.heap.size := by omega)); (try (have y2 : w2.heap.size < w'.heap.size := by omega)); (try (have y3 : w3.heap.size < w'.heap.size := by omega)); (try (have y4 : w4.heap.size < w'.heap.size := by omega)); (try (have y5 : w5.heap.size < w'.heap.size := by omega)); (try (have y6 : w6.heap.size < w'.heap.size := by omega)); (try (have x1 : w1.heap.size + 1 < w'.heap.size := by omega)); (try (have x2 : w2.heap.size + 1 < w'.heap.size := by omega)); (try (have x3 : w3.heap.size + 1 < w'.heap.size := by omega)); (try (have x4 : w4.heap.size + 1 < w'.heap.size := by omega)); (try (have x5 : w5.heap.size + 1 < w'.heap.size := by omega)); (try (have x6 : w6.heap.size + 1 < w'.heap.size := by omega))))
    first
      | exact bodyPost_ret (v := .agg #[.int .i64 (min p r), .int .i64 (max q s)]) (by first | (simp only [results, Tryz.results55]; go_simp; done) | simp [results, Tryz.results55, go_sem, *]) rfl ⟨rfl, by (repeat (first | exact Below.refl _ _ | refine bl_drewN ?_ | refine bl_drew ?_ | refine bl_alloc ?_ _ | refine Below.setCell ?_ (by (first | (simp; done) | (simp; omega) | omega)) _ | refine bl_step (by assumption) ?_))⟩
      | exact bodyPost_ret (v := .agg #[.int .i64 (-1073741824), .int .i64 (max q s)]) (by first | (simp only [results, Tryz.results55]; go_simp; done) | simp [results, Tryz.results55, go_sem, *]) rfl ⟨rfl, by (repeat (first | exact Below.refl _ _ | refine bl_drewN ?_ | refine bl_drew ?_ | refine bl_alloc ?_ _ | refine Below.setCell ?_ (by (first | (simp; done) | (simp; omega) | omega)) _ | refine bl_step (by assumption) ?_))⟩
      | exact bodyPost_ret (v := .agg #[.int .i64 (min p r), .int .i64 (1073741824)]) (by first | (simp only [results, Tryz.results55]; go_simp; done) | simp [results, Tryz.results55, go_sem, *]) rfl ⟨rfl, by (repeat (first | exact Below.refl _ _ | refine bl_drewN ?_ | refine bl_drew ?_ | refine bl_alloc ?_ _ | refine Below.setCell ?_ (by (first | (simp; done) | (simp; omega) | omega)) _ | refine bl_step (by assumption) ?_))⟩
      | exact bodyPost_ret (v := .agg #[.int .i64 (-1073741824), .int .i64 (1073741824)]) (by first | (simp only [results, Tryz.results55]; go_simp; done) | simp [results, Tryz.results55, go_sem, *]) rfl ⟨rfl, by (repeat (first | exact Below.refl _ _ | refine bl_drewN ?_ | refine bl_drew ?_ | refine bl_alloc ?_ _ | refine Below.setCell ?_ (by (first | (simp; done) | (simp; omega) | omega)) _ | refine bl_step (by assumption) ?_))⟩
theorem meetB_down (a b : Int) : meetB a b (-5400000) = meetB a b 16200000 := by unfold meetB; rw [decide_eq_decide]; omega
theorem sine6_any (a b : Int) (w : World) (a0 : -1099517027776 ≤ a) (a1 : a ≤ 1099517027776) (b0 : -1099517027776 ≤ b) (b1 : b ≤ 1099517027776) :
    Calls Tryz.prog 55 #[.agg #[.int .i64 (a), .int .i64 (b)]] w fun e w' => e = .returned (.agg #[.int .i64 (encLo a b), .int .i64 (encHi a b)]) ∧ Below w.heap.size w w' :=
  sine6_walk a b _ _ _ _ _ _ _ _ w (hidden fun w => ends_any a w) (hidden fun w => ends_any b w) (hidden fun w => has_any a b 5400000 w a0 a1 b0 b1 (by omega) (by omega)) (hidden fun w => has_any a b (-5400000) w a0 a1 b0 b1 (by omega) (by omega)) (by rw [meetB_down]; rfl) rfl
theorem sin6_any (a b : Int) (w : World) (a0 : -1099517027776 ≤ a) (a1 : a ≤ 1099517027776) (b0 : -1099517027776 ≤ b) (b1 : b ≤ 1099517027776) :
    Calls Tryz.prog 32 #[.agg #[.int .i64 (a), .int .i64 (b)]] w fun e w' => e = .returned (.agg #[.int .i64 (encLo a b), .int .i64 (encHi a b)]) ∧ Below w.heap.size w w' := by
  have S := hidden fun w => sine6_any a b w a0 a1 b0 b1
  go_enter Tryz.func32, Tryz.ntmps32
  go_wp2_with (go_at_call 55; ((with_reducible refine (S.out _).mono ?_); rintro e w' ⟨rfl, hb⟩); (try replace hb := below_undrew hb); (try replace hb := below_undrewN hb); obtain ⟨hcell, hfroz⟩ := bcell hb; have hz := hb.size; (try simp at hz); (try (have z6 := Nat.lt_of_lt_of_le z7 hz)); (try (have z7 := Nat.lt_of_lt_of_le z8 hz)); (try (have z8 := Nat.lt_of_lt_of_le z9 hz)); (try (have z9 := Nat.lt_of_lt_of_le (Nat.lt_succ_self _) hz)); (try (have z0 : w.heap.size < w'.heap.size := by omega)); (try (have z1 : w.heap.size + 1 < w'.heap.size := by omega)); (try (have z2 : w.heap.size + 1 + 1 < w'.heap.size := by omega)); (try (have z3 : w.heap.size + 1 + 1 + 1 < w'.heap.size := by omega)); (try (have y1 : w1.heap.size < w'.heap.size := by omega)); (try (have y2 : w2.heap.size < w'.heap.size := by omega)); (try (have y3 : w3.heap.size < w'.heap.size := by omega)); (try (have y4 : w4.heap.size < w'.heap.size := by omega)); (try (have y5 : w5.heap.size < w'.heap.size := by omega)); (try (have y6 : w6.heap.size < w'.heap.size := by omega)); (try (have x1 : w1.heap.size + 1 < w'.heap.size := by omega)); (try (have x2 : w2.heap.size + 1 < w'.heap.size := by omega)); (try (have x3 : w3.heap.size + 1 < w'.heap.size := by omega)); (try (have x4 : w4.heap.size + 1 < w'.heap.size := by omega)); (try (have x5 : w5.heap.size + 1 < w'.heap.size := by omega)); (try (have x6 : w6.heap.size + 1 < w'.heap.size := by omega)))
  exact bodyPost_ret (v := .agg #[.int .i64 (encLo a b), .int .i64 (encHi a b)]) (by first | (simp only [results, Tryz.results32]; go_simp; done) | simp [results, Tryz.results32, go_sem, *]) rfl ⟨rfl, by (repeat (first | exact Below.refl _ _ | refine bl_drewN ?_ | refine bl_drew ?_ | refine bl_alloc ?_ _ | refine Below.setCell ?_ (by (first | (simp; done) | (simp; omega) | omega)) _ | refine bl_step (by assumption) ?_))⟩
theorem cos6_any (a b : Int) (w : World) (a0 : -1099511627776 ≤ a) (a1 : a ≤ 1099511627776) (b0 : -1099511627776 ≤ b) (b1 : b ≤ 1099511627776) :
    Calls Tryz.prog 30 #[.agg #[.int .i64 (a), .int .i64 (b)]] w fun e w' => e = .returned (.agg #[.int .i64 (encLo (a + 5400000) (b + 5400000)), .int .i64 (encHi (a + 5400000) (b + 5400000))]) ∧ Below w.heap.size w w' := by
  have S := hidden fun w => sine6_any (a + 5400000) (b + 5400000) w (by omega) (by omega) (by omega) (by omega)
  go_enter Tryz.func30, Tryz.ntmps30
  go_wp2_with (go_at_call 55; ((with_reducible refine (S.out _).mono ?_); rintro e w' ⟨rfl, hb⟩); (try replace hb := below_undrew hb); (try replace hb := below_undrewN hb); obtain ⟨hcell, hfroz⟩ := bcell hb; have hz := hb.size; (try simp at hz); (try (have z6 := Nat.lt_of_lt_of_le z7 hz)); (try (have z7 := Nat.lt_of_lt_of_le z8 hz)); (try (have z8 := Nat.lt_of_lt_of_le z9 hz)); (try (have z9 := Nat.lt_of_lt_of_le (Nat.lt_succ_self _) hz)); (try (have z0 : w.heap.size < w'.heap.size := by omega)); (try (have z1 : w.heap.size + 1 < w'.heap.size := by omega)); (try (have z2 : w.heap.size + 1 + 1 < w'.heap.size := by omega)); (try (have z3 : w.heap.size + 1 + 1 + 1 < w'.heap.size := by omega)); (try (have y1 : w1.heap.size < w'.heap.size := by omega)); (try (have y2 : w2.heap.size < w'.heap.size := by omega)); (try (have y3 : w3.heap.size < w'.heap.size := by omega)); (try (have y4 : w4.heap.size < w'.heap.size := by omega)); (try (have y5 : w5.heap.size < w'.heap.size := by omega)); (try (have y6 : w6.heap.size < w'.heap.size := by omega)); (try (have x1 : w1.heap.size + 1 < w'.heap.size := by omega)); (try (have x2 : w2.heap.size + 1 < w'.heap.size := by omega)); (try (have x3 : w3.heap.size + 1 < w'.heap.size := by omega)); (try (have x4 : w4.heap.size + 1 < w'.heap.size := by omega)); (try (have x5 : w5.heap.size + 1 < w'.heap.size := by omega)); (try (have x6 : w6.heap.size + 1 < w'.heap.size := by omega)))
  exact bodyPost_ret (v := .agg #[.int .i64 (encLo (a + 5400000) (b + 5400000)), .int .i64 (encHi (a + 5400000) (b + 5400000))]) (by first | (simp only [results, Tryz.results30]; go_simp; done) | simp [results, Tryz.results30, go_sem, *]) rfl ⟨rfl, by (repeat (first | exact Below.refl _ _ | refine bl_drewN ?_ | refine bl_drew ?_ | refine bl_alloc ?_ _ | refine Below.setCell ?_ (by (first | (simp; done) | (simp; omega) | omega)) _ | refine bl_step (by assumption) ?_))⟩

def valid6B (a b : Int) : Bool := decide (a ≤ b) && (decide (-1099511627776 ≤ a) && decide (b ≤ 1099511627776))
theorem valid6B_is (a b : Int) : valid6B a b = arcV a b := by
  unfold valid6B arcV
  by_cases h1 : a ≤ b <;> by_cases h2 : -1099511627776 ≤ a <;> by_cases h3 : b ≤ 1099511627776 <;> simp [h1, h2, h3]
/-- the haversine's ends -/
def hLo (n : Int) : Int := (1073741824 - bHi (n + 5400000)) / 2
def hHi (n : Int) : Int := (1073741824 - bLo (n + 5400000) + 1) / 2
theorem exact_even (n : Int) (h : exactB (redA n) = true) : bLo n % 2 = 0 := by
  have k : redA n = 0 ∨ redA n = 1800000 ∨ redA n = 5400000 := by
    unfold exactB at h; simp at h; omega
  have u : upB (redA n) = sinLo (redA n) := by unfold upB; rw [h]; rfl
  have s : sinLo (redA n) % 2 = 0 := by rcases k with k | k | k <;> rw [k] <;> rfl
  unfold bLo
  rw [u]
  split <;> omega
end Go.Proofs.YtcpghihgppgpmaaGreat
