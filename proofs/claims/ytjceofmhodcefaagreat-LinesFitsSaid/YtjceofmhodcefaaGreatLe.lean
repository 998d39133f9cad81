/- Several small texts in one: XLinC, XLinD, XLinE. -/
import Derived.Test.YtjceofmhodcefaaGreatLinA
import Derived.Test.YtjceofmhodcefaaGreatLa
import Derived.Lib.QuietBelow
import Derived.BigQuiet
import Derived.Test.YtjceofmhodcefaaGreatLb
import Derived.Test.YtjceofmhodcefaaGreatRa
import Derived.Test.YtjceofmhodcefaaGreatLin5
import Derived.Test.YtjceofmhodcefaaGreatLi8
namespace Go.Proofs.YtjceofmhodcefaaGreat
open Go.RowKit

end Go.Proofs.YtjceofmhodcefaaGreat

namespace Go.Proofs.YtjceofmhodcefaaGreat
open Go.RowKit

set_option maxRecDepth 100000 in
set_option maxHeartbeats 4000000 in
theorem v37_near (c d a b p q _s _t : Int) (w : World) 
    (V0 : Hid (∀ w, Calls Tryz.prog 46 #[.agg #[.int .i64 (c), .int .i64 (d)]] w fun e w' => e = .returned (.bool false) ∧ Below w.heap.size w w'))
    : Calls Tryz.prog 20 #[.agg #[.int .i64 c, .int .i64 d, .int .i64 a, .int .i64 b, .int .i64 p, .int .i64 q]] w fun e w' => e = .returned (.bool false) ∧ Below w.heap.size w w' := by
  go_enter Tryz.func20, Tryz.ntmps20
  go_wp2
  (refine name_below ?_; intro w' hb; (try replace hb := below_undrew hb); (try replace hb := below_undrewN hb); obtain ⟨hcell, hfroz⟩ := bcell hb; have hz := hb.size; (try simp at hz); (try (have z6 := Nat.lt_of_lt_of_le z7 hz)); (try (have z7 := Nat.lt_of_lt_of_le z8 hz)); (try (have z8 := Nat.lt_of_lt_of_le z9 hz)); (try (have z9 := Nat.lt_of_lt_of_le (Nat.lt_succ_self _) hz)); (try (have z0 : w.heap.size < w'.heap.size := by omega)); (try (have z1 : w.heap.size + 1 < w'.heap.size := by omega)); (try (have z2 : w.heap.size + 1 + 1 < w'.heap.size := by omega)); (try (have z3 : w.heap.size + 1 + 1 + 1 < w'.heap.size := by omega)); (try (have y1 : w1.heap.size < w'.heap.size := by omega)); (try (have x1 : w1.heap.size + 1 < w'.heap.size := by omega)); (try (have z10 : w1.heap.size < w'.heap.size + 1 := by omega)))
  have hw1 : Below w.heap.size w w' := by (repeat (first | (with_reducible exact Below.refl _ _) | (with_reducible refine Below.setCell ?_ (by (first | (simp; done) | (simp; omega) | omega)) _) | (with_reducible refine bl_alloc ?_ _) | (with_reducible refine bl_drewN ?_) | (with_reducible refine bl_drew ?_) | (with_reducible refine bl_step (by assumption) ?_)))
  have c0 : w'.cell? ⟨w.heap.size, 0, none⟩ = some (.int .i64 c) := by simp [go_sem, *]
  have c1 : w'.cell? ⟨w.heap.size, 1, none⟩ = some (.int .i64 d) := by simp [go_sem, *]
  have c2 : w'.cell? ⟨w.heap.size, 2, none⟩ = some (.int .i64 a) := by simp [go_sem, *]
  have c3 : w'.cell? ⟨w.heap.size, 3, none⟩ = some (.int .i64 b) := by simp [go_sem, *]
  have c4 : w'.cell? ⟨w.heap.size, 4, none⟩ = some (.int .i64 p) := by simp [go_sem, *]
  have c5 : w'.cell? ⟨w.heap.size, 5, none⟩ = some (.int .i64 q) := by simp [go_sem, *]
  clear hcell hfroz hz
  obtain ⟨w1, rfl⟩ : ∃ v, v = w' := ⟨_, rfl⟩
  refine wp_region_quiet_below (by kernel_rfl) (by kernel_rfl) ?_
  repeat (first | go_big_quiet_step (first | exact Calls.regrown_of (V0.out _)) | quiet_step (first | exact Calls.regrown_of (V0.out _)))
  refine wpQuiet_nil ?_; intro w' hw'; have hb := below_of_regrown hw'; clear hw'; (try replace hb := below_undrew hb); (try replace hb := below_undrewN hb); obtain ⟨hcell, hfroz⟩ := bcell hb; have hz := hb.size; (try simp at hz); (try (have z6 := Nat.lt_of_lt_of_le z7 hz)); (try (have z7 := Nat.lt_of_lt_of_le z8 hz)); (try (have z8 := Nat.lt_of_lt_of_le z9 hz)); (try (have z9 := Nat.lt_of_lt_of_le (Nat.lt_succ_self _) hz)); (try (have z0 : w.heap.size < w'.heap.size := by omega)); (try (have z1 : w.heap.size + 1 < w'.heap.size := by omega)); (try (have z2 : w.heap.size + 1 + 1 < w'.heap.size := by omega)); (try (have z3 : w.heap.size + 1 + 1 + 1 < w'.heap.size := by omega)); (try (have y1 : w1.heap.size < w'.heap.size := by omega))
  go_wp2
  go_ret
  exact ⟨rfl, bl_step (by (repeat (first | (with_reducible exact Below.refl _ _) | (with_reducible refine Below.setCell ?_ (by (first | (simp; done) | (simp; omega) | omega)) _) | (with_reducible refine bl_alloc ?_ _) | (with_reducible refine bl_drewN ?_) | (with_reducible refine bl_drew ?_) | (with_reducible refine bl_step (by assumption) ?_)))) hw1⟩
set_option maxRecDepth 100000 in
set_option maxHeartbeats 4000000 in
theorem v37_arc (c d a b p q _s _t : Int) (w : World) 
    (V0 : Hid (∀ w, Calls Tryz.prog 46 #[.agg #[.int .i64 (c), .int .i64 (d)]] w fun e w' => e = .returned (.bool true) ∧ Below w.heap.size w w'))
    (V1 : Hid (∀ w, Calls Tryz.prog 47 #[.agg #[.int .i64 (a), .int .i64 (b)]] w fun e w' => e = .returned (.bool false) ∧ Below w.heap.size w w'))
    : Calls Tryz.prog 20 #[.agg #[.int .i64 c, .int .i64 d, .int .i64 a, .int .i64 b, .int .i64 p, .int .i64 q]] w fun e w' => e = .returned (.bool false) ∧ Below w.heap.size w w' := by
  go_enter Tryz.func20, Tryz.ntmps20
  go_wp2
  (refine name_below ?_; intro w' hb; (try replace hb := below_undrew hb); (try replace hb := below_undrewN hb); obtain ⟨hcell, hfroz⟩ := bcell hb; have hz := hb.size; (try simp at hz); (try (have z6 := Nat.lt_of_lt_of_le z7 hz)); (try (have z7 := Nat.lt_of_lt_of_le z8 hz)); (try (have z8 := Nat.lt_of_lt_of_le z9 hz)); (try (have z9 := Nat.lt_of_lt_of_le (Nat.lt_succ_self _) hz)); (try (have z0 : w.heap.size < w'.heap.size := by omega)); (try (have z1 : w.heap.size + 1 < w'.heap.size := by omega)); (try (have z2 : w.heap.size + 1 + 1 < w'.heap.size := by omega)); (try (have z3 : w.heap.size + 1 + 1 + 1 < w'.heap.size := by omega)); (try (have y1 : w1.heap.size < w'.heap.size := by omega)); (try (have x1 : w1.heap.size + 1 < w'.heap.size := by omega)); (try (have z10 : w1.heap.size < w'.heap.size + 1 := by omega)))
  have hw1 : Below w.heap.size w w' := by (repeat (first | (with_reducible exact Below.refl _ _) | (with_reducible refine Below.setCell ?_ (by (first | (simp; done) | (simp; omega) | omega)) _) | (with_reducible refine bl_alloc ?_ _) | (with_reducible refine bl_drewN ?_) | (with_reducible refine bl_drew ?_) | (with_reducible refine bl_step (by assumption) ?_)))
  have c0 : w'.cell? ⟨w.heap.size, 0, none⟩ = some (.int .i64 c) := by simp [go_sem, *]
  have c1 : w'.cell? ⟨w.heap.size, 1, none⟩ = some (.int .i64 d) := by simp [go_sem, *]
  have c2 : w'.cell? ⟨w.heap.size, 2, none⟩ = some (.int .i64 a) := by simp [go_sem, *]
  have c3 : w'.cell? ⟨w.heap.size, 3, none⟩ = some (.int .i64 b) := by simp [go_sem, *]
  have c4 : w'.cell? ⟨w.heap.size, 4, none⟩ = some (.int .i64 p) := by simp [go_sem, *]
  have c5 : w'.cell? ⟨w.heap.size, 5, none⟩ = some (.int .i64 q) := by simp [go_sem, *]
  clear hcell hfroz hz
  obtain ⟨w1, rfl⟩ : ∃ v, v = w' := ⟨_, rfl⟩
  refine wp_region_quiet_below (by kernel_rfl) (by kernel_rfl) ?_
  repeat (first | go_big_quiet_step (first | exact Calls.regrown_of (V0.out _) | exact Calls.regrown_of (V1.out _)) | quiet_step (first | exact Calls.regrown_of (V0.out _) | exact Calls.regrown_of (V1.out _)))
  refine wpQuiet_nil ?_; intro w' hw'; have hb := below_of_regrown hw'; clear hw'; (try replace hb := below_undrew hb); (try replace hb := below_undrewN hb); obtain ⟨hcell, hfroz⟩ := bcell hb; have hz := hb.size; (try simp at hz); (try (have z6 := Nat.lt_of_lt_of_le z7 hz)); (try (have z7 := Nat.lt_of_lt_of_le z8 hz)); (try (have z8 := Nat.lt_of_lt_of_le z9 hz)); (try (have z9 := Nat.lt_of_lt_of_le (Nat.lt_succ_self _) hz)); (try (have z0 : w.heap.size < w'.heap.size := by omega)); (try (have z1 : w.heap.size + 1 < w'.heap.size := by omega)); (try (have z2 : w.heap.size + 1 + 1 < w'.heap.size := by omega)); (try (have z3 : w.heap.size + 1 + 1 + 1 < w'.heap.size := by omega)); (try (have y1 : w1.heap.size < w'.heap.size := by omega))
  go_wp2
  go_ret
  exact ⟨rfl, bl_step (by (repeat (first | (with_reducible exact Below.refl _ _) | (with_reducible refine Below.setCell ?_ (by (first | (simp; done) | (simp; omega) | omega)) _) | (with_reducible refine bl_alloc ?_ _) | (with_reducible refine bl_drewN ?_) | (with_reducible refine bl_drew ?_) | (with_reducible refine bl_step (by assumption) ?_)))) hw1⟩
set_option maxRecDepth 100000 in
set_option maxHeartbeats 4000000 in
theorem v37_turn1 (c d a b p q s t : Int) (w : World) (h : (s == a) = false) (_h2 : ¬ s = a)
    (V0 : Hid (∀ w, Calls Tryz.prog 46 #[.agg #[.int .i64 (c), .int .i64 (d)]] w fun e w' => e = .returned (.bool true) ∧ Below w.heap.size w w'))
    (V1 : Hid (∀ w, Calls Tryz.prog 47 #[.agg #[.int .i64 (a), .int .i64 (b)]] w fun e w' => e = .returned (.bool true) ∧ Below w.heap.size w w'))
    (V2 : Hid (∀ w, Calls Tryz.prog 48 #[.agg #[.int .i64 (a), .int .i64 (b)]] w fun e w' => e = .returned (.agg #[.int .i64 (s), .int .i64 (t)]) ∧ Below w.heap.size w w'))
    : Calls Tryz.prog 20 #[.agg #[.int .i64 c, .int .i64 d, .int .i64 a, .int .i64 b, .int .i64 p, .int .i64 q]] w fun e w' => e = .returned (.bool false) ∧ Below w.heap.size w w' := by
  go_enter Tryz.func20, Tryz.ntmps20
  go_wp2
  (refine name_below ?_; intro w' hb; (try replace hb := below_undrew hb); (try replace hb := below_undrewN hb); obtain ⟨hcell, hfroz⟩ := bcell hb; have hz := hb.size; (try simp at hz); (try (have z6 := Nat.lt_of_lt_of_le z7 hz)); (try (have z7 := Nat.lt_of_lt_of_le z8 hz)); (try (have z8 := Nat.lt_of_lt_of_le z9 hz)); (try (have z9 := Nat.lt_of_lt_of_le (Nat.lt_succ_self _) hz)); (try (have z0 : w.heap.size < w'.heap.size := by omega)); (try (have z1 : w.heap.size + 1 < w'.heap.size := by omega)); (try (have z2 : w.heap.size + 1 + 1 < w'.heap.size := by omega)); (try (have z3 : w.heap.size + 1 + 1 + 1 < w'.heap.size := by omega)); (try (have y1 : w1.heap.size < w'.heap.size := by omega)); (try (have x1 : w1.heap.size + 1 < w'.heap.size := by omega)); (try (have z10 : w1.heap.size < w'.heap.size + 1 := by omega)))
  have hw1 : Below w.heap.size w w' := by (repeat (first | (with_reducible exact Below.refl _ _) | (with_reducible refine Below.setCell ?_ (by (first | (simp; done) | (simp; omega) | omega)) _) | (with_reducible refine bl_alloc ?_ _) | (with_reducible refine bl_drewN ?_) | (with_reducible refine bl_drew ?_) | (with_reducible refine bl_step (by assumption) ?_)))
  have c0 : w'.cell? ⟨w.heap.size, 0, none⟩ = some (.int .i64 c) := by simp [go_sem, *]
  have c1 : w'.cell? ⟨w.heap.size, 1, none⟩ = some (.int .i64 d) := by simp [go_sem, *]
  have c2 : w'.cell? ⟨w.heap.size, 2, none⟩ = some (.int .i64 a) := by simp [go_sem, *]
  have c3 : w'.cell? ⟨w.heap.size, 3, none⟩ = some (.int .i64 b) := by simp [go_sem, *]
  have c4 : w'.cell? ⟨w.heap.size, 4, none⟩ = some (.int .i64 p) := by simp [go_sem, *]
  have c5 : w'.cell? ⟨w.heap.size, 5, none⟩ = some (.int .i64 q) := by simp [go_sem, *]
  clear hcell hfroz hz
  obtain ⟨w1, rfl⟩ : ∃ v, v = w' := ⟨_, rfl⟩
  refine wp_region_quiet_below (by kernel_rfl) (by kernel_rfl) ?_
  repeat (first | go_big_quiet_step (first | exact Calls.regrown_of (V0.out _) | exact Calls.regrown_of (V1.out _) | exact Calls.regrown_of (V2.out _)) | quiet_step (first | exact Calls.regrown_of (V0.out _) | exact Calls.regrown_of (V1.out _) | exact Calls.regrown_of (V2.out _)))
  refine wpQuiet_nil ?_; intro w' hw'; have hb := below_of_regrown hw'; clear hw'; (try replace hb := below_undrew hb); (try replace hb := below_undrewN hb); obtain ⟨hcell, hfroz⟩ := bcell hb; have hz := hb.size; (try simp at hz); (try (have z6 := Nat.lt_of_lt_of_le z7 hz)); (try (have z7 := Nat.lt_of_lt_of_le z8 hz)); (try (have z8 := Nat.lt_of_lt_of_le z9 hz)); (try (have z9 := Nat.lt_of_lt_of_le (Nat.lt_succ_self _) hz)); (try (have z0 : w.heap.size < w'.heap.size := by omega)); (try (have z1 : w.heap.size + 1 < w'.heap.size := by omega)); (try (have z2 : w.heap.size + 1 + 1 < w'.heap.size := by omega)); (try (have z3 : w.heap.size + 1 + 1 + 1 < w'.heap.size := by omega)); (try (have y1 : w1.heap.size < w'.heap.size := by omega))
  go_wp2
  go_ret
  exact ⟨rfl, bl_step (by (repeat (first | (with_reducible exact Below.refl _ _) | (with_reducible refine Below.setCell ?_ (by (first | (simp; done) | (simp; omega) | omega)) _) | (with_reducible refine bl_alloc ?_ _) | (with_reducible refine bl_drewN ?_) | (with_reducible refine bl_drew ?_) | (with_reducible refine bl_step (by assumption) ?_)))) hw1⟩
set_option maxRecDepth 100000 in
set_option maxHeartbeats 4000000 in
theorem v37_turn2 (c d a b p q _s t : Int) (w : World) (h : (t == b) = false) (_h2 : ¬ t = b)
    (V0 : Hid (∀ w, Calls Tryz.prog 46 #[.agg #[.int .i64 (c), .int .i64 (d)]] w fun e w' => e = .returned (.bool true) ∧ Below w.heap.size w w'))
    (V1 : Hid (∀ w, Calls Tryz.prog 47 #[.agg #[.int .i64 (a), .int .i64 (b)]] w fun e w' => e = .returned (.bool true) ∧ Below w.heap.size w w'))
    (V2 : Hid (∀ w, Calls Tryz.prog 48 #[.agg #[.int .i64 (a), .int .i64 (b)]] w fun e w' => e = .returned (.agg #[.int .i64 (a), .int .i64 (t)]) ∧ Below w.heap.size w w'))
    : Calls Tryz.prog 20 #[.agg #[.int .i64 c, .int .i64 d, .int .i64 a, .int .i64 b, .int .i64 p, .int .i64 q]] w fun e w' => e = .returned (.bool false) ∧ Below w.heap.size w w' := by
  go_enter Tryz.func20, Tryz.ntmps20
  go_wp2
  (refine name_below ?_; intro w' hb; (try replace hb := below_undrew hb); (try replace hb := below_undrewN hb); obtain ⟨hcell, hfroz⟩ := bcell hb; have hz := hb.size; (try simp at hz); (try (have z6 := Nat.lt_of_lt_of_le z7 hz)); (try (have z7 := Nat.lt_of_lt_of_le z8 hz)); (try (have z8 := Nat.lt_of_lt_of_le z9 hz)); (try (have z9 := Nat.lt_of_lt_of_le (Nat.lt_succ_self _) hz)); (try (have z0 : w.heap.size < w'.heap.size := by omega)); (try (have z1 : w.heap.size + 1 < w'.heap.size := by omega)); (try (have z2 : w.heap.size + 1 + 1 < w'.heap.size := by omega)); (try (have z3 : w.heap.size + 1 + 1 + 1 < w'.heap.size := by omega)); (try (have y1 : w1.heap.size < w'.heap.size := by omega)); (try (have x1 : w1.heap.size + 1 < w'.heap.size := by omega)); (try (have z10 : w1.heap.size < w'.heap.size + 1 := by omega)))
  have hw1 : Below w.heap.size w w' := by (repeat (first | (with_reducible exact Below.refl _ _) | (with_reducible refine Below.setCell ?_ (by (first | (simp; done) | (simp; omega) | omega)) _) | (with_reducible refine bl_alloc ?_ _) | (with_reducible refine bl_drewN ?_) | (with_reducible refine bl_drew ?_) | (with_reducible refine bl_step (by assumption) ?_)))
  have c0 : w'.cell? ⟨w.heap.size, 0, none⟩ = some (.int .i64 c) := by simp [go_sem, *]
  have c1 : w'.cell? ⟨w.heap.size, 1, none⟩ = some (.int .i64 d) := by simp [go_sem, *]
  have c2 : w'.cell? ⟨w.heap.size, 2, none⟩ = some (.int .i64 a) := by simp [go_sem, *]
  have c3 : w'.cell? ⟨w.heap.size, 3, none⟩ = some (.int .i64 b) := by simp [go_sem, *]
  have c4 : w'.cell? ⟨w.heap.size, 4, none⟩ = some (.int .i64 p) := by simp [go_sem, *]
  have c5 : w'.cell? ⟨w.heap.size, 5, none⟩ = some (.int .i64 q) := by simp [go_sem, *]
  clear hcell hfroz hz
  obtain ⟨w1, rfl⟩ : ∃ v, v = w' := ⟨_, rfl⟩
  refine wp_region_quiet_below (by kernel_rfl) (by kernel_rfl) ?_
  repeat (first | go_big_quiet_step (first | exact Calls.regrown_of (V0.out _) | exact Calls.regrown_of (V1.out _) | exact Calls.regrown_of (V2.out _)) | quiet_step (first | exact Calls.regrown_of (V0.out _) | exact Calls.regrown_of (V1.out _) | exact Calls.regrown_of (V2.out _)))
  refine wpQuiet_nil ?_; intro w' hw'; have hb := below_of_regrown hw'; clear hw'; (try replace hb := below_undrew hb); (try replace hb := below_undrewN hb); obtain ⟨hcell, hfroz⟩ := bcell hb; have hz := hb.size; (try simp at hz); (try (have z6 := Nat.lt_of_lt_of_le z7 hz)); (try (have z7 := Nat.lt_of_lt_of_le z8 hz)); (try (have z8 := Nat.lt_of_lt_of_le z9 hz)); (try (have z9 := Nat.lt_of_lt_of_le (Nat.lt_succ_self _) hz)); (try (have z0 : w.heap.size < w'.heap.size := by omega)); (try (have z1 : w.heap.size + 1 < w'.heap.size := by omega)); (try (have z2 : w.heap.size + 1 + 1 < w'.heap.size := by omega)); (try (have z3 : w.heap.size + 1 + 1 + 1 < w'.heap.size := by omega)); (try (have y1 : w1.heap.size < w'.heap.size := by omega))
  go_wp2
  go_ret
  exact ⟨rfl, bl_step (by (repeat (first | (with_reducible exact Below.refl _ _) | (with_reducible refine Below.setCell ?_ (by (first | (simp; done) | (simp; omega) | omega)) _) | (with_reducible refine bl_alloc ?_ _) | (with_reducible refine bl_drewN ?_) | (with_reducible refine bl_drew ?_) | (with_reducible refine bl_step (by assumption) ?_)))) hw1⟩
set_option maxRecDepth 100000 in
set_option maxHeartbeats 4000000 in
theorem v37_half (c d a b p q _s _t : Int) (w : World) (b0 : -1099511627776 ≤ a) (b1 : b ≤ 1099511627776) (b2 : a ≤ b) (h : decide (b - a < 10800000) = false)
    (V0 : Hid (∀ w, Calls Tryz.prog 46 #[.agg #[.int .i64 (c), .int .i64 (d)]] w fun e w' => e = .returned (.bool true) ∧ Below w.heap.size w w'))
    (V1 : Hid (∀ w, Calls Tryz.prog 47 #[.agg #[.int .i64 (a), .int .i64 (b)]] w fun e w' => e = .returned (.bool true) ∧ Below w.heap.size w w'))
    (V2 : Hid (∀ w, Calls Tryz.prog 48 #[.agg #[.int .i64 (a), .int .i64 (b)]] w fun e w' => e = .returned (.agg #[.int .i64 (a), .int .i64 (b)]) ∧ Below w.heap.size w w'))
    : Calls Tryz.prog 20 #[.agg #[.int .i64 c, .int .i64 d, .int .i64 a, .int .i64 b, .int .i64 p, .int .i64 q]] w fun e w' => e = .returned (.bool false) ∧ Below w.heap.size w w' := by
  have wba : IntKind.i64.wrap (b - a) = b - a := by rw [IntKind.wrap_i64]; omega
  go_enter Tryz.func20, Tryz.ntmps20
  go_wp2
  (refine name_below ?_; intro w' hb; (try replace hb := below_undrew hb); (try replace hb := below_undrewN hb); obtain ⟨hcell, hfroz⟩ := bcell hb; have hz := hb.size; (try simp at hz); (try (have z6 := Nat.lt_of_lt_of_le z7 hz)); (try (have z7 := Nat.lt_of_lt_of_le z8 hz)); (try (have z8 := Nat.lt_of_lt_of_le z9 hz)); (try (have z9 := Nat.lt_of_lt_of_le (Nat.lt_succ_self _) hz)); (try (have z0 : w.heap.size < w'.heap.size := by omega)); (try (have z1 : w.heap.size + 1 < w'.heap.size := by omega)); (try (have z2 : w.heap.size + 1 + 1 < w'.heap.size := by omega)); (try (have z3 : w.heap.size + 1 + 1 + 1 < w'.heap.size := by omega)); (try (have y1 : w1.heap.size < w'.heap.size := by omega)); (try (have x1 : w1.heap.size + 1 < w'.heap.size := by omega)); (try (have z10 : w1.heap.size < w'.heap.size + 1 := by omega)))
  have hw1 : Below w.heap.size w w' := by (repeat (first | (with_reducible exact Below.refl _ _) | (with_reducible refine Below.setCell ?_ (by (first | (simp; done) | (simp; omega) | omega)) _) | (with_reducible refine bl_alloc ?_ _) | (with_reducible refine bl_drewN ?_) | (with_reducible refine bl_drew ?_) | (with_reducible refine bl_step (by assumption) ?_)))
  have c0 : w'.cell? ⟨w.heap.size, 0, none⟩ = some (.int .i64 c) := by simp [go_sem, *]
  have c1 : w'.cell? ⟨w.heap.size, 1, none⟩ = some (.int .i64 d) := by simp [go_sem, *]
  have c2 : w'.cell? ⟨w.heap.size, 2, none⟩ = some (.int .i64 a) := by simp [go_sem, *]
  have c3 : w'.cell? ⟨w.heap.size, 3, none⟩ = some (.int .i64 b) := by simp [go_sem, *]
  have c4 : w'.cell? ⟨w.heap.size, 4, none⟩ = some (.int .i64 p) := by simp [go_sem, *]
  have c5 : w'.cell? ⟨w.heap.size, 5, none⟩ = some (.int .i64 q) := by simp [go_sem, *]
  clear hcell hfroz hz
  obtain ⟨w1, rfl⟩ : ∃ v, v = w' := ⟨_, rfl⟩
  refine wp_region_quiet_below (by kernel_rfl) (by kernel_rfl) ?_
  repeat (first | go_big_quiet_step (first | exact Calls.regrown_of (V0.out _) | exact Calls.regrown_of (V1.out _) | exact Calls.regrown_of (V2.out _)) | quiet_step (first | exact Calls.regrown_of (V0.out _) | exact Calls.regrown_of (V1.out _) | exact Calls.regrown_of (V2.out _)))
  refine wpQuiet_nil ?_; intro w' hw'; have hb := below_of_regrown hw'; clear hw'; (try replace hb := below_undrew hb); (try replace hb := below_undrewN hb); obtain ⟨hcell, hfroz⟩ := bcell hb; have hz := hb.size; (try simp at hz); (try (have z6 := Nat.lt_of_lt_of_le z7 hz)); (try (have z7 := Nat.lt_of_lt_of_le z8 hz)); (try (have z8 := Nat.lt_of_lt_of_le z9 hz)); (try (have z9 := Nat.lt_of_lt_of_le (Nat.lt_succ_self _) hz)); (try (have z0 : w.heap.size < w'.heap.size := by omega)); (try (have z1 : w.heap.size + 1 < w'.heap.size := by omega)); (try (have z2 : w.heap.size + 1 + 1 < w'.heap.size := by omega)); (try (have z3 : w.heap.size + 1 + 1 + 1 < w'.heap.size := by omega)); (try (have y1 : w1.heap.size < w'.heap.size := by omega))
  go_wp2
  go_ret
  exact ⟨rfl, bl_step (by (repeat (first | (with_reducible exact Below.refl _ _) | (with_reducible refine Below.setCell ?_ (by (first | (simp; done) | (simp; omega) | omega)) _) | (with_reducible refine bl_alloc ?_ _) | (with_reducible refine bl_drewN ?_) | (with_reducible refine bl_drew ?_) | (with_reducible refine bl_step (by assumption) ?_)))) hw1⟩
set_option maxRecDepth 100000 in
set_option maxHeartbeats 4000000 in
theorem v37_from (c d a b p q _s _t : Int) (w : World) (b0 : -1099511627776 ≤ a) (b1 : b ≤ 1099511627776) (b2 : a ≤ b) (h : decide (b - a < 10800000) = true)
    (V0 : Hid (∀ w, Calls Tryz.prog 46 #[.agg #[.int .i64 (c), .int .i64 (d)]] w fun e w' => e = .returned (.bool true) ∧ Below w.heap.size w w'))
    (V1 : Hid (∀ w, Calls Tryz.prog 47 #[.agg #[.int .i64 (a), .int .i64 (b)]] w fun e w' => e = .returned (.bool true) ∧ Below w.heap.size w w'))
    (V2 : Hid (∀ w, Calls Tryz.prog 48 #[.agg #[.int .i64 (a), .int .i64 (b)]] w fun e w' => e = .returned (.agg #[.int .i64 (a), .int .i64 (b)]) ∧ Below w.heap.size w w'))
    (V3 : Hid (∀ w, Calls Tryz.prog 49 #[.agg #[.int .i64 (p), .int .i64 (q)], .int .i64 600000] w fun e w' => e = .returned (.bool false) ∧ Below w.heap.size w w'))
    : Calls Tryz.prog 20 #[.agg #[.int .i64 c, .int .i64 d, .int .i64 a, .int .i64 b, .int .i64 p, .int .i64 q]] w fun e w' => e = .returned (.bool false) ∧ Below w.heap.size w w' := by
  have wba : IntKind.i64.wrap (b - a) = b - a := by rw [IntKind.wrap_i64]; omega
  go_enter Tryz.func20, Tryz.ntmps20
  go_wp2
  (refine name_below ?_; intro w' hb; (try replace hb := below_undrew hb); (try replace hb := below_undrewN hb); obtain ⟨hcell, hfroz⟩ := bcell hb; have hz := hb.size; (try simp at hz); (try (have z6 := Nat.lt_of_lt_of_le z7 hz)); (try (have z7 := Nat.lt_of_lt_of_le z8 hz)); (try (have z8 := Nat.lt_of_lt_of_le z9 hz)); (try (have z9 := Nat.lt_of_lt_of_le (Nat.lt_succ_self _) hz)); (try (have z0 : w.heap.size < w'.heap.size := by omega)); (try (have z1 : w.heap.size + 1 < w'.heap.size := by omega)); (try (have z2 : w.heap.size + 1 + 1 < w'.heap.size := by omega)); (try (have z3 : w.heap.size + 1 + 1 + 1 < w'.heap.size := by omega)); (try (have y1 : w1.heap.size < w'.heap.size := by omega)); (try (have x1 : w1.heap.size + 1 < w'.heap.size := by omega)); (try (have z10 : w1.heap.size < w'.heap.size + 1 := by omega)))
  have hw1 : Below w.heap.size w w' := by (repeat (first | (with_reducible exact Below.refl _ _) | (with_reducible refine Below.setCell ?_ (by (first | (simp; done) | (simp; omega) | omega)) _) | (with_reducible refine bl_alloc ?_ _) | (with_reducible refine bl_drewN ?_) | (with_reducible refine bl_drew ?_) | (with_reducible refine bl_step (by assumption) ?_)))
  have c0 : w'.cell? ⟨w.heap.size, 0, none⟩ = some (.int .i64 c) := by simp [go_sem, *]
  have c1 : w'.cell? ⟨w.heap.size, 1, none⟩ = some (.int .i64 d) := by simp [go_sem, *]
  have c2 : w'.cell? ⟨w.heap.size, 2, none⟩ = some (.int .i64 a) := by simp [go_sem, *]
  have c3 : w'.cell? ⟨w.heap.size, 3, none⟩ = some (.int .i64 b) := by simp [go_sem, *]
  have c4 : w'.cell? ⟨w.heap.size, 4, none⟩ = some (.int .i64 p) := by simp [go_sem, *]
  have c5 : w'.cell? ⟨w.heap.size, 5, none⟩ = some (.int .i64 q) := by simp [go_sem, *]
  clear hcell hfroz hz
  obtain ⟨w1, rfl⟩ : ∃ v, v = w' := ⟨_, rfl⟩
  refine wp_region_quiet_below (by kernel_rfl) (by kernel_rfl) ?_
  repeat (first | go_big_quiet_step (first | exact Calls.regrown_of (V0.out _) | exact Calls.regrown_of (V1.out _) | exact Calls.regrown_of (V2.out _) | exact Calls.regrown_of (V3.out _)) | quiet_step (first | exact Calls.regrown_of (V0.out _) | exact Calls.regrown_of (V1.out _) | exact Calls.regrown_of (V2.out _) | exact Calls.regrown_of (V3.out _)))
  refine wpQuiet_nil ?_; intro w' hw'; have hb := below_of_regrown hw'; clear hw'; (try replace hb := below_undrew hb); (try replace hb := below_undrewN hb); obtain ⟨hcell, hfroz⟩ := bcell hb; have hz := hb.size; (try simp at hz); (try (have z6 := Nat.lt_of_lt_of_le z7 hz)); (try (have z7 := Nat.lt_of_lt_of_le z8 hz)); (try (have z8 := Nat.lt_of_lt_of_le z9 hz)); (try (have z9 := Nat.lt_of_lt_of_le (Nat.lt_succ_self _) hz)); (try (have z0 : w.heap.size < w'.heap.size := by omega)); (try (have z1 : w.heap.size + 1 < w'.heap.size := by omega)); (try (have z2 : w.heap.size + 1 + 1 < w'.heap.size := by omega)); (try (have z3 : w.heap.size + 1 + 1 + 1 < w'.heap.size := by omega)); (try (have y1 : w1.heap.size < w'.heap.size := by omega))
  go_wp2
  go_ret
  exact ⟨rfl, bl_step (by (repeat (first | (with_reducible exact Below.refl _ _) | (with_reducible refine Below.setCell ?_ (by (first | (simp; done) | (simp; omega) | omega)) _) | (with_reducible refine bl_alloc ?_ _) | (with_reducible refine bl_drewN ?_) | (with_reducible refine bl_drew ?_) | (with_reducible refine bl_step (by assumption) ?_)))) hw1⟩
set_option maxRecDepth 100000 in
set_option maxHeartbeats 4000000 in
theorem v37_ok (c d a b p q _s _t : Int) (w : World) (b0 : -1099511627776 ≤ a) (b1 : b ≤ 1099511627776) (b2 : a ≤ b) (h : decide (b - a < 10800000) = true)
    (V0 : Hid (∀ w, Calls Tryz.prog 46 #[.agg #[.int .i64 (c), .int .i64 (d)]] w fun e w' => e = .returned (.bool true) ∧ Below w.heap.size w w'))
    (V1 : Hid (∀ w, Calls Tryz.prog 47 #[.agg #[.int .i64 (a), .int .i64 (b)]] w fun e w' => e = .returned (.bool true) ∧ Below w.heap.size w w'))
    (V2 : Hid (∀ w, Calls Tryz.prog 48 #[.agg #[.int .i64 (a), .int .i64 (b)]] w fun e w' => e = .returned (.agg #[.int .i64 (a), .int .i64 (b)]) ∧ Below w.heap.size w w'))
    (V3 : Hid (∀ w, Calls Tryz.prog 49 #[.agg #[.int .i64 (p), .int .i64 (q)], .int .i64 600000] w fun e w' => e = .returned (.bool true) ∧ Below w.heap.size w w'))
    : Calls Tryz.prog 20 #[.agg #[.int .i64 c, .int .i64 d, .int .i64 a, .int .i64 b, .int .i64 p, .int .i64 q]] w fun e w' => e = .returned (.bool true) ∧ Below w.heap.size w w' := by
  have wba : IntKind.i64.wrap (b - a) = b - a := by rw [IntKind.wrap_i64]; omega
  go_enter Tryz.func20, Tryz.ntmps20
  go_wp2
  (refine name_below ?_; intro w' hb; (try replace hb := below_undrew hb); (try replace hb := below_undrewN hb); obtain ⟨hcell, hfroz⟩ := bcell hb; have hz := hb.size; (try simp at hz); (try (have z6 := Nat.lt_of_lt_of_le z7 hz)); (try (have z7 := Nat.lt_of_lt_of_le z8 hz)); (try (have z8 := Nat.lt_of_lt_of_le z9 hz)); (try (have z9 := Nat.lt_of_lt_of_le (Nat.lt_succ_self _) hz)); (try (have z0 : w.heap.size < w'.heap.size := by omega)); (try (have z1 : w.heap.size + 1 < w'.heap.size := by omega)); (try (have z2 : w.heap.size + 1 + 1 < w'.heap.size := by omega)); (try (have z3 : w.heap.size + 1 + 1 + 1 < w'.heap.size := by omega)); (try (have y1 : w1.heap.size < w'.heap.size := by omega)); (try (have x1 : w1.heap.size + 1 < w'.heap.size := by omega)); (try (have z10 : w1.heap.size < w'.heap.size + 1 := by omega)))
  have hw1 : Below w.heap.size w w' := by (repeat (first | (with_reducible exact Below.refl _ _) | (with_reducible refine Below.setCell ?_ (by (first | (simp; done) | (simp; omega) | omega)) _) | (with_reducible refine bl_alloc ?_ _) | (with_reducible refine bl_drewN ?_) | (with_reducible refine bl_drew ?_) | (with_reducible refine bl_step (by assumption) ?_)))
  have c0 : w'.cell? ⟨w.heap.size, 0, none⟩ = some (.int .i64 c) := by simp [go_sem, *]
  have c1 : w'.cell? ⟨w.heap.size, 1, none⟩ = some (.int .i64 d) := by simp [go_sem, *]
  have c2 : w'.cell? ⟨w.heap.size, 2, none⟩ = some (.int .i64 a) := by simp [go_sem, *]
  have c3 : w'.cell? ⟨w.heap.size, 3, none⟩ = some (.int .i64 b) := by simp [go_sem, *]
  have c4 : w'.cell? ⟨w.heap.size, 4, none⟩ = some (.int .i64 p) := by simp [go_sem, *]
  have c5 : w'.cell? ⟨w.heap.size, 5, none⟩ = some (.int .i64 q) := by simp [go_sem, *]
  clear hcell hfroz hz
  obtain ⟨w1, rfl⟩ : ∃ v, v = w' := ⟨_, rfl⟩
  refine wp_region_quiet_below (by kernel_rfl) (by kernel_rfl) ?_
  repeat (first | go_big_quiet_step (first | exact Calls.regrown_of (V0.out _) | exact Calls.regrown_of (V1.out _) | exact Calls.regrown_of (V2.out _) | exact Calls.regrown_of (V3.out _)) | quiet_step (first | exact Calls.regrown_of (V0.out _) | exact Calls.regrown_of (V1.out _) | exact Calls.regrown_of (V2.out _) | exact Calls.regrown_of (V3.out _)))
  refine wpQuiet_nil ?_; intro w' hw'; have hb := below_of_regrown hw'; clear hw'; (try replace hb := below_undrew hb); (try replace hb := below_undrewN hb); obtain ⟨hcell, hfroz⟩ := bcell hb; have hz := hb.size; (try simp at hz); (try (have z6 := Nat.lt_of_lt_of_le z7 hz)); (try (have z7 := Nat.lt_of_lt_of_le z8 hz)); (try (have z8 := Nat.lt_of_lt_of_le z9 hz)); (try (have z9 := Nat.lt_of_lt_of_le (Nat.lt_succ_self _) hz)); (try (have z0 : w.heap.size < w'.heap.size := by omega)); (try (have z1 : w.heap.size + 1 < w'.heap.size := by omega)); (try (have z2 : w.heap.size + 1 + 1 < w'.heap.size := by omega)); (try (have z3 : w.heap.size + 1 + 1 + 1 < w'.heap.size := by omega)); (try (have y1 : w1.heap.size < w'.heap.size := by omega))
  go_wp2
  go_ret
  exact ⟨rfl, bl_step (by (repeat (first | (with_reducible exact Below.refl _ _) | (with_reducible refine Below.setCell ?_ (by (first | (simp; done) | (simp; omega) | omega)) _) | (with_reducible refine bl_alloc ?_ _) | (with_reducible refine bl_drewN ?_) | (with_reducible refine bl_drew ?_) | (with_reducible refine bl_step (by assumption) ?_)))) hw1⟩
end Go.Proofs.YtjceofmhodcefaaGreat

namespace Go.Proofs.YtjceofmhodcefaaGreat
open Go.RowKit

theorem arcLo_bd {a b : Int} (h : a ≤ b) : 0 ≤ arcLo a b ∧ arcLo a b ≤ 21600000 ∧ 0 ≤ arcHi a b ∧ arcHi a b ≤ 43200000 := by unfold arcLo arcHi; split <;> omega
theorem from_is (a b : Int) (h : a ≤ b) : fromB a b = withB a b := by
  unfold fromB withB
  rw [Bool.eq_iff_iff]
  simp only [Bool.and_eq_true, decide_eq_true_eq]
  omega

/-- Valid of the reference says what Valid says. -/
theorem v37_any (c d a b p q : Int) (w : World) :
    Calls Tryz.prog 20 #[.agg #[.int .i64 c, .int .i64 d, .int .i64 a, .int .i64 b, .int .i64 p, .int .i64 q]] w fun e w' => e = .returned (.bool (lineB c d a b p q)) ∧ Below w.heap.size w w' := by
  cases h0 : nearB c d
  · rw [show lineB c d a b p q = false by simp [lineB, h0]]
    exact v37_near c d a b p q 0 0 w (hidden fun w => by have := near37_is c d w; rw [h0] at this; exact this)
  have V0 := hidden fun w => (by have := near37_is c d w; rw [h0] at this; exact this : Calls Tryz.prog 46 #[.agg #[.int .i64 (c), .int .i64 (d)]] w fun e w' => e = .returned (.bool true) ∧ Below w.heap.size w w')
  cases h1 : arcB a b
  · rw [show lineB c d a b p q = false by simp [lineB, h0, h1]]
    exact v37_arc c d a b p q 0 0 w V0 (hidden fun w => by have := valid5_any a b w; rw [h1] at this; exact this)
  have V1 := hidden fun w => (by have := valid5_any a b w; rw [h1] at this; exact this : Calls Tryz.prog 47 #[.agg #[.int .i64 (a), .int .i64 (b)]] w fun e w' => e = .returned (.bool true) ∧ Below w.heap.size w w')
  obtain ⟨b0, b1, b2⟩ := arcB_t h1
  have V2 := hidden fun w => turn5_any a b w (by omega) b0 (by omega)
  by_cases h2 : arcLo a b = a
  case neg =>
    rw [show lineB c d a b p q = false by
      rw [Bool.eq_false_iff]; intro h; apply h2
      simp only [lineB, Bool.and_eq_true, decide_eq_true_eq] at h
      unfold arcLo; rw [if_neg (by omega)]; omega]
    exact v37_turn1 c d a b p q (arcLo a b) (arcHi a b) w (by simpa using h2) h2 V0 V1 V2
  rw [h2] at V2
  by_cases h3 : arcHi a b = b
  case neg =>
    rw [show lineB c d a b p q = false by
      rw [Bool.eq_false_iff]; intro h; apply h3
      simp only [lineB, Bool.and_eq_true, decide_eq_true_eq] at h
      unfold arcHi; rw [if_neg (by omega)]; omega]
    exact v37_turn2 c d a b p q a (arcHi a b) w (by simpa using h3) h3 V0 V1 V2
  rw [h3] at V2
  by_cases h4 : b - a < 10800000
  case neg =>
    rw [show lineB c d a b p q = false by simp [lineB, h4]]
    exact v37_half c d a b p q 0 0 w b1 b2 b0 (by simpa using h4) V0 V1 V2
  have e1 : 0 ≤ a := by rw [← h2]; exact (arcLo_bd b0).1
  have e2 : a < 21600000 := by rw [← h2]; unfold arcLo; split <;> omega
  cases h5 : fromB p q
  · rw [show lineB c d a b p q = false by
      rw [Bool.eq_false_iff]; intro h
      simp only [lineB, Bool.and_eq_true, decide_eq_true_eq] at h
      have h6 := arcB_t h.2.2.2.2.2.1
      rw [from_is p q h6.1] at h5
      simp [withB] at h5
      omega]
    exact v37_from c d a b p q 0 0 w b1 b2 b0 (by simpa using h4) V0 V1 V2 (hidden fun w => by have := from_any p q w; rw [h5] at this; exact this)
  · rw [show lineB c d a b p q = true by
      have h6 : p ≤ q ∧ -600000 ≤ p ∧ q ≤ 600000 := by simpa [fromB] using h5
      have h7 : arcB p q = true := arcB_mk (by omega)
      simp only [lineB, Bool.and_eq_true, decide_eq_true_eq]
      exact ⟨h0, h1, e1, e2, h4, h7, h6.2.1, h6.2.2⟩]
    exact v37_ok c d a b p q 0 0 w b1 b2 b0 (by simpa using h4) V0 V1 V2 (hidden fun w => by have := from_any p q w; rw [h5] at this; exact this)

end Go.Proofs.YtjceofmhodcefaaGreat
