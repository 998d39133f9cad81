/- Several small texts in one: XLin8, XLin9. -/
import Derived.Test.YtjceofmhodcefaaGreatLin7
import Derived.Test.YtjceofmhodcefaaGreatLa
namespace Go.Proofs.YtjceofmhodcefaaGreat
open Go.RowKit

theorem ex_move (w : World) : Calls Tryz.prog 10 #[.agg #[.int .i64 0, .int .i64 0, .int .i64 0, .int .i64 0, .int .i64 5000, .int .i64 5000], .agg #[.int .i64 0, .int .i64 0, .int .i64 10000, .int .i64 10000]] w
    fun e w' => e = .returned (.tuple #[.agg #[.int .i64 0, .int .i64 0, .int .i64 0, .int .i64 0, .int .i64 15000, .int .i64 15000], .int .i64 0]) ∧ Below w.heap.size w w' := by
  have T : Hid (∀ B w, okAt w B → Calls Tryz.prog 33 #[.pointer (some ⟨B, 0, none⟩), .agg #[.int .i64 (10000), .int .i64 (10000)], .agg #[.int .i64 (1073741824), .int .i64 (1073741824)]] w fun e w' => e = .returned (.agg #[.int .i64 (10000), .int .i64 (10000)]) ∧ Below w.heap.size w w') := hidden fun B w h => by
    have k := ptimes_any 10000 10000 1073741824 1073741824 B w h (by decide) (by decide) (by decide)
    rw [show tmLo 10000 10000 1073741824 1073741824 = 10000 by kernel_rfl, show tmHi 10000 10000 1073741824 1073741824 = 10000 by kernel_rfl] at k
    exact k
  exact move_ok 0 0 0 0 5000 5000 0 0 10000 10000 0 0 1073741824 1073741824 10000 10000 15000 15000 w (by decide) (by decide) (by decide) (by decide) (by decide)
    (hidden fun w => sub_ok 0 0 0 0 w (by decide) (by decide) (by decide) (by decide)) (hidden cos_0) T (hidden fun w => ladd_any 5000 5000 10000 10000 w (by decide) (by decide) (by decide) (by decide)) (hidden fun w => within_any 15000 15000 w)

end Go.Proofs.YtjceofmhodcefaaGreat

namespace Go.Proofs.YtjceofmhodcefaaGreat
open Go.RowKit

set_option maxRecDepth 100000 in
set_option maxHeartbeats 2000000 in
theorem equal2_ok (B1 B2 cap : Nat) (w : World) (c0 : w.cell? ⟨B1, 0, none⟩ = some (.int .i64 0)) (c1 : w.cell? ⟨B1, 1, none⟩ = some (.int .i64 0)) (d0 : w.cell? ⟨B2, 0, none⟩ = some (.int .i64 0)) (d1 : w.cell? ⟨B2, 1, none⟩ = some (.int .i64 0)) :
    Calls Tryz.prog 7 #[.slice (some ⟨B1, 0, none⟩) 2 cap, .slice (some ⟨B2, 0, none⟩) 2 2] w fun e w' => e = .returned (.bool true) ∧ Below w.heap.size w w' := by
  have hB1 : B1 < w.heap.size := World.block_lt_of_cell? _ _ c0
  have hB2 : B2 < w.heap.size := World.block_lt_of_cell? _ _ d0
  go_enter Tryz.func7, Tryz.ntmps7
  go_wp2
  refine wp_loop_rounds 3 ?_
  rw [rounds_succ]
  go_wp2
  go_quiet (fail)
  refine name_world (F := Exit.then _ _ _ _) ?_
  intro w' hb
  (try replace hb := below_undrew hb); (try replace hb := below_undrewN hb); obtain ⟨hcell, hfroz⟩ := bcell hb; have hz := hb.size; (try simp at hz); (try (have z6 := Nat.lt_of_lt_of_le z7 hz)); (try (have z7 := Nat.lt_of_lt_of_le z8 hz)); (try (have z8 := Nat.lt_of_lt_of_le z9 hz)); (try (have z9 := Nat.lt_of_lt_of_le (Nat.lt_succ_self _) hz)); (try (have z0 : w.heap.size < w'.heap.size := by omega)); (try (have z1 : w.heap.size + 1 < w'.heap.size := by omega)); (try (have z2 : w.heap.size + 1 + 1 < w'.heap.size := by omega)); (try (have z3 : w.heap.size + 1 + 1 + 1 < w'.heap.size := by omega)); (try (have y2 : w2.heap.size < w'.heap.size := by omega)); (try (have x2 : w2.heap.size + 1 < w'.heap.size := by omega)); (try (have hB1 : B1 < w'.heap.size := by omega)); (try (have hB2 : B2 < w'.heap.size := by omega)); (try (have hB3 : B1 < w'.heap.size + 1 := by omega)); (try (have hB4 : B2 < w'.heap.size + 1 := by omega))
  go_wp2
  rw [rounds_succ]
  go_wp2
  go_quiet (fail)
  obtain ⟨w2, rfl⟩ : ∃ v, v = w' := ⟨_, rfl⟩
  refine name_world (F := Exit.then _ _ _ _) ?_
  intro w' hb
  (try replace hb := below_undrew hb); (try replace hb := below_undrewN hb); obtain ⟨hcell, hfroz⟩ := bcell hb; have hz := hb.size; (try simp at hz); (try (have z6 := Nat.lt_of_lt_of_le z7 hz)); (try (have z7 := Nat.lt_of_lt_of_le z8 hz)); (try (have z8 := Nat.lt_of_lt_of_le z9 hz)); (try (have z9 := Nat.lt_of_lt_of_le (Nat.lt_succ_self _) hz)); (try (have z0 : w.heap.size < w'.heap.size := by omega)); (try (have z1 : w.heap.size + 1 < w'.heap.size := by omega)); (try (have z2 : w.heap.size + 1 + 1 < w'.heap.size := by omega)); (try (have z3 : w.heap.size + 1 + 1 + 1 < w'.heap.size := by omega)); (try (have y2 : w2.heap.size < w'.heap.size := by omega)); (try (have x2 : w2.heap.size + 1 < w'.heap.size := by omega)); (try (have hB1 : B1 < w'.heap.size := by omega)); (try (have hB2 : B2 < w'.heap.size := by omega)); (try (have hB3 : B1 < w'.heap.size + 1 := by omega)); (try (have hB4 : B2 < w'.heap.size + 1 := by omega))
  go_wp2
  rw [rounds_succ]
  go_wp2
  go_ret
  exact ⟨rfl, by (repeat (first | exact Below.refl _ _ | refine bl_drewN ?_ | refine bl_drew ?_ | refine bl_alloc ?_ _ | refine Below.setCell ?_ (by (first | (simp; done) | (simp; omega) | omega)) _ | refine bl_step (by assumption) ?_))⟩

end Go.Proofs.YtjceofmhodcefaaGreat
