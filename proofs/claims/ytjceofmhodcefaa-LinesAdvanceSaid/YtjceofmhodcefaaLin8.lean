/- The example of the chapter on lines: Move, and all of it. -/
import Derived.Test.YtjceofmhodcefaaLin7
namespace Go.Proofs.Ytjceofmhodcefaa
open Go.RowKit

theorem ex_move (w : World) : Calls Try.prog 9 #[.agg #[.int .i64 0, .int .i64 0, .int .i64 0, .int .i64 0, .int .i64 5000, .int .i64 5000], .agg #[.int .i64 0, .int .i64 0, .int .i64 10000, .int .i64 10000]] w
    fun e w' => e = .returned (.tuple #[.agg #[.int .i64 0, .int .i64 0, .int .i64 0, .int .i64 0, .int .i64 15000, .int .i64 15000], .int .i64 0]) ∧ Below w.heap.size w w' := by
  have T : Hid (∀ B w, okAt w B → Calls Try.prog 29 #[.pointer (some ⟨B, 0, none⟩), .agg #[.int .i64 (10000), .int .i64 (10000)], .agg #[.int .i64 (1073741824), .int .i64 (1073741824)]] w fun e w' => e = .returned (.agg #[.int .i64 (10000), .int .i64 (10000)]) ∧ Below w.heap.size w w') := hidden fun B w h => by
    have k := ptimes_any 10000 10000 1073741824 1073741824 B w h (by decide) (by decide) (by decide)
    rw [show tmLo 10000 10000 1073741824 1073741824 = 10000 by kernel_rfl, show tmHi 10000 10000 1073741824 1073741824 = 10000 by kernel_rfl] at k
    exact k
  exact move_ok 0 0 0 0 5000 5000 0 0 10000 10000 0 0 1073741824 1073741824 10000 10000 15000 15000 w (by decide) (by decide) (by decide) (by decide) (by decide)
    (hidden fun w => sub_ok 0 0 0 0 w (by decide) (by decide) (by decide) (by decide)) (hidden cos_0) T (hidden fun w => ladd_any 5000 5000 10000 10000 w (by decide) (by decide) (by decide) (by decide)) (hidden fun w => within_any 15000 15000 w)

end Go.Proofs.Ytjceofmhodcefaa
