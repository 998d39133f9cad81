/- The statement on drifts: an hour in a current is two legs. -/
import Derived.Test.YtdhbeoahpfimbaaGreatDz
import Derived.Test.YtdhbeoahpfimbaaGreatAz
namespace Go.Proofs.YtdhbeoahpfimbaaGreat
open Go.RowKit
theorem drifts_all (a b c d a2 b2 c2 d2 : Int) (w : World) (_b1 : -9223372036854775808 ≤ a ∧ a ≤ 9223372036854775807) (_b2 : -9223372036854775808 ≤ b ∧ b ≤ 9223372036854775807) (_b3 : -9223372036854775808 ≤ c ∧ c ≤ 9223372036854775807) (_b4 : -9223372036854775808 ≤ d ∧ d ≤ 9223372036854775807)
    (_b5 : -9223372036854775808 ≤ a2 ∧ a2 ≤ 9223372036854775807) (_b6 : -9223372036854775808 ≤ b2 ∧ b2 ≤ 9223372036854775807) (_b7 : -9223372036854775808 ≤ c2 ∧ c2 ≤ 9223372036854775807) (_b8 : -9223372036854775808 ≤ d2 ∧ d2 ≤ 9223372036854775807) :
    Calls Tryz.prog 3 #[.agg #[.int .i64 a, .int .i64 b, .int .i64 c, .int .i64 d], .agg #[.int .i64 a2, .int .i64 b2, .int .i64 c2, .int .i64 d2]] w fun e w' => e = .returned (.bool true) ∧ Below w.heap.size w w' :=
  drifts_walk a b c d a2 b2 c2 d2 w (hidden wayawake_is)
end Go.Proofs.YtdhbeoahpfimbaaGreat
