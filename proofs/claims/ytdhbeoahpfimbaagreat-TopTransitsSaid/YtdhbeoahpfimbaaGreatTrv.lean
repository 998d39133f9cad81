/- The sums of two legs, as a contract by their numbers. -/
import Derived.Test.YtdhbeoahpfimbaaGreatMd
import Derived.Test.YtdhbeoahpfimbaaGreatAg
namespace Go.Proofs.YtdhbeoahpfimbaaGreat
open Go.RowKit
theorem set_same {w : World} {B o : Nat} (x : Value) {x0 : Value} (h0 : w.cell? ⟨B, o, none⟩ = some x0) : (w.setCell ⟨B, o, none⟩ x).cell? ⟨B, o, none⟩ = some x := by simp [go_sem, *]
end Go.Proofs.YtdhbeoahpfimbaaGreat
