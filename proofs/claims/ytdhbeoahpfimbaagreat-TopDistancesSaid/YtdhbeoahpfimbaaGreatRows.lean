/-
  No cell of these rows narrows 'for every input' (looked for: loops, veiled, ifaces, maps, wideKeys, modest, calm, conditions, laid).
  DERIVED. THE GIVEN ROWS OF THIS SEAT. 3 by the template 'for every input the law returns true; each argument reads behind the call as it read before'; 0 by the template 'total and deterministic' (their statements: YtdhbeoahpfimbaaGreatTotals.lean).
  GIVEN WITH THE SEED: the statements are not yours to turn. If you find one false, say at which input.
  Laid BY PROGRAM, IN A SANDBOX (cutbox-rows.mjs): the forced cells as the released guide's own fill.sh prints them over the translation b217c0c61c169315… (all of the seat's roots in one cut). By AI agents, Wed Nov 11 2026. No macro, syntax, notation, axiom, sorry.
-/
import Derived.Test.YtdhbeoahpfimbaaGreatChecked
import GoSem.Claim
import GoSem.ClaimJoined
import GoSem.ClaimMapViews
import Derived.JoinedTies
import Derived.KernelRfl
namespace Go.Proofs.YtdhbeoahpfimbaaGreat
/- THE CELL 'sum', in the pinned program and in every row, IS THE sha256 OF THE DUMP (.gsa) THAT YtdhbeoahpfimbaaGreatProg.lean LOADS. Nothing in Lean hashes anything: it is a label: what it is worth is what the hold of that sum in a sandbox is worth. -/
noncomputable def Tryz.pinned : Pinned := { name := "ytdhbeoahpfimbaagreat", sum := "b217c0c61c1693155da2a432026ffe89fedcc9a66879b9307ca6d2ca70b464b6", checked := Tryz.checked }
namespace Rows
def none {H : Type} : Left H := { results := [], args := [] }

/-- 'almucantartop.TopDrifts': WHATEVER THE INPUT: true; the input reads as it did. -/
def topDriftsSpec : ChangeSpec := { name := "topDrifts", fn := fun _ => fun
  | [d1, d2] => { results := [.lit (.bool true)], args := [d1, d2] }
  | _ => none }
def topDriftsRow : OpenClaim := { program := "ytdhbeoahpfimbaagreat", sum := "b217c0c61c1693155da2a432026ffe89fedcc9a66879b9307ca6d2ca70b464b6", func := "almucantar/almucantartop.TopDrifts", spec := "topDrifts", inPlace := ["math/bits.Add64", "math/bits.Sub64"], unfollowed := true, recurses := true, named := ["math/bits.divideError", "math/bits.overflowError"], apart := false }
def TopDriftsSaid : Prop := topDriftsRow.holds Tryz.pinned (OpenSpec.ofChange topDriftsSpec)

/-- ITS FALSE NEIGHBOUR: 'it returns false'. Refute it at one input. -/
def topDriftsWrong : ChangeSpec := { name := "topDrifts", fn := fun _ => fun
  | [d1, d2] => { results := [.lit (.bool false)], args := [d1, d2] }
  | _ => none }
def TopDriftsWrongFalsely : Prop := topDriftsRow.holds Tryz.pinned (OpenSpec.ofChange topDriftsWrong)

/-- 'almucantartop.TopDistances': WHATEVER THE INPUT: true; the input reads as it did. -/
def topDistancesSpec : ChangeSpec := { name := "topDistances", fn := fun _ => fun
  | [d1, d2] => { results := [.lit (.bool true)], args := [d1, d2] }
  | _ => none }
def topDistancesRow : OpenClaim := { program := "ytdhbeoahpfimbaagreat", sum := "b217c0c61c1693155da2a432026ffe89fedcc9a66879b9307ca6d2ca70b464b6", func := "almucantar/almucantartop.TopDistances", spec := "topDistances", inPlace := ["math/bits.Add64", "math/bits.Sub64"], unfollowed := true, recurses := true, named := ["math/bits.divideError", "math/bits.overflowError"], apart := false }
def TopDistancesSaid : Prop := topDistancesRow.holds Tryz.pinned (OpenSpec.ofChange topDistancesSpec)

/-- ITS FALSE NEIGHBOUR: 'it returns false'. Refute it at one input. -/
def topDistancesWrong : ChangeSpec := { name := "topDistances", fn := fun _ => fun
  | [d1, d2] => { results := [.lit (.bool false)], args := [d1, d2] }
  | _ => none }
def TopDistancesWrongFalsely : Prop := topDistancesRow.holds Tryz.pinned (OpenSpec.ofChange topDistancesWrong)

/-- 'almucantartop.TopTransits': WHATEVER THE INPUT: true; the input reads as it did. -/
def topTransitsSpec : ChangeSpec := { name := "topTransits", fn := fun _ => fun
  | [d1, d2, d3, d4] => { results := [.lit (.bool true)], args := [d1, d2, d3, d4] }
  | _ => none }
def topTransitsRow : OpenClaim := { program := "ytdhbeoahpfimbaagreat", sum := "b217c0c61c1693155da2a432026ffe89fedcc9a66879b9307ca6d2ca70b464b6", func := "almucantar/almucantartop.TopTransits", spec := "topTransits", inPlace := ["math/bits.Add64", "math/bits.Sub64"], unfollowed := true, recurses := true, named := ["math/bits.divideError", "math/bits.overflowError"], apart := false }
def TopTransitsSaid : Prop := topTransitsRow.holds Tryz.pinned (OpenSpec.ofChange topTransitsSpec)

/-- ITS FALSE NEIGHBOUR: 'it returns false'. Refute it at one input. -/
def topTransitsWrong : ChangeSpec := { name := "topTransits", fn := fun _ => fun
  | [d1, d2, d3, d4] => { results := [.lit (.bool false)], args := [d1, d2, d3, d4] }
  | _ => none }
def TopTransitsWrongFalsely : Prop := topTransitsRow.holds Tryz.pinned (OpenSpec.ofChange topTransitsWrong)

/- THE SECOND FORM. 'bulk': how many values and letters a reading holds, each counted each time it is reached (what is shared counts as often as it is met; a slice's spare places count too). A statement '..UptoSaid' is the law's where the arguments, and the package variables that the reading takes, are together of bulk at most 1048576: NARROWER than '..Said'. Prove '..Said' where nothing that the law and all that it calls make is longer than what came in: it says more and counts as full. Else prove '..UptoSaid'. A law counts once. -/
mutual
def uptoBulk {H : Type} : DataW H → Nat
  | .lit (.string bytes) => bytes.length + 1
  | .lit _ => 1
  | .nil => 1
  | .ptr d => uptoBulk d + 1
  | .slice elems spare => uptoBulkAll elems + uptoBulkAll spare + 1
  | .agg parts => uptoBulkAll parts + 1
  | .iface _ d => uptoBulk d + 1
  | .map entries => uptoBulkEntries entries + 1
  | .held _ => 1
def uptoBulkAll {H : Type} : List (DataW H) → Nat
  | [] => 0
  | d :: r => uptoBulk d + uptoBulkAll r
def uptoBulkEntries {H : Type} : List (Lit × DataW H) → Nat
  | [] => 0
  | x :: r => uptoBulkEntry x + uptoBulkEntries r
def uptoBulkEntry {H : Type} : Lit × DataW H → Nat
  | (.string bytes, d) => bytes.length + uptoBulk d + 1
  | (_, d) => uptoBulk d + 1
 end
def uptoSmall : (H : Type) → List (DataW H) → Bool := fun _ ds => decide (uptoBulkAll ds ≤ 1048576)
def OpenSpec.upto (s : _root_.Go.ChangeSpec) : _root_.Go.OpenSpec := { _root_.Go.OpenSpec.ofChange s with cond := some uptoSmall }

/-- 'almucantartop.TopDrifts', WHERE WHAT IT READS IS OF BULK AT MOST 1048576: true; the input reads as it did. -/
def topDriftsUptoRow : OpenClaim := { program := "ytdhbeoahpfimbaagreat", sum := "b217c0c61c1693155da2a432026ffe89fedcc9a66879b9307ca6d2ca70b464b6", func := "almucantar/almucantartop.TopDrifts", spec := "topDrifts", inPlace := ["math/bits.Add64", "math/bits.Sub64"], unfollowed := true, recurses := true, named := ["math/bits.divideError", "math/bits.overflowError"], apart := false, narrowed := true }
def TopDriftsUptoSaid : Prop := topDriftsUptoRow.holds Tryz.pinned (OpenSpec.upto topDriftsSpec)

/-- 'almucantartop.TopDistances', WHERE WHAT IT READS IS OF BULK AT MOST 1048576: true; the input reads as it did. -/
def topDistancesUptoRow : OpenClaim := { program := "ytdhbeoahpfimbaagreat", sum := "b217c0c61c1693155da2a432026ffe89fedcc9a66879b9307ca6d2ca70b464b6", func := "almucantar/almucantartop.TopDistances", spec := "topDistances", inPlace := ["math/bits.Add64", "math/bits.Sub64"], unfollowed := true, recurses := true, named := ["math/bits.divideError", "math/bits.overflowError"], apart := false, narrowed := true }
def TopDistancesUptoSaid : Prop := topDistancesUptoRow.holds Tryz.pinned (OpenSpec.upto topDistancesSpec)

/-- 'almucantartop.TopTransits', WHERE WHAT IT READS IS OF BULK AT MOST 1048576: true; the input reads as it did. -/
def topTransitsUptoRow : OpenClaim := { program := "ytdhbeoahpfimbaagreat", sum := "b217c0c61c1693155da2a432026ffe89fedcc9a66879b9307ca6d2ca70b464b6", func := "almucantar/almucantartop.TopTransits", spec := "topTransits", inPlace := ["math/bits.Add64", "math/bits.Sub64"], unfollowed := true, recurses := true, named := ["math/bits.divideError", "math/bits.overflowError"], apart := false, narrowed := true }
def TopTransitsUptoSaid : Prop := topTransitsUptoRow.holds Tryz.pinned (OpenSpec.upto topTransitsSpec)

end Rows
end Go.Proofs.YtdhbeoahpfimbaaGreat
