/-
  No cell of these rows narrows 'for every input' (looked for: loops, veiled, ifaces, maps, wideKeys, modest, calm, conditions, laid).
  DERIVED. THE GIVEN ROWS OF THIS SEAT. 9 by the template 'for every input the law returns true; each argument reads behind the call as it read before'; 0 by the template 'total and deterministic' (their statements: YtoagcbamlnhkhaaTotals.lean).
  GIVEN WITH THE SEED: the statements are not yours to turn. If you find one false, say at which input.
  Laid BY PROGRAM, IN A SANDBOX (cutbox-rows.mjs): the forced cells as the released guide's own fill.sh prints them over the translation cda31ef4e657b279… (all of the seat's roots in one cut). By AI agents, Wed Nov 11 2026. No macro, syntax, notation, axiom, sorry.
-/
import Derived.Test.YtoagcbamlnhkhaaChecked
import GoSem.Claim
import GoSem.ClaimJoined
import GoSem.ClaimMapViews
import Derived.JoinedTies
import Derived.KernelRfl
namespace Go.Proofs.Ytoagcbamlnhkhaa
/- THE CELL 'sum', in the pinned program and in every row, IS THE sha256 OF THE DUMP (.gsa) THAT YtoagcbamlnhkhaaProg.lean LOADS. Nothing in Lean hashes anything: it is a label: what it is worth is what the hold of that sum in a sandbox is worth. -/
noncomputable def Try.pinned : Pinned := { name := "ytoagcbamlnhkhaa", sum := "cda31ef4e657b2793d455a1bc03f08928cba3e1b51879bd6bae805143cbbc0be", checked := Try.checked }
namespace Rows
def none {H : Type} : Left H := { results := [], args := [] }

/-- 'almucantarlaw06.TrigSines': WHATEVER THE INPUT: true; the input reads as it did. -/
def trigSinesSpec : ChangeSpec := { name := "trigSines", fn := fun _ => fun
  | [d] => { results := [.lit (.bool true)], args := [d] }
  | _ => none }
def trigSinesRow : OpenClaim := { program := "ytoagcbamlnhkhaa", sum := "cda31ef4e657b2793d455a1bc03f08928cba3e1b51879bd6bae805143cbbc0be", func := "almucantar/almucantarlaw06.TrigSines", spec := "trigSines", inPlace := ["math/bits.Add64", "math/bits.Sub64"], named := ["math/bits.divideError", "math/bits.overflowError"], apart := false }
def TrigSinesSaid : Prop := trigSinesRow.holds Try.pinned (OpenSpec.ofChange trigSinesSpec)

/-- ITS FALSE NEIGHBOUR: 'it returns false'. Refute it at one input. -/
def trigSinesWrong : ChangeSpec := { name := "trigSines", fn := fun _ => fun
  | [d] => { results := [.lit (.bool false)], args := [d] }
  | _ => none }
def TrigSinesWrongFalsely : Prop := trigSinesRow.holds Try.pinned (OpenSpec.ofChange trigSinesWrong)

/-- 'almucantarlaw06.TrigBelows': WHATEVER THE INPUT: true; the input reads as it did. -/
def trigBelowsSpec : ChangeSpec := { name := "trigBelows", fn := fun _ => fun
  | [d1, d2] => { results := [.lit (.bool true)], args := [d1, d2] }
  | _ => none }
def trigBelowsRow : OpenClaim := { program := "ytoagcbamlnhkhaa", sum := "cda31ef4e657b2793d455a1bc03f08928cba3e1b51879bd6bae805143cbbc0be", func := "almucantar/almucantarlaw06.TrigBelows", spec := "trigBelows", inPlace := ["math/bits.Add64", "math/bits.Sub64"], named := ["math/bits.divideError", "math/bits.overflowError"], apart := false }
def TrigBelowsSaid : Prop := trigBelowsRow.holds Try.pinned (OpenSpec.ofChange trigBelowsSpec)

/-- ITS FALSE NEIGHBOUR: 'it returns false'. Refute it at one input. -/
def trigBelowsWrong : ChangeSpec := { name := "trigBelows", fn := fun _ => fun
  | [d1, d2] => { results := [.lit (.bool false)], args := [d1, d2] }
  | _ => none }
def TrigBelowsWrongFalsely : Prop := trigBelowsRow.holds Try.pinned (OpenSpec.ofChange trigBelowsWrong)

/-- 'almucantarlaw06.TrigOrder': WHATEVER THE INPUT: true; the input reads as it did. -/
def trigOrderSpec : ChangeSpec := { name := "trigOrder", fn := fun _ => fun
  | [d1, d2] => { results := [.lit (.bool true)], args := [d1, d2] }
  | _ => none }
def trigOrderRow : OpenClaim := { program := "ytoagcbamlnhkhaa", sum := "cda31ef4e657b2793d455a1bc03f08928cba3e1b51879bd6bae805143cbbc0be", func := "almucantar/almucantarlaw06.TrigOrder", spec := "trigOrder", inPlace := ["math/bits.Add64", "math/bits.Sub64"], named := ["math/bits.divideError", "math/bits.overflowError"], apart := false }
def TrigOrderSaid : Prop := trigOrderRow.holds Try.pinned (OpenSpec.ofChange trigOrderSpec)

/-- ITS FALSE NEIGHBOUR: 'it returns false'. Refute it at one input. -/
def trigOrderWrong : ChangeSpec := { name := "trigOrder", fn := fun _ => fun
  | [d1, d2] => { results := [.lit (.bool false)], args := [d1, d2] }
  | _ => none }
def TrigOrderWrongFalsely : Prop := trigOrderRow.holds Try.pinned (OpenSpec.ofChange trigOrderWrong)

/-- 'almucantarlaw06.TrigSums': WHATEVER THE INPUT: true; the input reads as it did. -/
def trigSumsSpec : ChangeSpec := { name := "trigSums", fn := fun _ => fun
  | [d1, d2] => { results := [.lit (.bool true)], args := [d1, d2] }
  | _ => none }
def trigSumsRow : OpenClaim := { program := "ytoagcbamlnhkhaa", sum := "cda31ef4e657b2793d455a1bc03f08928cba3e1b51879bd6bae805143cbbc0be", func := "almucantar/almucantarlaw06.TrigSums", spec := "trigSums", inPlace := ["math/bits.Add64", "math/bits.Sub64"], named := ["math/bits.divideError", "math/bits.overflowError"], apart := false }
def TrigSumsSaid : Prop := trigSumsRow.holds Try.pinned (OpenSpec.ofChange trigSumsSpec)

/-- ITS FALSE NEIGHBOUR: 'it returns false'. Refute it at one input. -/
def trigSumsWrong : ChangeSpec := { name := "trigSums", fn := fun _ => fun
  | [d1, d2] => { results := [.lit (.bool false)], args := [d1, d2] }
  | _ => none }
def TrigSumsWrongFalsely : Prop := trigSumsRow.holds Try.pinned (OpenSpec.ofChange trigSumsWrong)

/-- 'almucantarlaw06.TrigThirds': WHATEVER THE INPUT: true; the input reads as it did. -/
def trigThirdsSpec : ChangeSpec := { name := "trigThirds", fn := fun _ => fun
  | [d] => { results := [.lit (.bool true)], args := [d] }
  | _ => none }
def trigThirdsRow : OpenClaim := { program := "ytoagcbamlnhkhaa", sum := "cda31ef4e657b2793d455a1bc03f08928cba3e1b51879bd6bae805143cbbc0be", func := "almucantar/almucantarlaw06.TrigThirds", spec := "trigThirds", inPlace := ["math/bits.Add64", "math/bits.Sub64"], named := ["math/bits.divideError", "math/bits.overflowError"], apart := false }
def TrigThirdsSaid : Prop := trigThirdsRow.holds Try.pinned (OpenSpec.ofChange trigThirdsSpec)

/-- ITS FALSE NEIGHBOUR: 'it returns false'. Refute it at one input. -/
def trigThirdsWrong : ChangeSpec := { name := "trigThirds", fn := fun _ => fun
  | [d] => { results := [.lit (.bool false)], args := [d] }
  | _ => none }
def TrigThirdsWrongFalsely : Prop := trigThirdsRow.holds Try.pinned (OpenSpec.ofChange trigThirdsWrong)

/-- 'almucantarlaw06.TrigHaversines': WHATEVER THE INPUT: true; the input reads as it did. -/
def trigHaversinesSpec : ChangeSpec := { name := "trigHaversines", fn := fun _ => fun
  | [d] => { results := [.lit (.bool true)], args := [d] }
  | _ => none }
def trigHaversinesRow : OpenClaim := { program := "ytoagcbamlnhkhaa", sum := "cda31ef4e657b2793d455a1bc03f08928cba3e1b51879bd6bae805143cbbc0be", func := "almucantar/almucantarlaw06.TrigHaversines", spec := "trigHaversines", inPlace := ["math/bits.Add64", "math/bits.Sub64"], named := ["math/bits.divideError", "math/bits.overflowError"], apart := false }
def TrigHaversinesSaid : Prop := trigHaversinesRow.holds Try.pinned (OpenSpec.ofChange trigHaversinesSpec)

/-- ITS FALSE NEIGHBOUR: 'it returns false'. Refute it at one input. -/
def trigHaversinesWrong : ChangeSpec := { name := "trigHaversines", fn := fun _ => fun
  | [d] => { results := [.lit (.bool false)], args := [d] }
  | _ => none }
def TrigHaversinesWrongFalsely : Prop := trigHaversinesRow.holds Try.pinned (OpenSpec.ofChange trigHaversinesWrong)

/-- 'almucantarlaw06.TrigTurns': WHATEVER THE INPUT: true; the input reads as it did. -/
def trigTurnsSpec : ChangeSpec := { name := "trigTurns", fn := fun _ => fun
  | [d1, d2] => { results := [.lit (.bool true)], args := [d1, d2] }
  | _ => none }
def trigTurnsRow : OpenClaim := { program := "ytoagcbamlnhkhaa", sum := "cda31ef4e657b2793d455a1bc03f08928cba3e1b51879bd6bae805143cbbc0be", func := "almucantar/almucantarlaw06.TrigTurns", spec := "trigTurns", inPlace := ["math/bits.Add64", "math/bits.Sub64"], unfollowed := true, recurses := true, named := ["math/bits.divideError", "math/bits.overflowError"], apart := false }
def TrigTurnsSaid : Prop := trigTurnsRow.holds Try.pinned (OpenSpec.ofChange trigTurnsSpec)

/-- ITS FALSE NEIGHBOUR: 'it returns false'. Refute it at one input. -/
def trigTurnsWrong : ChangeSpec := { name := "trigTurns", fn := fun _ => fun
  | [d1, d2] => { results := [.lit (.bool false)], args := [d1, d2] }
  | _ => none }
def TrigTurnsWrongFalsely : Prop := trigTurnsRow.holds Try.pinned (OpenSpec.ofChange trigTurnsWrong)

/-- 'almucantarlaw06.TrigParts': WHATEVER THE INPUT: true; the input reads as it did. -/
def trigPartsSpec : ChangeSpec := { name := "trigParts", fn := fun _ => fun
  | [d1, d2, d3] => { results := [.lit (.bool true)], args := [d1, d2, d3] }
  | _ => none }
def trigPartsRow : OpenClaim := { program := "ytoagcbamlnhkhaa", sum := "cda31ef4e657b2793d455a1bc03f08928cba3e1b51879bd6bae805143cbbc0be", func := "almucantar/almucantarlaw06.TrigParts", spec := "trigParts", inPlace := ["math/bits.Add64", "math/bits.Sub64"], unfollowed := true, recurses := true, named := ["math/bits.divideError", "math/bits.overflowError"], apart := false }
def TrigPartsSaid : Prop := trigPartsRow.holds Try.pinned (OpenSpec.ofChange trigPartsSpec)

/-- ITS FALSE NEIGHBOUR: 'it returns false'. Refute it at one input. -/
def trigPartsWrong : ChangeSpec := { name := "trigParts", fn := fun _ => fun
  | [d1, d2, d3] => { results := [.lit (.bool false)], args := [d1, d2, d3] }
  | _ => none }
def TrigPartsWrongFalsely : Prop := trigPartsRow.holds Try.pinned (OpenSpec.ofChange trigPartsWrong)

/-- 'almucantarlaw06.TrigSquares': WHATEVER THE INPUT: true; the input reads as it did. -/
def trigSquaresSpec : ChangeSpec := { name := "trigSquares", fn := fun _ => fun
  | [d] => { results := [.lit (.bool true)], args := [d] }
  | _ => none }
def trigSquaresRow : OpenClaim := { program := "ytoagcbamlnhkhaa", sum := "cda31ef4e657b2793d455a1bc03f08928cba3e1b51879bd6bae805143cbbc0be", func := "almucantar/almucantarlaw06.TrigSquares", spec := "trigSquares", inPlace := ["math/bits.Add64", "math/bits.Sub64"], named := ["math/bits.divideError", "math/bits.overflowError"], apart := false }
def TrigSquaresSaid : Prop := trigSquaresRow.holds Try.pinned (OpenSpec.ofChange trigSquaresSpec)

/-- ITS FALSE NEIGHBOUR: 'it returns false'. Refute it at one input. -/
def trigSquaresWrong : ChangeSpec := { name := "trigSquares", fn := fun _ => fun
  | [d] => { results := [.lit (.bool false)], args := [d] }
  | _ => none }
def TrigSquaresWrongFalsely : Prop := trigSquaresRow.holds Try.pinned (OpenSpec.ofChange trigSquaresWrong)

/- THE SECOND FORM. 'bulk': how many values and letters a reading holds, each counted each time it is reached (what is shared counts as often as it is met; a slice's spare places count too). A statement '..UptoSaid' is the law's where the arguments, and the package variables that the reading takes, are together of bulk at most 1048576: NARROWER than '..Said'. Prove '..Said' where nothing that the law and all that it calls make is longer than what came in: it says more and counts as full. Else prove '..UptoSaid'. A law counts once. -/
mutual
def uptoBulk {H : Type} : DataW H → Nat
  | .lit (.string bytes) => bytes.length + 1
  | .lit _ => 1
  | .nil => 1
  | .ptr d => uptoBulk d + 1
  | .slice elems spare => uptoBulkAll elems + uptoBulkAll spare + 1
  | .agg parts => uptoBulkAll parts + 1
  | .iface _ d => uptoBulk d + 1
  | .map entries => uptoBulkEntries entries + 1
  | .held _ => 1
def uptoBulkAll {H : Type} : List (DataW H) → Nat
  | [] => 0
  | d :: r => uptoBulk d + uptoBulkAll r
def uptoBulkEntries {H : Type} : List (Lit × DataW H) → Nat
  | [] => 0
  | x :: r => uptoBulkEntry x + uptoBulkEntries r
def uptoBulkEntry {H : Type} : Lit × DataW H → Nat
  | (.string bytes, d) => bytes.length + uptoBulk d + 1
  | (_, d) => uptoBulk d + 1
 end
def uptoSmall : (H : Type) → List (DataW H) → Bool := fun _ ds => decide (uptoBulkAll ds ≤ 1048576)
def OpenSpec.upto (s : _root_.Go.ChangeSpec) : _root_.Go.OpenSpec := { _root_.Go.OpenSpec.ofChange s with cond := some uptoSmall }

/-- 'almucantarlaw06.TrigSines', WHERE WHAT IT READS IS OF BULK AT MOST 1048576: true; the input reads as it did. -/
def trigSinesUptoRow : OpenClaim := { program := "ytoagcbamlnhkhaa", sum := "cda31ef4e657b2793d455a1bc03f08928cba3e1b51879bd6bae805143cbbc0be", func := "almucantar/almucantarlaw06.TrigSines", spec := "trigSines", inPlace := ["math/bits.Add64", "math/bits.Sub64"], named := ["math/bits.divideError", "math/bits.overflowError"], apart := false, narrowed := true }
def TrigSinesUptoSaid : Prop := trigSinesUptoRow.holds Try.pinned (OpenSpec.upto trigSinesSpec)

/-- 'almucantarlaw06.TrigBelows', WHERE WHAT IT READS IS OF BULK AT MOST 1048576: true; the input reads as it did. -/
def trigBelowsUptoRow : OpenClaim := { program := "ytoagcbamlnhkhaa", sum := "cda31ef4e657b2793d455a1bc03f08928cba3e1b51879bd6bae805143cbbc0be", func := "almucantar/almucantarlaw06.TrigBelows", spec := "trigBelows", inPlace := ["math/bits.Add64", "math/bits.Sub64"], named := ["math/bits.divideError", "math/bits.overflowError"], apart := false, narrowed := true }
def TrigBelowsUptoSaid : Prop := trigBelowsUptoRow.holds Try.pinned (OpenSpec.upto trigBelowsSpec)

/-- 'almucantarlaw06.TrigOrder', WHERE WHAT IT READS IS OF BULK AT MOST 1048576: true; the input reads as it did. -/
def trigOrderUptoRow : OpenClaim := { program := "ytoagcbamlnhkhaa", sum := "cda31ef4e657b2793d455a1bc03f08928cba3e1b51879bd6bae805143cbbc0be", func := "almucantar/almucantarlaw06.TrigOrder", spec := "trigOrder", inPlace := ["math/bits.Add64", "math/bits.Sub64"], named := ["math/bits.divideError", "math/bits.overflowError"], apart := false, narrowed := true }
def TrigOrderUptoSaid : Prop := trigOrderUptoRow.holds Try.pinned (OpenSpec.upto trigOrderSpec)

/-- 'almucantarlaw06.TrigSums', WHERE WHAT IT READS IS OF BULK AT MOST 1048576: true; the input reads as it did. -/
def trigSumsUptoRow : OpenClaim := { program := "ytoagcbamlnhkhaa", sum := "cda31ef4e657b2793d455a1bc03f08928cba3e1b51879bd6bae805143cbbc0be", func := "almucantar/almucantarlaw06.TrigSums", spec := "trigSums", inPlace := ["math/bits.Add64", "math/bits.Sub64"], named := ["math/bits.divideError", "math/bits.overflowError"], apart := false, narrowed := true }
def TrigSumsUptoSaid : Prop := trigSumsUptoRow.holds Try.pinned (OpenSpec.upto trigSumsSpec)

/-- 'almucantarlaw06.TrigThirds', WHERE WHAT IT READS IS OF BULK AT MOST 1048576: true; the input reads as it did. -/
def trigThirdsUptoRow : OpenClaim := { program := "ytoagcbamlnhkhaa", sum := "cda31ef4e657b2793d455a1bc03f08928cba3e1b51879bd6bae805143cbbc0be", func := "almucantar/almucantarlaw06.TrigThirds", spec := "trigThirds", inPlace := ["math/bits.Add64", "math/bits.Sub64"], named := ["math/bits.divideError", "math/bits.overflowError"], apart := false, narrowed := true }
def TrigThirdsUptoSaid : Prop := trigThirdsUptoRow.holds Try.pinned (OpenSpec.upto trigThirdsSpec)

/-- 'almucantarlaw06.TrigHaversines', WHERE WHAT IT READS IS OF BULK AT MOST 1048576: true; the input reads as it did. -/
def trigHaversinesUptoRow : OpenClaim := { program := "ytoagcbamlnhkhaa", sum := "cda31ef4e657b2793d455a1bc03f08928cba3e1b51879bd6bae805143cbbc0be", func := "almucantar/almucantarlaw06.TrigHaversines", spec := "trigHaversines", inPlace := ["math/bits.Add64", "math/bits.Sub64"], named := ["math/bits.divideError", "math/bits.overflowError"], apart := false, narrowed := true }
def TrigHaversinesUptoSaid : Prop := trigHaversinesUptoRow.holds Try.pinned (OpenSpec.upto trigHaversinesSpec)

/-- 'almucantarlaw06.TrigTurns', WHERE WHAT IT READS IS OF BULK AT MOST 1048576: true; the input reads as it did. -/
def trigTurnsUptoRow : OpenClaim := { program := "ytoagcbamlnhkhaa", sum := "cda31ef4e657b2793d455a1bc03f08928cba3e1b51879bd6bae805143cbbc0be", func := "almucantar/almucantarlaw06.TrigTurns", spec := "trigTurns", inPlace := ["math/bits.Add64", "math/bits.Sub64"], unfollowed := true, recurses := true, named := ["math/bits.divideError", "math/bits.overflowError"], apart := false, narrowed := true }
def TrigTurnsUptoSaid : Prop := trigTurnsUptoRow.holds Try.pinned (OpenSpec.upto trigTurnsSpec)

/-- 'almucantarlaw06.TrigParts', WHERE WHAT IT READS IS OF BULK AT MOST 1048576: true; the input reads as it did. -/
def trigPartsUptoRow : OpenClaim := { program := "ytoagcbamlnhkhaa", sum := "cda31ef4e657b2793d455a1bc03f08928cba3e1b51879bd6bae805143cbbc0be", func := "almucantar/almucantarlaw06.TrigParts", spec := "trigParts", inPlace := ["math/bits.Add64", "math/bits.Sub64"], unfollowed := true, recurses := true, named := ["math/bits.divideError", "math/bits.overflowError"], apart := false, narrowed := true }
def TrigPartsUptoSaid : Prop := trigPartsUptoRow.holds Try.pinned (OpenSpec.upto trigPartsSpec)

/-- 'almucantarlaw06.TrigSquares', WHERE WHAT IT READS IS OF BULK AT MOST 1048576: true; the input reads as it did. -/
def trigSquaresUptoRow : OpenClaim := { program := "ytoagcbamlnhkhaa", sum := "cda31ef4e657b2793d455a1bc03f08928cba3e1b51879bd6bae805143cbbc0be", func := "almucantar/almucantarlaw06.TrigSquares", spec := "trigSquares", inPlace := ["math/bits.Add64", "math/bits.Sub64"], named := ["math/bits.divideError", "math/bits.overflowError"], apart := false, narrowed := true }
def TrigSquaresUptoSaid : Prop := trigSquaresUptoRow.holds Try.pinned (OpenSpec.upto trigSquaresSpec)

end Rows
end Go.Proofs.Ytoagcbamlnhkhaa
