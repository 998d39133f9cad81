/-
  No cell of these rows narrows 'for every input' (looked for: loops, veiled, ifaces, maps, wideKeys, modest, calm, conditions, laid).
  DERIVED. THE GIVEN ROWS OF THIS SEAT. 3 by the template 'for every input the law returns true; each argument reads behind the call as it read before'; 0 by the template 'total and deterministic' (their statements: YtjceofmhodcefaaTotals.lean).
  GIVEN WITH THE SEED: the statements are not yours to turn. If you find one false, say at which input.
  Laid BY PROGRAM, IN A SANDBOX (cutbox-rows.mjs): the forced cells as the released guide's own fill.sh prints them over the translation 5335e4e5c47db973… (all of the seat's roots in one cut). By AI agents, Wed Nov 11 2026. No macro, syntax, notation, axiom, sorry.
-/
import Derived.Test.YtjceofmhodcefaaChecked
import GoSem.Claim
import GoSem.ClaimJoined
import GoSem.ClaimMapViews
import Derived.JoinedTies
import Derived.KernelRfl
namespace Go.Proofs.Ytjceofmhodcefaa
/- THE CELL 'sum', in the pinned program and in every row, IS THE sha256 OF THE DUMP (.gsa) THAT YtjceofmhodcefaaProg.lean LOADS. Nothing in Lean hashes anything: it is a label: what it is worth is what the hold of that sum in a sandbox is worth. -/
noncomputable def Try.pinned : Pinned := { name := "ytjceofmhodcefaa", sum := "5335e4e5c47db973d1bd1e6402978f28193410bee703ec96ad320157a63332ef", checked := Try.checked }
namespace Rows
def none {H : Type} : Left H := { results := [], args := [] }

/-- 'almucantarlaw37.LinesAdvance': WHATEVER THE INPUT: true; the input reads as it did. -/
def linesAdvanceSpec : ChangeSpec := { name := "linesAdvance", fn := fun _ => fun
  | [d1, d2] => { results := [.lit (.bool true)], args := [d1, d2] }
  | _ => none }
def linesAdvanceRow : OpenClaim := { program := "ytjceofmhodcefaa", sum := "5335e4e5c47db973d1bd1e6402978f28193410bee703ec96ad320157a63332ef", func := "almucantar/almucantarlaw37.LinesAdvance", spec := "linesAdvance", inPlace := ["math/bits.Add64", "math/bits.Sub64"], named := ["math/bits.divideError", "math/bits.overflowError"], apart := false }
def LinesAdvanceSaid : Prop := linesAdvanceRow.holds Try.pinned (OpenSpec.ofChange linesAdvanceSpec)

/-- ITS FALSE NEIGHBOUR: 'it returns false'. Refute it at one input. -/
def linesAdvanceWrong : ChangeSpec := { name := "linesAdvance", fn := fun _ => fun
  | [d1, d2] => { results := [.lit (.bool false)], args := [d1, d2] }
  | _ => none }
def LinesAdvanceWrongFalsely : Prop := linesAdvanceRow.holds Try.pinned (OpenSpec.ofChange linesAdvanceWrong)

/-- 'almucantarlaw37.LinesSquare': WHATEVER THE INPUT: true; the input reads as it did. -/
def linesSquareSpec : ChangeSpec := { name := "linesSquare", fn := fun _ => fun
  | [d1, d2, d3, d4] => { results := [.lit (.bool true)], args := [d1, d2, d3, d4] }
  | _ => none }
def linesSquareRow : OpenClaim := { program := "ytjceofmhodcefaa", sum := "5335e4e5c47db973d1bd1e6402978f28193410bee703ec96ad320157a63332ef", func := "almucantar/almucantarlaw37.LinesSquare", spec := "linesSquare", inPlace := ["math/bits.Add64", "math/bits.Sub64"], unfollowed := true, recurses := true, named := ["math/bits.divideError", "math/bits.overflowError"], apart := false }
def LinesSquareSaid : Prop := linesSquareRow.holds Try.pinned (OpenSpec.ofChange linesSquareSpec)

/-- ITS FALSE NEIGHBOUR: 'it returns false'. Refute it at one input. -/
def linesSquareWrong : ChangeSpec := { name := "linesSquare", fn := fun _ => fun
  | [d1, d2, d3, d4] => { results := [.lit (.bool false)], args := [d1, d2, d3, d4] }
  | _ => none }
def LinesSquareWrongFalsely : Prop := linesSquareRow.holds Try.pinned (OpenSpec.ofChange linesSquareWrong)

/-- 'almucantarlaw37.LinesForms': WHATEVER THE INPUT: true; the input reads as it did. -/
def linesFormsSpec : ChangeSpec := { name := "linesForms", fn := fun _ => fun
  | [d1, d2, d3, d4] => { results := [.lit (.bool true)], args := [d1, d2, d3, d4] }
  | _ => none }
def linesFormsRow : OpenClaim := { program := "ytjceofmhodcefaa", sum := "5335e4e5c47db973d1bd1e6402978f28193410bee703ec96ad320157a63332ef", func := "almucantar/almucantarlaw37.LinesForms", spec := "linesForms", inPlace := ["math/bits.Add64", "math/bits.Sub64"], named := ["math/bits.divideError", "math/bits.overflowError"], apart := false }
def LinesFormsSaid : Prop := linesFormsRow.holds Try.pinned (OpenSpec.ofChange linesFormsSpec)

/-- ITS FALSE NEIGHBOUR: 'it returns false'. Refute it at one input. -/
def linesFormsWrong : ChangeSpec := { name := "linesForms", fn := fun _ => fun
  | [d1, d2, d3, d4] => { results := [.lit (.bool false)], args := [d1, d2, d3, d4] }
  | _ => none }
def LinesFormsWrongFalsely : Prop := linesFormsRow.holds Try.pinned (OpenSpec.ofChange linesFormsWrong)

/- THE SECOND FORM. 'bulk': how many values and letters a reading holds, each counted each time it is reached (what is shared counts as often as it is met; a slice's spare places count too). A statement '..UptoSaid' is the law's where the arguments, and the package variables that the reading takes, are together of bulk at most 1048576: NARROWER than '..Said'. Prove '..Said' where nothing that the law and all that it calls make is longer than what came in: it says more and counts as full. Else prove '..UptoSaid'. A law counts once. -/
mutual
def uptoBulk {H : Type} : DataW H → Nat
  | .lit (.string bytes) => bytes.length + 1
  | .lit _ => 1
  | .nil => 1
  | .ptr d => uptoBulk d + 1
  | .slice elems spare => uptoBulkAll elems + uptoBulkAll spare + 1
  | .agg parts => uptoBulkAll parts + 1
  | .iface _ d => uptoBulk d + 1
  | .map entries => uptoBulkEntries entries + 1
  | .held _ => 1
def uptoBulkAll {H : Type} : List (DataW H) → Nat
  | [] => 0
  | d :: r => uptoBulk d + uptoBulkAll r
def uptoBulkEntries {H : Type} : List (Lit × DataW H) → Nat
  | [] => 0
  | x :: r => uptoBulkEntry x + uptoBulkEntries r
def uptoBulkEntry {H : Type} : Lit × DataW H → Nat
  | (.string bytes, d) => bytes.length + uptoBulk d + 1
  | (_, d) => uptoBulk d + 1
 end
def uptoSmall : (H : Type) → List (DataW H) → Bool := fun _ ds => decide (uptoBulkAll ds ≤ 1048576)
def OpenSpec.upto (s : _root_.Go.ChangeSpec) : _root_.Go.OpenSpec := { _root_.Go.OpenSpec.ofChange s with cond := some uptoSmall }

/-- 'almucantarlaw37.LinesAdvance', WHERE WHAT IT READS IS OF BULK AT MOST 1048576: true; the input reads as it did. -/
def linesAdvanceUptoRow : OpenClaim := { program := "ytjceofmhodcefaa", sum := "5335e4e5c47db973d1bd1e6402978f28193410bee703ec96ad320157a63332ef", func := "almucantar/almucantarlaw37.LinesAdvance", spec := "linesAdvance", inPlace := ["math/bits.Add64", "math/bits.Sub64"], named := ["math/bits.divideError", "math/bits.overflowError"], apart := false, narrowed := true }
def LinesAdvanceUptoSaid : Prop := linesAdvanceUptoRow.holds Try.pinned (OpenSpec.upto linesAdvanceSpec)

/-- 'almucantarlaw37.LinesSquare', WHERE WHAT IT READS IS OF BULK AT MOST 1048576: true; the input reads as it did. -/
def linesSquareUptoRow : OpenClaim := { program := "ytjceofmhodcefaa", sum := "5335e4e5c47db973d1bd1e6402978f28193410bee703ec96ad320157a63332ef", func := "almucantar/almucantarlaw37.LinesSquare", spec := "linesSquare", inPlace := ["math/bits.Add64", "math/bits.Sub64"], unfollowed := true, recurses := true, named := ["math/bits.divideError", "math/bits.overflowError"], apart := false, narrowed := true }
def LinesSquareUptoSaid : Prop := linesSquareUptoRow.holds Try.pinned (OpenSpec.upto linesSquareSpec)

/-- 'almucantarlaw37.LinesForms', WHERE WHAT IT READS IS OF BULK AT MOST 1048576: true; the input reads as it did. -/
def linesFormsUptoRow : OpenClaim := { program := "ytjceofmhodcefaa", sum := "5335e4e5c47db973d1bd1e6402978f28193410bee703ec96ad320157a63332ef", func := "almucantar/almucantarlaw37.LinesForms", spec := "linesForms", inPlace := ["math/bits.Add64", "math/bits.Sub64"], named := ["math/bits.divideError", "math/bits.overflowError"], apart := false, narrowed := true }
def LinesFormsUptoSaid : Prop := linesFormsUptoRow.holds Try.pinned (OpenSpec.upto linesFormsSpec)

end Rows
end Go.Proofs.Ytjceofmhodcefaa
