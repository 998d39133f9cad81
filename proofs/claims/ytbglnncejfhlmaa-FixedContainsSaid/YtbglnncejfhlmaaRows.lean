/-
  No cell of these rows narrows 'for every input' (looked for: loops, veiled, ifaces, maps, wideKeys, modest, calm, conditions, laid).
  DERIVED. THE GIVEN ROWS OF THIS SEAT. 8 by the template 'for every input the law returns true; each argument reads behind the call as it read before'; 0 by the template 'total and deterministic' (their statements: YtbglnncejfhlmaaTotals.lean).
  GIVEN WITH THE SEED: the statements are not yours to turn. If you find one false, say at which input.
  Laid BY PROGRAM, IN A SANDBOX (cutbox-rows.mjs): the forced cells as the released guide's own fill.sh prints them over the translation 78fc5ccb20646eef… (all of the seat's roots in one cut). By AI agents, Wed Nov 11 2026. No macro, syntax, notation, axiom, sorry.
-/
import Derived.Test.YtbglnncejfhlmaaChecked
import GoSem.Claim
import GoSem.ClaimJoined
import GoSem.ClaimMapViews
import Derived.JoinedTies
import Derived.KernelRfl
namespace Go.Proofs.Ytbglnncejfhlmaa
/- THE CELL 'sum', in the pinned program and in every row, IS THE sha256 OF THE DUMP (.gsa) THAT YtbglnncejfhlmaaProg.lean LOADS. Nothing in Lean hashes anything: it is a label: what it is worth is what the hold of that sum in a sandbox is worth. -/
noncomputable def Try.pinned : Pinned := { name := "ytbglnncejfhlmaa", sum := "78fc5ccb20646eef32697a11a3961d8ced5c0aa7c50bb6c314d0ba82c4ad0fcd", checked := Try.checked }
namespace Rows
def none {H : Type} : Left H := { results := [], args := [] }

/-- 'almucantarlaw04.FixedProducts': WHATEVER THE INPUT: true; the input reads as it did. -/
def fixedProductsSpec : ChangeSpec := { name := "fixedProducts", fn := fun _ => fun
  | [d1, d2] => { results := [.lit (.bool true)], args := [d1, d2] }
  | _ => none }
def fixedProductsRow : OpenClaim := { program := "ytbglnncejfhlmaa", sum := "78fc5ccb20646eef32697a11a3961d8ced5c0aa7c50bb6c314d0ba82c4ad0fcd", func := "almucantar/almucantarlaw04.FixedProducts", spec := "fixedProducts", named := ["math/bits.divideError", "math/bits.overflowError"], apart := false }
def FixedProductsSaid : Prop := fixedProductsRow.holds Try.pinned (OpenSpec.ofChange fixedProductsSpec)

/-- ITS FALSE NEIGHBOUR: 'it returns false'. Refute it at one input. -/
def fixedProductsWrong : ChangeSpec := { name := "fixedProducts", fn := fun _ => fun
  | [d1, d2] => { results := [.lit (.bool false)], args := [d1, d2] }
  | _ => none }
def FixedProductsWrongFalsely : Prop := fixedProductsRow.holds Try.pinned (OpenSpec.ofChange fixedProductsWrong)

/-- 'almucantarlaw04.FixedMakes': WHATEVER THE INPUT: true; the input reads as it did. -/
def fixedMakesSpec : ChangeSpec := { name := "fixedMakes", fn := fun _ => fun
  | [d1, d2, d3, d4] => { results := [.lit (.bool true)], args := [d1, d2, d3, d4] }
  | _ => none }
def fixedMakesRow : OpenClaim := { program := "ytbglnncejfhlmaa", sum := "78fc5ccb20646eef32697a11a3961d8ced5c0aa7c50bb6c314d0ba82c4ad0fcd", func := "almucantar/almucantarlaw04.FixedMakes", spec := "fixedMakes", named := ["math/bits.divideError", "math/bits.overflowError"], apart := false }
def FixedMakesSaid : Prop := fixedMakesRow.holds Try.pinned (OpenSpec.ofChange fixedMakesSpec)

/-- ITS FALSE NEIGHBOUR: 'it returns false'. Refute it at one input. -/
def fixedMakesWrong : ChangeSpec := { name := "fixedMakes", fn := fun _ => fun
  | [d1, d2, d3, d4] => { results := [.lit (.bool false)], args := [d1, d2, d3, d4] }
  | _ => none }
def FixedMakesWrongFalsely : Prop := fixedMakesRow.holds Try.pinned (OpenSpec.ofChange fixedMakesWrong)

/-- 'almucantarlaw04.FixedMeets': WHATEVER THE INPUT: true; the input reads as it did. -/
def fixedMeetsSpec : ChangeSpec := { name := "fixedMeets", fn := fun _ => fun
  | [d1, d2, d3] => { results := [.lit (.bool true)], args := [d1, d2, d3] }
  | _ => none }
def fixedMeetsRow : OpenClaim := { program := "ytbglnncejfhlmaa", sum := "78fc5ccb20646eef32697a11a3961d8ced5c0aa7c50bb6c314d0ba82c4ad0fcd", func := "almucantar/almucantarlaw04.FixedMeets", spec := "fixedMeets", named := ["math/bits.divideError", "math/bits.overflowError"], apart := false }
def FixedMeetsSaid : Prop := fixedMeetsRow.holds Try.pinned (OpenSpec.ofChange fixedMeetsSpec)

/-- ITS FALSE NEIGHBOUR: 'it returns false'. Refute it at one input. -/
def fixedMeetsWrong : ChangeSpec := { name := "fixedMeets", fn := fun _ => fun
  | [d1, d2, d3] => { results := [.lit (.bool false)], args := [d1, d2, d3] }
  | _ => none }
def FixedMeetsWrongFalsely : Prop := fixedMeetsRow.holds Try.pinned (OpenSpec.ofChange fixedMeetsWrong)

/-- 'almucantarlaw04.FixedSums': WHATEVER THE INPUT: true; the input reads as it did. -/
def fixedSumsSpec : ChangeSpec := { name := "fixedSums", fn := fun _ => fun
  | [d1, d2] => { results := [.lit (.bool true)], args := [d1, d2] }
  | _ => none }
def fixedSumsRow : OpenClaim := { program := "ytbglnncejfhlmaa", sum := "78fc5ccb20646eef32697a11a3961d8ced5c0aa7c50bb6c314d0ba82c4ad0fcd", func := "almucantar/almucantarlaw04.FixedSums", spec := "fixedSums", named := ["math/bits.divideError", "math/bits.overflowError"], apart := false }
def FixedSumsSaid : Prop := fixedSumsRow.holds Try.pinned (OpenSpec.ofChange fixedSumsSpec)

/-- ITS FALSE NEIGHBOUR: 'it returns false'. Refute it at one input. -/
def fixedSumsWrong : ChangeSpec := { name := "fixedSums", fn := fun _ => fun
  | [d1, d2] => { results := [.lit (.bool false)], args := [d1, d2] }
  | _ => none }
def FixedSumsWrongFalsely : Prop := fixedSumsRow.holds Try.pinned (OpenSpec.ofChange fixedSumsWrong)

/-- 'almucantarlaw04.FixedRoots': WHATEVER THE INPUT: true; the input reads as it did. -/
def fixedRootsSpec : ChangeSpec := { name := "fixedRoots", fn := fun _ => fun
  | [d] => { results := [.lit (.bool true)], args := [d] }
  | _ => none }
def fixedRootsRow : OpenClaim := { program := "ytbglnncejfhlmaa", sum := "78fc5ccb20646eef32697a11a3961d8ced5c0aa7c50bb6c314d0ba82c4ad0fcd", func := "almucantar/almucantarlaw04.FixedRoots", spec := "fixedRoots", named := ["math/bits.divideError", "math/bits.overflowError"], apart := false }
def FixedRootsSaid : Prop := fixedRootsRow.holds Try.pinned (OpenSpec.ofChange fixedRootsSpec)

/-- ITS FALSE NEIGHBOUR: 'it returns false'. Refute it at one input. -/
def fixedRootsWrong : ChangeSpec := { name := "fixedRoots", fn := fun _ => fun
  | [d] => { results := [.lit (.bool false)], args := [d] }
  | _ => none }
def FixedRootsWrongFalsely : Prop := fixedRootsRow.holds Try.pinned (OpenSpec.ofChange fixedRootsWrong)

/-- 'almucantarlaw04.FixedUndone': WHATEVER THE INPUT: true; the input reads as it did. -/
def fixedUndoneSpec : ChangeSpec := { name := "fixedUndone", fn := fun _ => fun
  | [d1, d2] => { results := [.lit (.bool true)], args := [d1, d2] }
  | _ => none }
def fixedUndoneRow : OpenClaim := { program := "ytbglnncejfhlmaa", sum := "78fc5ccb20646eef32697a11a3961d8ced5c0aa7c50bb6c314d0ba82c4ad0fcd", func := "almucantar/almucantarlaw04.FixedUndone", spec := "fixedUndone", named := ["math/bits.divideError", "math/bits.overflowError"], apart := false }
def FixedUndoneSaid : Prop := fixedUndoneRow.holds Try.pinned (OpenSpec.ofChange fixedUndoneSpec)

/-- ITS FALSE NEIGHBOUR: 'it returns false'. Refute it at one input. -/
def fixedUndoneWrong : ChangeSpec := { name := "fixedUndone", fn := fun _ => fun
  | [d1, d2] => { results := [.lit (.bool false)], args := [d1, d2] }
  | _ => none }
def FixedUndoneWrongFalsely : Prop := fixedUndoneRow.holds Try.pinned (OpenSpec.ofChange fixedUndoneWrong)

/-- 'almucantarlaw04.FixedScales': WHATEVER THE INPUT: true; the input reads as it did. -/
def fixedScalesSpec : ChangeSpec := { name := "fixedScales", fn := fun _ => fun
  | [d1, d2, d3] => { results := [.lit (.bool true)], args := [d1, d2, d3] }
  | _ => none }
def fixedScalesRow : OpenClaim := { program := "ytbglnncejfhlmaa", sum := "78fc5ccb20646eef32697a11a3961d8ced5c0aa7c50bb6c314d0ba82c4ad0fcd", func := "almucantar/almucantarlaw04.FixedScales", spec := "fixedScales", named := ["math/bits.divideError", "math/bits.overflowError"], apart := false }
def FixedScalesSaid : Prop := fixedScalesRow.holds Try.pinned (OpenSpec.ofChange fixedScalesSpec)

/-- ITS FALSE NEIGHBOUR: 'it returns false'. Refute it at one input. -/
def fixedScalesWrong : ChangeSpec := { name := "fixedScales", fn := fun _ => fun
  | [d1, d2, d3] => { results := [.lit (.bool false)], args := [d1, d2, d3] }
  | _ => none }
def FixedScalesWrongFalsely : Prop := fixedScalesRow.holds Try.pinned (OpenSpec.ofChange fixedScalesWrong)

/-- 'almucantarlaw04.FixedContains': WHATEVER THE INPUT: true; the input reads as it did. -/
def fixedContainsSpec : ChangeSpec := { name := "fixedContains", fn := fun _ => fun
  | [d1, d2, d3, d4, d5] => { results := [.lit (.bool true)], args := [d1, d2, d3, d4, d5] }
  | _ => none }
def fixedContainsRow : OpenClaim := { program := "ytbglnncejfhlmaa", sum := "78fc5ccb20646eef32697a11a3961d8ced5c0aa7c50bb6c314d0ba82c4ad0fcd", func := "almucantar/almucantarlaw04.FixedContains", spec := "fixedContains", unfollowed := true, recurses := true, named := ["math/bits.divideError", "math/bits.overflowError"], apart := false }
def FixedContainsSaid : Prop := fixedContainsRow.holds Try.pinned (OpenSpec.ofChange fixedContainsSpec)

/-- ITS FALSE NEIGHBOUR: 'it returns false'. Refute it at one input. -/
def fixedContainsWrong : ChangeSpec := { name := "fixedContains", fn := fun _ => fun
  | [d1, d2, d3, d4, d5] => { results := [.lit (.bool false)], args := [d1, d2, d3, d4, d5] }
  | _ => none }
def FixedContainsWrongFalsely : Prop := fixedContainsRow.holds Try.pinned (OpenSpec.ofChange fixedContainsWrong)

/- THE SECOND FORM. 'bulk': how many values and letters a reading holds, each counted each time it is reached (what is shared counts as often as it is met; a slice's spare places count too). A statement '..UptoSaid' is the law's where the arguments, and the package variables that the reading takes, are together of bulk at most 1048576: NARROWER than '..Said'. Prove '..Said' where nothing that the law and all that it calls make is longer than what came in: it says more and counts as full. Else prove '..UptoSaid'. A law counts once. -/
mutual
def uptoBulk {H : Type} : DataW H → Nat
  | .lit (.string bytes) => bytes.length + 1
  | .lit _ => 1
  | .nil => 1
  | .ptr d => uptoBulk d + 1
  | .slice elems spare => uptoBulkAll elems + uptoBulkAll spare + 1
  | .agg parts => uptoBulkAll parts + 1
  | .iface _ d => uptoBulk d + 1
  | .map entries => uptoBulkEntries entries + 1
  | .held _ => 1
def uptoBulkAll {H : Type} : List (DataW H) → Nat
  | [] => 0
  | d :: r => uptoBulk d + uptoBulkAll r
def uptoBulkEntries {H : Type} : List (Lit × DataW H) → Nat
  | [] => 0
  | x :: r => uptoBulkEntry x + uptoBulkEntries r
def uptoBulkEntry {H : Type} : Lit × DataW H → Nat
  | (.string bytes, d) => bytes.length + uptoBulk d + 1
  | (_, d) => uptoBulk d + 1
 end
def uptoSmall : (H : Type) → List (DataW H) → Bool := fun _ ds => decide (uptoBulkAll ds ≤ 1048576)
def OpenSpec.upto (s : _root_.Go.ChangeSpec) : _root_.Go.OpenSpec := { _root_.Go.OpenSpec.ofChange s with cond := some uptoSmall }

/-- 'almucantarlaw04.FixedProducts', WHERE WHAT IT READS IS OF BULK AT MOST 1048576: true; the input reads as it did. -/
def fixedProductsUptoRow : OpenClaim := { program := "ytbglnncejfhlmaa", sum := "78fc5ccb20646eef32697a11a3961d8ced5c0aa7c50bb6c314d0ba82c4ad0fcd", func := "almucantar/almucantarlaw04.FixedProducts", spec := "fixedProducts", named := ["math/bits.divideError", "math/bits.overflowError"], apart := false, narrowed := true }
def FixedProductsUptoSaid : Prop := fixedProductsUptoRow.holds Try.pinned (OpenSpec.upto fixedProductsSpec)

/-- 'almucantarlaw04.FixedMakes', WHERE WHAT IT READS IS OF BULK AT MOST 1048576: true; the input reads as it did. -/
def fixedMakesUptoRow : OpenClaim := { program := "ytbglnncejfhlmaa", sum := "78fc5ccb20646eef32697a11a3961d8ced5c0aa7c50bb6c314d0ba82c4ad0fcd", func := "almucantar/almucantarlaw04.FixedMakes", spec := "fixedMakes", named := ["math/bits.divideError", "math/bits.overflowError"], apart := false, narrowed := true }
def FixedMakesUptoSaid : Prop := fixedMakesUptoRow.holds Try.pinned (OpenSpec.upto fixedMakesSpec)

/-- 'almucantarlaw04.FixedMeets', WHERE WHAT IT READS IS OF BULK AT MOST 1048576: true; the input reads as it did. -/
def fixedMeetsUptoRow : OpenClaim := { program := "ytbglnncejfhlmaa", sum := "78fc5ccb20646eef32697a11a3961d8ced5c0aa7c50bb6c314d0ba82c4ad0fcd", func := "almucantar/almucantarlaw04.FixedMeets", spec := "fixedMeets", named := ["math/bits.divideError", "math/bits.overflowError"], apart := false, narrowed := true }
def FixedMeetsUptoSaid : Prop := fixedMeetsUptoRow.holds Try.pinned (OpenSpec.upto fixedMeetsSpec)

/-- 'almucantarlaw04.FixedSums', WHERE WHAT IT READS IS OF BULK AT MOST 1048576: true; the input reads as it did. -/
def fixedSumsUptoRow : OpenClaim := { program := "ytbglnncejfhlmaa", sum := "78fc5ccb20646eef32697a11a3961d8ced5c0aa7c50bb6c314d0ba82c4ad0fcd", func := "almucantar/almucantarlaw04.FixedSums", spec := "fixedSums", named := ["math/bits.divideError", "math/bits.overflowError"], apart := false, narrowed := true }
def FixedSumsUptoSaid : Prop := fixedSumsUptoRow.holds Try.pinned (OpenSpec.upto fixedSumsSpec)

/-- 'almucantarlaw04.FixedRoots', WHERE WHAT IT READS IS OF BULK AT MOST 1048576: true; the input reads as it did. -/
def fixedRootsUptoRow : OpenClaim := { program := "ytbglnncejfhlmaa", sum := "78fc5ccb20646eef32697a11a3961d8ced5c0aa7c50bb6c314d0ba82c4ad0fcd", func := "almucantar/almucantarlaw04.FixedRoots", spec := "fixedRoots", named := ["math/bits.divideError", "math/bits.overflowError"], apart := false, narrowed := true }
def FixedRootsUptoSaid : Prop := fixedRootsUptoRow.holds Try.pinned (OpenSpec.upto fixedRootsSpec)

/-- 'almucantarlaw04.FixedUndone', WHERE WHAT IT READS IS OF BULK AT MOST 1048576: true; the input reads as it did. -/
def fixedUndoneUptoRow : OpenClaim := { program := "ytbglnncejfhlmaa", sum := "78fc5ccb20646eef32697a11a3961d8ced5c0aa7c50bb6c314d0ba82c4ad0fcd", func := "almucantar/almucantarlaw04.FixedUndone", spec := "fixedUndone", named := ["math/bits.divideError", "math/bits.overflowError"], apart := false, narrowed := true }
def FixedUndoneUptoSaid : Prop := fixedUndoneUptoRow.holds Try.pinned (OpenSpec.upto fixedUndoneSpec)

/-- 'almucantarlaw04.FixedScales', WHERE WHAT IT READS IS OF BULK AT MOST 1048576: true; the input reads as it did. -/
def fixedScalesUptoRow : OpenClaim := { program := "ytbglnncejfhlmaa", sum := "78fc5ccb20646eef32697a11a3961d8ced5c0aa7c50bb6c314d0ba82c4ad0fcd", func := "almucantar/almucantarlaw04.FixedScales", spec := "fixedScales", named := ["math/bits.divideError", "math/bits.overflowError"], apart := false, narrowed := true }
def FixedScalesUptoSaid : Prop := fixedScalesUptoRow.holds Try.pinned (OpenSpec.upto fixedScalesSpec)

/-- 'almucantarlaw04.FixedContains', WHERE WHAT IT READS IS OF BULK AT MOST 1048576: true; the input reads as it did. -/
def fixedContainsUptoRow : OpenClaim := { program := "ytbglnncejfhlmaa", sum := "78fc5ccb20646eef32697a11a3961d8ced5c0aa7c50bb6c314d0ba82c4ad0fcd", func := "almucantar/almucantarlaw04.FixedContains", spec := "fixedContains", unfollowed := true, recurses := true, named := ["math/bits.divideError", "math/bits.overflowError"], apart := false, narrowed := true }
def FixedContainsUptoSaid : Prop := fixedContainsUptoRow.holds Try.pinned (OpenSpec.upto fixedContainsSpec)

end Rows
end Go.Proofs.Ytbglnncejfhlmaa
