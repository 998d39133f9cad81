/-
  No cell of these rows narrows 'for every input' (looked for: loops, veiled, ifaces, maps, wideKeys, modest, calm, conditions, laid).
  DERIVED. THE GIVEN ROWS OF THIS SEAT. 5 by the template 'for every input the law returns true; each argument reads behind the call as it read before'; 0 by the template 'total and deterministic' (their statements: YtcpghihgppgpmaaTotals.lean).
  GIVEN WITH THE SEED: the statements are not yours to turn. If you find one false, say at which input.
  Laid BY PROGRAM, IN A SANDBOX (cutbox-rows.mjs): the forced cells as the released guide's own fill.sh prints them over the translation 042bdb652a09a797… (all of the seat's roots in one cut). By AI agents, Wed Nov 11 2026. No macro, syntax, notation, axiom, sorry.
-/
import Derived.Test.YtcpghihgppgpmaaChecked
import GoSem.Claim
import GoSem.ClaimJoined
import GoSem.ClaimMapViews
import Derived.JoinedTies
import Derived.KernelRfl
namespace Go.Proofs.Ytcpghihgppgpmaa
/- THE CELL 'sum', in the pinned program and in every row, IS THE sha256 OF THE DUMP (.gsa) THAT YtcpghihgppgpmaaProg.lean LOADS. Nothing in Lean hashes anything: it is a label: what it is worth is what the hold of that sum in a sandbox is worth. -/
noncomputable def Try.pinned : Pinned := { name := "ytcpghihgppgpmaa", sum := "042bdb652a09a797a829b16c1d464e17f5deeb910ea616382ab22a05ef22ce41", checked := Try.checked }
namespace Rows
def none {H : Type} : Left H := { results := [], args := [] }

/-- 'almucantarlaw21.ParallaxFalls': WHATEVER THE INPUT: true; the input reads as it did. -/
def parallaxFallsSpec : ChangeSpec := { name := "parallaxFalls", fn := fun _ => fun
  | [d1, d2, d3, d4] => { results := [.lit (.bool true)], args := [d1, d2, d3, d4] }
  | _ => none }
def parallaxFallsRow : OpenClaim := { program := "ytcpghihgppgpmaa", sum := "042bdb652a09a797a829b16c1d464e17f5deeb910ea616382ab22a05ef22ce41", func := "almucantar/almucantarlaw21.ParallaxFalls", spec := "parallaxFalls", inPlace := ["math/bits.Add64", "math/bits.Sub64"], named := ["math/bits.divideError", "math/bits.overflowError"], apart := false }
def ParallaxFallsSaid : Prop := parallaxFallsRow.holds Try.pinned (OpenSpec.ofChange parallaxFallsSpec)

/-- ITS FALSE NEIGHBOUR: 'it returns false'. Refute it at one input. -/
def parallaxFallsWrong : ChangeSpec := { name := "parallaxFalls", fn := fun _ => fun
  | [d1, d2, d3, d4] => { results := [.lit (.bool false)], args := [d1, d2, d3, d4] }
  | _ => none }
def ParallaxFallsWrongFalsely : Prop := parallaxFallsRow.holds Try.pinned (OpenSpec.ofChange parallaxFallsWrong)

/-- 'almucantarlaw21.ParallaxDistances': WHATEVER THE INPUT: true; the input reads as it did. -/
def parallaxDistancesSpec : ChangeSpec := { name := "parallaxDistances", fn := fun _ => fun
  | [d1, d2] => { results := [.lit (.bool true)], args := [d1, d2] }
  | _ => none }
def parallaxDistancesRow : OpenClaim := { program := "ytcpghihgppgpmaa", sum := "042bdb652a09a797a829b16c1d464e17f5deeb910ea616382ab22a05ef22ce41", func := "almucantar/almucantarlaw21.ParallaxDistances", spec := "parallaxDistances", inPlace := ["math/bits.Add64", "math/bits.Sub64"], named := ["math/bits.divideError", "math/bits.overflowError"], apart := false }
def ParallaxDistancesSaid : Prop := parallaxDistancesRow.holds Try.pinned (OpenSpec.ofChange parallaxDistancesSpec)

/-- ITS FALSE NEIGHBOUR: 'it returns false'. Refute it at one input. -/
def parallaxDistancesWrong : ChangeSpec := { name := "parallaxDistances", fn := fun _ => fun
  | [d1, d2] => { results := [.lit (.bool false)], args := [d1, d2] }
  | _ => none }
def ParallaxDistancesWrongFalsely : Prop := parallaxDistancesRow.holds Try.pinned (OpenSpec.ofChange parallaxDistancesWrong)

/-- 'almucantarlaw21.ParallaxAugments': WHATEVER THE INPUT: true; the input reads as it did. -/
def parallaxAugmentsSpec : ChangeSpec := { name := "parallaxAugments", fn := fun _ => fun
  | [d1, d2, d3, d4] => { results := [.lit (.bool true)], args := [d1, d2, d3, d4] }
  | _ => none }
def parallaxAugmentsRow : OpenClaim := { program := "ytcpghihgppgpmaa", sum := "042bdb652a09a797a829b16c1d464e17f5deeb910ea616382ab22a05ef22ce41", func := "almucantar/almucantarlaw21.ParallaxAugments", spec := "parallaxAugments", inPlace := ["math/bits.Add64", "math/bits.Sub64"], unfollowed := true, recurses := true, named := ["math/bits.divideError", "math/bits.overflowError"], apart := false }
def ParallaxAugmentsSaid : Prop := parallaxAugmentsRow.holds Try.pinned (OpenSpec.ofChange parallaxAugmentsSpec)

/-- ITS FALSE NEIGHBOUR: 'it returns false'. Refute it at one input. -/
def parallaxAugmentsWrong : ChangeSpec := { name := "parallaxAugments", fn := fun _ => fun
  | [d1, d2, d3, d4] => { results := [.lit (.bool false)], args := [d1, d2, d3, d4] }
  | _ => none }
def ParallaxAugmentsWrongFalsely : Prop := parallaxAugmentsRow.holds Try.pinned (OpenSpec.ofChange parallaxAugmentsWrong)

/-- 'almucantarlaw21.ParallaxFlattens': WHATEVER THE INPUT: true; the input reads as it did. -/
def parallaxFlattensSpec : ChangeSpec := { name := "parallaxFlattens", fn := fun _ => fun
  | [d1, d2, d3] => { results := [.lit (.bool true)], args := [d1, d2, d3] }
  | _ => none }
def parallaxFlattensRow : OpenClaim := { program := "ytcpghihgppgpmaa", sum := "042bdb652a09a797a829b16c1d464e17f5deeb910ea616382ab22a05ef22ce41", func := "almucantar/almucantarlaw21.ParallaxFlattens", spec := "parallaxFlattens", inPlace := ["math/bits.Add64", "math/bits.Sub64"], named := ["math/bits.divideError", "math/bits.overflowError"], apart := false }
def ParallaxFlattensSaid : Prop := parallaxFlattensRow.holds Try.pinned (OpenSpec.ofChange parallaxFlattensSpec)

/-- ITS FALSE NEIGHBOUR: 'it returns false'. Refute it at one input. -/
def parallaxFlattensWrong : ChangeSpec := { name := "parallaxFlattens", fn := fun _ => fun
  | [d1, d2, d3] => { results := [.lit (.bool false)], args := [d1, d2, d3] }
  | _ => none }
def ParallaxFlattensWrongFalsely : Prop := parallaxFlattensRow.holds Try.pinned (OpenSpec.ofChange parallaxFlattensWrong)

/-- 'almucantarlaw21.ParallaxParts': WHATEVER THE INPUT: true; the input reads as it did. -/
def parallaxPartsSpec : ChangeSpec := { name := "parallaxParts", fn := fun _ => fun
  | [d1, d2, d3, d4, d5, d6] => { results := [.lit (.bool true)], args := [d1, d2, d3, d4, d5, d6] }
  | _ => none }
def parallaxPartsRow : OpenClaim := { program := "ytcpghihgppgpmaa", sum := "042bdb652a09a797a829b16c1d464e17f5deeb910ea616382ab22a05ef22ce41", func := "almucantar/almucantarlaw21.ParallaxParts", spec := "parallaxParts", inPlace := ["math/bits.Add64", "math/bits.Sub64"], unfollowed := true, recurses := true, named := ["math/bits.divideError", "math/bits.overflowError"], apart := false }
def ParallaxPartsSaid : Prop := parallaxPartsRow.holds Try.pinned (OpenSpec.ofChange parallaxPartsSpec)

/-- ITS FALSE NEIGHBOUR: 'it returns false'. Refute it at one input. -/
def parallaxPartsWrong : ChangeSpec := { name := "parallaxParts", fn := fun _ => fun
  | [d1, d2, d3, d4, d5, d6] => { results := [.lit (.bool false)], args := [d1, d2, d3, d4, d5, d6] }
  | _ => none }
def ParallaxPartsWrongFalsely : Prop := parallaxPartsRow.holds Try.pinned (OpenSpec.ofChange parallaxPartsWrong)

/- THE SECOND FORM. 'bulk': how many values and letters a reading holds, each counted each time it is reached (what is shared counts as often as it is met; a slice's spare places count too). A statement '..UptoSaid' is the law's where the arguments, and the package variables that the reading takes, are together of bulk at most 1048576: NARROWER than '..Said'. Prove '..Said' where nothing that the law and all that it calls make is longer than what came in: it says more and counts as full. Else prove '..UptoSaid'. A law counts once. -/
mutual
def uptoBulk {H : Type} : DataW H → Nat
  | .lit (.string bytes) => bytes.length + 1
  | .lit _ => 1
  | .nil => 1
  | .ptr d => uptoBulk d + 1
  | .slice elems spare => uptoBulkAll elems + uptoBulkAll spare + 1
  | .agg parts => uptoBulkAll parts + 1
  | .iface _ d => uptoBulk d + 1
  | .map entries => uptoBulkEntries entries + 1
  | .held _ => 1
def uptoBulkAll {H : Type} : List (DataW H) → Nat
  | [] => 0
  | d :: r => uptoBulk d + uptoBulkAll r
def uptoBulkEntries {H : Type} : List (Lit × DataW H) → Nat
  | [] => 0
  | x :: r => uptoBulkEntry x + uptoBulkEntries r
def uptoBulkEntry {H : Type} : Lit × DataW H → Nat
  | (.string bytes, d) => bytes.length + uptoBulk d + 1
  | (_, d) => uptoBulk d + 1
 end
def uptoSmall : (H : Type) → List (DataW H) → Bool := fun _ ds => decide (uptoBulkAll ds ≤ 1048576)
def OpenSpec.upto (s : _root_.Go.ChangeSpec) : _root_.Go.OpenSpec := { _root_.Go.OpenSpec.ofChange s with cond := some uptoSmall }

/-- 'almucantarlaw21.ParallaxFalls', WHERE WHAT IT READS IS OF BULK AT MOST 1048576: true; the input reads as it did. -/
def parallaxFallsUptoRow : OpenClaim := { program := "ytcpghihgppgpmaa", sum := "042bdb652a09a797a829b16c1d464e17f5deeb910ea616382ab22a05ef22ce41", func := "almucantar/almucantarlaw21.ParallaxFalls", spec := "parallaxFalls", inPlace := ["math/bits.Add64", "math/bits.Sub64"], named := ["math/bits.divideError", "math/bits.overflowError"], apart := false, narrowed := true }
def ParallaxFallsUptoSaid : Prop := parallaxFallsUptoRow.holds Try.pinned (OpenSpec.upto parallaxFallsSpec)

/-- 'almucantarlaw21.ParallaxDistances', WHERE WHAT IT READS IS OF BULK AT MOST 1048576: true; the input reads as it did. -/
def parallaxDistancesUptoRow : OpenClaim := { program := "ytcpghihgppgpmaa", sum := "042bdb652a09a797a829b16c1d464e17f5deeb910ea616382ab22a05ef22ce41", func := "almucantar/almucantarlaw21.ParallaxDistances", spec := "parallaxDistances", inPlace := ["math/bits.Add64", "math/bits.Sub64"], named := ["math/bits.divideError", "math/bits.overflowError"], apart := false, narrowed := true }
def ParallaxDistancesUptoSaid : Prop := parallaxDistancesUptoRow.holds Try.pinned (OpenSpec.upto parallaxDistancesSpec)

/-- 'almucantarlaw21.ParallaxAugments', WHERE WHAT IT READS IS OF BULK AT MOST 1048576: true; the input reads as it did. -/
def parallaxAugmentsUptoRow : OpenClaim := { program := "ytcpghihgppgpmaa", sum := "042bdb652a09a797a829b16c1d464e17f5deeb910ea616382ab22a05ef22ce41", func := "almucantar/almucantarlaw21.ParallaxAugments", spec := "parallaxAugments", inPlace := ["math/bits.Add64", "math/bits.Sub64"], unfollowed := true, recurses := true, named := ["math/bits.divideError", "math/bits.overflowError"], apart := false, narrowed := true }
def ParallaxAugmentsUptoSaid : Prop := parallaxAugmentsUptoRow.holds Try.pinned (OpenSpec.upto parallaxAugmentsSpec)

/-- 'almucantarlaw21.ParallaxFlattens', WHERE WHAT IT READS IS OF BULK AT MOST 1048576: true; the input reads as it did. -/
def parallaxFlattensUptoRow : OpenClaim := { program := "ytcpghihgppgpmaa", sum := "042bdb652a09a797a829b16c1d464e17f5deeb910ea616382ab22a05ef22ce41", func := "almucantar/almucantarlaw21.ParallaxFlattens", spec := "parallaxFlattens", inPlace := ["math/bits.Add64", "math/bits.Sub64"], named := ["math/bits.divideError", "math/bits.overflowError"], apart := false, narrowed := true }
def ParallaxFlattensUptoSaid : Prop := parallaxFlattensUptoRow.holds Try.pinned (OpenSpec.upto parallaxFlattensSpec)

/-- 'almucantarlaw21.ParallaxParts', WHERE WHAT IT READS IS OF BULK AT MOST 1048576: true; the input reads as it did. -/
def parallaxPartsUptoRow : OpenClaim := { program := "ytcpghihgppgpmaa", sum := "042bdb652a09a797a829b16c1d464e17f5deeb910ea616382ab22a05ef22ce41", func := "almucantar/almucantarlaw21.ParallaxParts", spec := "parallaxParts", inPlace := ["math/bits.Add64", "math/bits.Sub64"], unfollowed := true, recurses := true, named := ["math/bits.divideError", "math/bits.overflowError"], apart := false, narrowed := true }
def ParallaxPartsUptoSaid : Prop := parallaxPartsUptoRow.holds Try.pinned (OpenSpec.upto parallaxPartsSpec)

end Rows
end Go.Proofs.Ytcpghihgppgpmaa
