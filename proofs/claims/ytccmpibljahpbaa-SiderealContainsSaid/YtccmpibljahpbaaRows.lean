/-
  No cell of these rows narrows 'for every input' (looked for: loops, veiled, ifaces, maps, wideKeys, modest, calm, conditions, laid).
  DERIVED. THE GIVEN ROWS OF THIS SEAT. 5 by the template 'for every input the law returns true; each argument reads behind the call as it read before'; 0 by the template 'total and deterministic' (their statements: YtccmpibljahpbaaTotals.lean).
  GIVEN WITH THE SEED: the statements are not yours to turn. If you find one false, say at which input.
  Laid BY PROGRAM, IN A SANDBOX (cutbox-rows.mjs): the forced cells as the released guide's own fill.sh prints them over the translation c9e20e5203d942b7… (all of the seat's roots in one cut). By AI agents, Wed Nov 11 2026. No macro, syntax, notation, axiom, sorry.
-/
import Derived.Test.YtccmpibljahpbaaChecked
import GoSem.Claim
import GoSem.ClaimJoined
import GoSem.ClaimMapViews
import Derived.JoinedTies
import Derived.KernelRfl
namespace Go.Proofs.Ytccmpibljahpbaa
/- THE CELL 'sum', in the pinned program and in every row, IS THE sha256 OF THE DUMP (.gsa) THAT YtccmpibljahpbaaProg.lean LOADS. Nothing in Lean hashes anything: it is a label: what it is worth is what the hold of that sum in a sandbox is worth. -/
noncomputable def Try.pinned : Pinned := { name := "ytccmpibljahpbaa", sum := "c9e20e5203d942b74ec43b697c9aea6ae322d52a05bc5e32518e92424642fd2c", checked := Try.checked }
namespace Rows
def none {H : Type} : Left H := { results := [], args := [] }

/-- 'almucantarlaw12.SiderealRate': WHATEVER THE INPUT: true; the input reads as it did. -/
def siderealRateSpec : ChangeSpec := { name := "siderealRate", fn := fun _ => fun
  | [d1, d2, d3] => { results := [.lit (.bool true)], args := [d1, d2, d3] }
  | _ => none }
def siderealRateRow : OpenClaim := { program := "ytccmpibljahpbaa", sum := "c9e20e5203d942b74ec43b697c9aea6ae322d52a05bc5e32518e92424642fd2c", func := "almucantar/almucantarlaw12.SiderealRate", spec := "siderealRate", named := ["math/bits.divideError", "math/bits.overflowError"], apart := false }
def SiderealRateSaid : Prop := siderealRateRow.holds Try.pinned (OpenSpec.ofChange siderealRateSpec)

/-- ITS FALSE NEIGHBOUR: 'it returns false'. Refute it at one input. -/
def siderealRateWrong : ChangeSpec := { name := "siderealRate", fn := fun _ => fun
  | [d1, d2, d3] => { results := [.lit (.bool false)], args := [d1, d2, d3] }
  | _ => none }
def SiderealRateWrongFalsely : Prop := siderealRateRow.holds Try.pinned (OpenSpec.ofChange siderealRateWrong)

/-- 'almucantarlaw12.SiderealInstants': WHATEVER THE INPUT: true; the input reads as it did. -/
def siderealInstantsSpec : ChangeSpec := { name := "siderealInstants", fn := fun _ => fun
  | [d1, d2] => { results := [.lit (.bool true)], args := [d1, d2] }
  | _ => none }
def siderealInstantsRow : OpenClaim := { program := "ytccmpibljahpbaa", sum := "c9e20e5203d942b74ec43b697c9aea6ae322d52a05bc5e32518e92424642fd2c", func := "almucantar/almucantarlaw12.SiderealInstants", spec := "siderealInstants", unfollowed := true, recurses := true, named := ["math/bits.divideError", "math/bits.overflowError"], apart := false }
def SiderealInstantsSaid : Prop := siderealInstantsRow.holds Try.pinned (OpenSpec.ofChange siderealInstantsSpec)

/-- ITS FALSE NEIGHBOUR: 'it returns false'. Refute it at one input. -/
def siderealInstantsWrong : ChangeSpec := { name := "siderealInstants", fn := fun _ => fun
  | [d1, d2] => { results := [.lit (.bool false)], args := [d1, d2] }
  | _ => none }
def SiderealInstantsWrongFalsely : Prop := siderealInstantsRow.holds Try.pinned (OpenSpec.ofChange siderealInstantsWrong)

/-- 'almucantarlaw12.SiderealAngles': WHATEVER THE INPUT: true; the input reads as it did. -/
def siderealAnglesSpec : ChangeSpec := { name := "siderealAngles", fn := fun _ => fun
  | [d1, d2, d3] => { results := [.lit (.bool true)], args := [d1, d2, d3] }
  | _ => none }
def siderealAnglesRow : OpenClaim := { program := "ytccmpibljahpbaa", sum := "c9e20e5203d942b74ec43b697c9aea6ae322d52a05bc5e32518e92424642fd2c", func := "almucantar/almucantarlaw12.SiderealAngles", spec := "siderealAngles", named := ["math/bits.divideError", "math/bits.overflowError"], apart := false }
def SiderealAnglesSaid : Prop := siderealAnglesRow.holds Try.pinned (OpenSpec.ofChange siderealAnglesSpec)

/-- ITS FALSE NEIGHBOUR: 'it returns false'. Refute it at one input. -/
def siderealAnglesWrong : ChangeSpec := { name := "siderealAngles", fn := fun _ => fun
  | [d1, d2, d3] => { results := [.lit (.bool false)], args := [d1, d2, d3] }
  | _ => none }
def SiderealAnglesWrongFalsely : Prop := siderealAnglesRow.holds Try.pinned (OpenSpec.ofChange siderealAnglesWrong)

/-- 'almucantarlaw12.SiderealReaches': WHATEVER THE INPUT: true; the input reads as it did. -/
def siderealReachesSpec : ChangeSpec := { name := "siderealReaches", fn := fun _ => fun
  | [d1, d2] => { results := [.lit (.bool true)], args := [d1, d2] }
  | _ => none }
def siderealReachesRow : OpenClaim := { program := "ytccmpibljahpbaa", sum := "c9e20e5203d942b74ec43b697c9aea6ae322d52a05bc5e32518e92424642fd2c", func := "almucantar/almucantarlaw12.SiderealReaches", spec := "siderealReaches", unfollowed := true, recurses := true, named := ["math/bits.divideError", "math/bits.overflowError"], apart := false }
def SiderealReachesSaid : Prop := siderealReachesRow.holds Try.pinned (OpenSpec.ofChange siderealReachesSpec)

/-- ITS FALSE NEIGHBOUR: 'it returns false'. Refute it at one input. -/
def siderealReachesWrong : ChangeSpec := { name := "siderealReaches", fn := fun _ => fun
  | [d1, d2] => { results := [.lit (.bool false)], args := [d1, d2] }
  | _ => none }
def SiderealReachesWrongFalsely : Prop := siderealReachesRow.holds Try.pinned (OpenSpec.ofChange siderealReachesWrong)

/-- 'almucantarlaw12.SiderealContains': WHATEVER THE INPUT: true; the input reads as it did. -/
def siderealContainsSpec : ChangeSpec := { name := "siderealContains", fn := fun _ => fun
  | [d1, d2, d3] => { results := [.lit (.bool true)], args := [d1, d2, d3] }
  | _ => none }
def siderealContainsRow : OpenClaim := { program := "ytccmpibljahpbaa", sum := "c9e20e5203d942b74ec43b697c9aea6ae322d52a05bc5e32518e92424642fd2c", func := "almucantar/almucantarlaw12.SiderealContains", spec := "siderealContains", named := ["math/bits.divideError", "math/bits.overflowError"], apart := false }
def SiderealContainsSaid : Prop := siderealContainsRow.holds Try.pinned (OpenSpec.ofChange siderealContainsSpec)

/-- ITS FALSE NEIGHBOUR: 'it returns false'. Refute it at one input. -/
def siderealContainsWrong : ChangeSpec := { name := "siderealContains", fn := fun _ => fun
  | [d1, d2, d3] => { results := [.lit (.bool false)], args := [d1, d2, d3] }
  | _ => none }
def SiderealContainsWrongFalsely : Prop := siderealContainsRow.holds Try.pinned (OpenSpec.ofChange siderealContainsWrong)

/- THE SECOND FORM. 'bulk': how many values and letters a reading holds, each counted each time it is reached (what is shared counts as often as it is met; a slice's spare places count too). A statement '..UptoSaid' is the law's where the arguments, and the package variables that the reading takes, are together of bulk at most 1048576: NARROWER than '..Said'. Prove '..Said' where nothing that the law and all that it calls make is longer than what came in: it says more and counts as full. Else prove '..UptoSaid'. A law counts once. -/
mutual
def uptoBulk {H : Type} : DataW H → Nat
  | .lit (.string bytes) => bytes.length + 1
  | .lit _ => 1
  | .nil => 1
  | .ptr d => uptoBulk d + 1
  | .slice elems spare => uptoBulkAll elems + uptoBulkAll spare + 1
  | .agg parts => uptoBulkAll parts + 1
  | .iface _ d => uptoBulk d + 1
  | .map entries => uptoBulkEntries entries + 1
  | .held _ => 1
def uptoBulkAll {H : Type} : List (DataW H) → Nat
  | [] => 0
  | d :: r => uptoBulk d + uptoBulkAll r
def uptoBulkEntries {H : Type} : List (Lit × DataW H) → Nat
  | [] => 0
  | x :: r => uptoBulkEntry x + uptoBulkEntries r
def uptoBulkEntry {H : Type} : Lit × DataW H → Nat
  | (.string bytes, d) => bytes.length + uptoBulk d + 1
  | (_, d) => uptoBulk d + 1
 end
def uptoSmall : (H : Type) → List (DataW H) → Bool := fun _ ds => decide (uptoBulkAll ds ≤ 1048576)
def OpenSpec.upto (s : _root_.Go.ChangeSpec) : _root_.Go.OpenSpec := { _root_.Go.OpenSpec.ofChange s with cond := some uptoSmall }

/-- 'almucantarlaw12.SiderealRate', WHERE WHAT IT READS IS OF BULK AT MOST 1048576: true; the input reads as it did. -/
def siderealRateUptoRow : OpenClaim := { program := "ytccmpibljahpbaa", sum := "c9e20e5203d942b74ec43b697c9aea6ae322d52a05bc5e32518e92424642fd2c", func := "almucantar/almucantarlaw12.SiderealRate", spec := "siderealRate", named := ["math/bits.divideError", "math/bits.overflowError"], apart := false, narrowed := true }
def SiderealRateUptoSaid : Prop := siderealRateUptoRow.holds Try.pinned (OpenSpec.upto siderealRateSpec)

/-- 'almucantarlaw12.SiderealInstants', WHERE WHAT IT READS IS OF BULK AT MOST 1048576: true; the input reads as it did. -/
def siderealInstantsUptoRow : OpenClaim := { program := "ytccmpibljahpbaa", sum := "c9e20e5203d942b74ec43b697c9aea6ae322d52a05bc5e32518e92424642fd2c", func := "almucantar/almucantarlaw12.SiderealInstants", spec := "siderealInstants", unfollowed := true, recurses := true, named := ["math/bits.divideError", "math/bits.overflowError"], apart := false, narrowed := true }
def SiderealInstantsUptoSaid : Prop := siderealInstantsUptoRow.holds Try.pinned (OpenSpec.upto siderealInstantsSpec)

/-- 'almucantarlaw12.SiderealAngles', WHERE WHAT IT READS IS OF BULK AT MOST 1048576: true; the input reads as it did. -/
def siderealAnglesUptoRow : OpenClaim := { program := "ytccmpibljahpbaa", sum := "c9e20e5203d942b74ec43b697c9aea6ae322d52a05bc5e32518e92424642fd2c", func := "almucantar/almucantarlaw12.SiderealAngles", spec := "siderealAngles", named := ["math/bits.divideError", "math/bits.overflowError"], apart := false, narrowed := true }
def SiderealAnglesUptoSaid : Prop := siderealAnglesUptoRow.holds Try.pinned (OpenSpec.upto siderealAnglesSpec)

/-- 'almucantarlaw12.SiderealReaches', WHERE WHAT IT READS IS OF BULK AT MOST 1048576: true; the input reads as it did. -/
def siderealReachesUptoRow : OpenClaim := { program := "ytccmpibljahpbaa", sum := "c9e20e5203d942b74ec43b697c9aea6ae322d52a05bc5e32518e92424642fd2c", func := "almucantar/almucantarlaw12.SiderealReaches", spec := "siderealReaches", unfollowed := true, recurses := true, named := ["math/bits.divideError", "math/bits.overflowError"], apart := false, narrowed := true }
def SiderealReachesUptoSaid : Prop := siderealReachesUptoRow.holds Try.pinned (OpenSpec.upto siderealReachesSpec)

/-- 'almucantarlaw12.SiderealContains', WHERE WHAT IT READS IS OF BULK AT MOST 1048576: true; the input reads as it did. -/
def siderealContainsUptoRow : OpenClaim := { program := "ytccmpibljahpbaa", sum := "c9e20e5203d942b74ec43b697c9aea6ae322d52a05bc5e32518e92424642fd2c", func := "almucantar/almucantarlaw12.SiderealContains", spec := "siderealContains", named := ["math/bits.divideError", "math/bits.overflowError"], apart := false, narrowed := true }
def SiderealContainsUptoSaid : Prop := siderealContainsUptoRow.holds Try.pinned (OpenSpec.upto siderealContainsSpec)

end Rows
end Go.Proofs.Ytccmpibljahpbaa
