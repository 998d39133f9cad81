/-
  DERIVED: THE SHELF's CONTRACTS AT THIS DUMP, IN PLAIN WORDS (tools/lay-plain.mjs out of 'YtdhbeoahpfimbaaGreatShf.lean', which tools/lay-shelf.mjs wrote): THE SAME DECLARATIONS UNDER THE SAME NAMES: 'import', 'namespace', 'open', 'def', 'theorem' AND NOTHING ELSE: no command of the shelf's: FOR A HAND-IN. Each laying: the table of numbers ('.._ren') and one theorem, a field a fact of the dump's own or the kernel's comparison; each contract: ONE APPLICATION.
-/
import Derived.Shelf.SlGeneric
import Derived.Shelf.Small.Bits
import Derived.Shelf.Strconv.Itoa0
import Derived.Shelf.SlicesE.Clone
import Derived.Ground.Names2Prog
import Derived.Ground.SlgnProg
import Derived.Test.YtdhbeoahpfimbaaGreatProg
namespace Go.Proofs
open Go.Shelf
def Tryz.lays_star_ren : Go.Shelf.Ren := ⟨fun | 41 => 96 | n => n, fun | 22 => 71 | 23 => 77 | 4 => 4 | n => n, fun | n => n⟩
theorem Tryz.lays_star : Go.Proofs.SlLaysE0.n41 Tryz.prog Tryz.lays_star_ren := {
  mixed := by kernel_rfl
  f41 := ⟨Tryz.f96.name, by decide, Tryz.func96.trans (congrArg some (by kernel_rfl))⟩
  t4 := Tryz.underlying4
  a4 := Tryz.isAgg4
  z4 := Tryz.sizeOf4
  v4 := Tryz.zeroValue4
  t22 := Tryz.underlying71
  a22 := Tryz.isAgg71
  z22 := Tryz.sizeOf71
  v22 := Tryz.zeroValue71 }
def Tryz.lays_page_ren : Go.Shelf.Ren := ⟨fun | 41 => 174 | n => n, fun | 22 => 140 | 23 => 146 | 4 => 4 | n => n, fun | n => n⟩
theorem Tryz.lays_page : Go.Proofs.SlLaysE0.n41 Tryz.prog Tryz.lays_page_ren := {
  mixed := by kernel_rfl
  f41 := ⟨Tryz.f174.name, by decide, Tryz.func174.trans (congrArg some (by kernel_rfl))⟩
  t4 := Tryz.underlying4
  a4 := Tryz.isAgg4
  z4 := Tryz.sizeOf4
  v4 := Tryz.zeroValue4
  t22 := Tryz.underlying140
  a22 := Tryz.isAgg140
  z22 := Tryz.sizeOf140
  v22 := Tryz.zeroValue140 }
open Go.RowKit Go.Lib in
theorem Tryz.clone_pages_nil (n c : Nat) (w : World) :
    Calls Tryz.prog 174 #[.slice none n c] w fun e w' => e = .returned (.slice none 0 0) ∧ w' = w := AnyE.slices_Clone_nil Tryz.lays_page n c w
end Go.Proofs
