/- Small lemmas on worlds, endings and regions that draw their order, for the walks. -/
import Derived.Test.YtdhbeoahpfimbaaGreatRows
import Derived.WalkKit
import Derived.WalkSpells
import Derived.WalkLawsBesides
import Derived.Deep.QuietTactic
import Derived.BigQuiet
import Derived.Deep.RegionHeld3
import Derived.StillTailTactics
import Derived.Lib.QuietBelow
import Derived.Laws.BitsAllLaws
namespace Go.Proofs.YtdhbeoahpfimbaaGreat
open Go.RowKit
theorem hidden {p : Prop} (h : p) : Hid p := h
theorem bcell {W w1 : World} (hb : Below W.heap.size W w1) : (∀ b o, b < W.heap.size → w1.cell? ⟨b, o, none⟩ = W.cell? ⟨b, o, none⟩) ∧ (∀ b o, b < W.heap.size → w1.frozen? ⟨b, o, none⟩ = W.frozen? ⟨b, o, none⟩) :=
  ⟨fun b o h => hb.cell (p := ⟨b, o, none⟩) h, fun b o h => hb.frozen (p := ⟨b, o, none⟩) h⟩
theorem bl_drewN {B : Nat} {a w : World} {n : Nat} (h : Below B a w) : Below B a (w.drewN n) := ⟨h.os, h.tape, h.output, h.size, h.block⟩
theorem below_undrew {w w' : World} (h : Below w.drew.heap.size w.drew w') : Below w.heap.size w w' := ⟨h.os, h.tape, h.output, h.size, h.block⟩
theorem below_undrewN {w w' : World} {n : Nat} (h : Below (w.drewN n).heap.size (w.drewN n) w') : Below w.heap.size w w' := ⟨h.os, h.tape, h.output, h.size, h.block⟩
theorem bl_drew {B : Nat} {a w : World} (h : Below B a w) : Below B a w.drew := h.drew
theorem bl_alloc {w X : World} (h : Below w.heap.size w X) (o : Obj) : Below w.heap.size w (X.alloc o) := h.alloc h.size o
theorem bl_step {w X W : World} (hb : Below X.heap.size X W) (h : Below w.heap.size w X) : Below w.heap.size w W := h.trans (hb.mono h.size)
@[simp, go_sem] theorem ltadd0_1 (n : Nat) : n < n + 1 := by omega
@[simp, go_sem] theorem ltadd0_2 (n : Nat) : n < n + 1 + 1 := by omega
@[simp, go_sem] theorem ltadd0_3 (n : Nat) : n < n + 1 + 1 + 1 := by omega
@[simp, go_sem] theorem ltadd0_4 (n : Nat) : n < n + 1 + 1 + 1 + 1 := by omega
@[simp, go_sem] theorem ltadd0_5 (n : Nat) : n < n + 1 + 1 + 1 + 1 + 1 := by omega
@[simp, go_sem] theorem ltadd0_6 (n : Nat) : n < n + 1 + 1 + 1 + 1 + 1 + 1 := by omega
@[simp, go_sem] theorem ltadd1_2 (n : Nat) : n + 1 < n + 1 + 1 := by omega
@[simp, go_sem] theorem ltadd1_3 (n : Nat) : n + 1 < n + 1 + 1 + 1 := by omega
@[simp, go_sem] theorem ltadd1_4 (n : Nat) : n + 1 < n + 1 + 1 + 1 + 1 := by omega
@[simp, go_sem] theorem ltadd1_5 (n : Nat) : n + 1 < n + 1 + 1 + 1 + 1 + 1 := by omega
@[simp, go_sem] theorem ltadd1_6 (n : Nat) : n + 1 < n + 1 + 1 + 1 + 1 + 1 + 1 := by omega
@[simp, go_sem] theorem ltadd2_3 (n : Nat) : n + 1 + 1 < n + 1 + 1 + 1 := by omega
@[simp, go_sem] theorem ltadd2_4 (n : Nat) : n + 1 + 1 < n + 1 + 1 + 1 + 1 := by omega
@[simp, go_sem] theorem ltadd2_5 (n : Nat) : n + 1 + 1 < n + 1 + 1 + 1 + 1 + 1 := by omega
@[simp, go_sem] theorem ltadd2_6 (n : Nat) : n + 1 + 1 < n + 1 + 1 + 1 + 1 + 1 + 1 := by omega
@[simp, go_sem] theorem ltadd3_4 (n : Nat) : n + 1 + 1 + 1 < n + 1 + 1 + 1 + 1 := by omega
@[simp, go_sem] theorem ltadd3_5 (n : Nat) : n + 1 + 1 + 1 < n + 1 + 1 + 1 + 1 + 1 := by omega
@[simp, go_sem] theorem ltadd3_6 (n : Nat) : n + 1 + 1 + 1 < n + 1 + 1 + 1 + 1 + 1 + 1 := by omega
@[simp, go_sem] theorem ltadd4_5 (n : Nat) : n + 1 + 1 + 1 + 1 < n + 1 + 1 + 1 + 1 + 1 := by omega
@[simp, go_sem] theorem ltadd4_6 (n : Nat) : n + 1 + 1 + 1 + 1 < n + 1 + 1 + 1 + 1 + 1 + 1 := by omega
theorem held_start (w : World) : Below w.heap.size w w.drew ∧ (∀ b o, b < w.heap.size → w.drew.cell? ⟨b, o, none⟩ = w.cell? ⟨b, o, none⟩) ∧ (∀ b o, b < w.heap.size → w.drew.frozen? ⟨b, o, none⟩ = w.frozen? ⟨b, o, none⟩) :=
  have h := (Below.refl w.heap.size w).drew
  ⟨h, bcell h⟩
theorem held_of {w W : World} (h : Below w.heap.size w W) :
    Below w.heap.size w W ∧ (∀ b o, b < w.heap.size → W.cell? ⟨b, o, none⟩ = w.cell? ⟨b, o, none⟩) ∧ (∀ b o, b < w.heap.size → W.frozen? ⟨b, o, none⟩ = w.frozen? ⟨b, o, none⟩) := ⟨h, bcell h⟩
theorem ret_one {k : IntKind} {a c : Int} (h : a = c) : Ending.returned (.int k a) = Ending.returned (.int k c) := by rw [h]
theorem ret_two {k : IntKind} {a b c d : Int} (h : a = c ∧ b = d) : Ending.returned (.tuple #[.int k a, .int k b]) = Ending.returned (.tuple #[.int k c, .int k d]) := by
  rw [h.1, h.2]
theorem ret_bool2 {a b : Bool} {n : Int} (h : a = b) : Ending.returned (.tuple #[.bool a, .int .i64 n]) = Ending.returned (.tuple #[.bool b, .int .i64 n]) := by rw [h]
theorem quiet_same {P : Program} {f : FuncId} {args : Array Value} {w : World} {n : Nat} {v : Value}
    (h : Calls P f args (w.drewN n) fun e w' => e = .returned v ∧ w.drewN n = w') : Calls P f args (w.drewN n) fun e w'' => e = .returned v ∧ ∃ m, w'' = w.drewN m :=
  h.mono fun _ _ ⟨he, hm⟩ => ⟨he, n, hm.symm⟩
theorem same_rev {P : Program} {f : FuncId} {args : Array Value} {w : World} {v : Value} (h : Calls P f args w fun e w' => e = .returned v ∧ w = w') : Calls P f args w fun e w' => e = .returned v ∧ w' = w :=
  h.mono fun _ _ ⟨he, hm⟩ => ⟨he, hm.symm⟩
theorem still_tail {P : Program} {id : Nat} {Q : Exit → Act → World → Prop} {a : Act} {w : World} {l : List Oper} (n : Nat) (hm : P.follows .mixedOrders = true) (hB : Region.lexTailB .any l.toArray n = true)
    (h : wpStill P l.toArray w.drew (fun a' => wpList P l.toArray Q (l.drop n) a' w.drew) (l.take n) a) : (Code.region id l.toArray true).wp P Q a w := wp_region_still_tail n hm hB h
@[simp, go_sem] theorem cell_redrawn (w : World) (b o d : Nat) (os : Array Obj) (h : b < w.heap.size) : (Go.Sort.grow (redrawn w d) os).cell? ⟨b, o, none⟩ = w.cell? ⟨b, o, none⟩ := (below_regrown w d os).cell (p := ⟨b, o, none⟩) h
theorem below_of_regrown {w w' : World} (h : ∃ p : Regrown, w' = Go.Sort.grow (redrawn w p.d) p.os) : Below w.heap.size w w' := by
  obtain ⟨p, rfl⟩ := h; exact below_regrown w p.d p.os
theorem name_below {P : Program} {id : Nat} {ops : Array Oper} {b : Bool} {Q : Exit → Act → World → Prop} {a : Act} {W : World} (h : ∀ w', Below W.heap.size W w' → (Code.region id ops b).wp P Q a w') : (Code.region id ops b).wp P Q a W := h W (Below.refl _ _)
theorem name_world {F : World → Prop} {W : World} (h : ∀ w', Below W.heap.size W w' → F w') : F W := h W (Below.refl _ _)
theorem name_code {P : Program} {c : Code} {Q : Exit → Act → World → Prop} {a : Act} {W : World} (h : ∀ w', Below W.heap.size W w' → c.wp P Q a w') : c.wp P Q a W := h W (Below.refl _ _)
end Go.Proofs.YtdhbeoahpfimbaaGreat
