/- The examples of chapter 37 hold. -/
import Derived.Test.YtjceofmhodcefaaLinA
import Derived.Test.YtjceofmhodcefaaLin6
import Derived.Test.YtjceofmhodcefaaLi8
namespace Go.Proofs.Ytjceofmhodcefaa
open Go.RowKit

theorem ex_least (B1 : Nat) (w : World) (c0 : w.cell? ⟨B1, 0, none⟩ = some (.int .i64 0)) (c1 : w.cell? ⟨B1, 1, none⟩ = some (.int .i64 0)) (c2 : w.cell? ⟨B1, 2, none⟩ = some (.int .i64 0)) (c3 : w.cell? ⟨B1, 3, none⟩ = some (.int .i64 0)) (c4 : w.cell? ⟨B1, 4, none⟩ = some (.int .i64 5000)) (c5 : w.cell? ⟨B1, 5, none⟩ = some (.int .i64 5000)) (c6 : w.cell? ⟨B1, 6, none⟩ = some (.int .i64 0)) (c7 : w.cell? ⟨B1, 7, none⟩ = some (.int .i64 0)) (c8 : w.cell? ⟨B1, 8, none⟩ = some (.int .i64 5400000)) (c9 : w.cell? ⟨B1, 9, none⟩ = some (.int .i64 5400000)) (c10 : w.cell? ⟨B1, 10, none⟩ = some (.int .i64 3000)) (c11 : w.cell? ⟨B1, 11, none⟩ = some (.int .i64 3000)) :
    Calls Try.prog 13 #[.slice (some ⟨B1, 0, none⟩) 2 2] w fun e w' => (∃ g cap : Nat, e = .returned (.tuple #[.agg #[.int .i64 (5000), .int .i64 (3000)], .slice (some ⟨g, 0, none⟩) 2 cap, .int .i64 0]) ∧ w'.cell? ⟨g, 0, none⟩ = some (.int .i64 0) ∧ w'.cell? ⟨g, 1, none⟩ = some (.int .i64 0)) ∧ Below w.heap.size w w' := by
  obtain ⟨i0, hi, hz0, hz1, hz2⟩ : ∃ i0, Try.prog.info? 77 = some i0 ∧ i0.zero = some (.agg #[.int .i64 0, .int .i64 0, .int .i64 0]) ∧ i0.size = 3 ∧ i0.bytes = 24 := ⟨(Try.prog.info? 77).get (by kernel_rfl), (Option.some_get _).symm, by kernel_rfl, by kernel_rfl, by kernel_rfl⟩
  obtain ⟨i1, hj, hj0, hj1, hj2⟩ : ∃ i1, Try.prog.info? 3 = some i1 ∧ i1.zero = some (.int .i64 0) ∧ i1.size = 1 ∧ i1.bytes = 8 := ⟨(Try.prog.info? 3).get (by kernel_rfl), (Option.some_get _).symm, by kernel_rfl, by kernel_rfl, by kernel_rfl⟩
  exact least2_walk B1 w c0 c1 c2 c3 c4 c5 c6 c7 c8 c9 c10 c11 i0 hi hz0 hz1 hz2 i1 hj hj0 hj1 hj2
    (hidden fun w => middle_any 0 0 w (by decide) (by decide) (by decide) (by decide)) (hidden fun w => middle_any 5000 5000 w (by decide) (by decide) (by decide) (by decide)) (hidden fun w => middle_any 5400000 5400000 w (by decide) (by decide) (by decide) (by decide)) (hidden fun w => middle_any 3000 3000 w (by decide) (by decide) (by decide) (by decide))
    (hidden fun w => lat_any 0 w) (hidden fun w => lat_any 5400000 w) (hidden fun w => lat_any 3000 w) (hidden fun w => lat_any 5000 w)
    (hidden sin_0) (hidden cos_0) (hidden sin_q) (hidden cos_q)
    (hidden fun w => (lfloor_any 0 131072 w (by decide) (by decide) (by decide) (by decide)).mono fun e w' h => ⟨h.1, h.2 ▸ Below.refl _ _⟩) (hidden fun w => (lfloor_any 1073741824 131072 w (by decide) (by decide) (by decide) (by decide)).mono fun e w' h => ⟨h.1, h.2 ▸ Below.refl _ _⟩)
    (hidden quot_x) (hidden quot_y) (hidden fun w => withinE_any 3000 3000 w) (hidden fun w => withinE_any 5000 5000 w)
    (hidden fun w => lfloor_any 40960000 8192 w (by decide) (by decide) (by decide) (by decide)) (hidden fun w => lfloor_any 24576000 8192 w (by decide) (by decide) (by decide) (by decide))
    (hidden fun w => (lfloor_any 3221225472000 1073741824 w (by decide) (by decide) (by decide) (by decide)).mono fun e w' h => ⟨h.1, h.2 ▸ Below.refl _ _⟩) (hidden fun w => (signed_any 3000 w (by decide) (by decide)).mono fun e w' h => ⟨h.1, h.2 ▸ Below.refl _ _⟩)

theorem awake37_is (w : World) : Calls Try.prog 6 #[] w fun e w' => e = .returned (.bool true) ∧ Below w.heap.size w w' :=
  awake37_walk w (hidden ex_cross) (hidden ex_least) (hidden ex_move)

end Go.Proofs.Ytjceofmhodcefaa
