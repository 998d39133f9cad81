/- The statement TopDrifts, proved: for every input the law returns true; each argument reads behind the call as it read before. The walk is drifts_all of YtdhbeoahpfimbaaGreatTopD. -/
import Derived.Test.YtdhbeoahpfimbaaGreatRows
import Derived.Test.YtdhbeoahpfimbaaGreatTopD
import Derived.WalkKit
import Derived.ProofKit
import Derived.OpenShut
import Derived.Lib.SmallJoins
namespace Go.Proofs.YtdhbeoahpfimbaaGreat.topDrifts
open Go.Proofs.YtdhbeoahpfimbaaGreat
open Go.ChangeShapes Go.WideShapes Go.ChangeAt Go.RowKit Go.Joins Go.Deep
theorem own : ownKnob Tryz.prog.godebug = none := by kernel_rfl
theorem cells3 : Tryz.prog.cellsOf 3 = 1 := by kernel_rfl
theorem cells23 : Tryz.prog.cellsOf 23 = 2 := by kernel_rfl
theorem cells25 : Tryz.prog.cellsOf 25 = 4 := by kernel_rfl
theorem cells27 : Tryz.prog.cellsOf 27 = 4 := by kernel_rfl
section
variable {H : Type} {enc : TypeId × Value → H} {W : World} {base : Nat} {sp : Nat → Bool} {held : Bool}
theorem list2 {cs : List Value} (h : cs.length = 2) : ∃ c0 c1, cs = [c0, c1] := by
  match cs, h with
  | [c0, c1], _ => exact ⟨c0, c1, rfl⟩
theorem list4 {cs : List Value} (h : cs.length = 4) : ∃ c0 c1 c2 c3, cs = [c0, c1, c2, c3] := by
  match cs, h with
  | [c0, c1, c2, c3], _ => exact ⟨c0, c1, c2, c3, rfl⟩
theorem read23 {fuel : Nat} {cs : List Value} {x : DataW H × List MemPlace} (h : DataW.trod enc Tryz.prog W base sp held fuel 23 cs = some x) : ∃ a0 a1 : Int, cs = [.int .i64 a0, .int .i64 a1] ∧ x = (.agg [.lit (.int .i64 a0), .lit (.int .i64 a1)], []) ∧ (Lit.int .i64 a0).wf = true ∧ (Lit.int .i64 a1).wf = true := by
  obtain ⟨y0, y1, n, hx, hl, h0, h1⟩ := trod_struct2 Tryz.underlying23 h
  rw [cells23] at hl
  simp only [cells3] at h0 h1
  obtain ⟨c0, c1, rfl⟩ := list2 hl
  obtain ⟨a0, e0, rfl, wa0⟩ := DataW.trod_int Tryz.underlying3 h0
  obtain ⟨a1, e1, rfl, wa1⟩ := DataW.trod_int Tryz.underlying3 h1
  simp at e0 e1
  subst e0
  subst e1
  exact ⟨a0, a1, rfl, by rw [hx]; rfl, wa0, wa1⟩
theorem back23 {a0 a1 : Int} (wa0 : (Lit.int .i64 a0).wf = true) (wa1 : (Lit.int .i64 a1).wf = true) : DataW.trod enc Tryz.prog W base sp held 4 23 [.int .i64 a0, .int .i64 a1] = some (.agg [.lit (.int .i64 a0), .lit (.int .i64 a1)], []) := by
  simp [DataW.trod, Tryz.underlying3, Tryz.underlying23, cells3, cells23, wa0, wa1]
theorem read25 {fuel : Nat} {cs : List Value} {x : DataW H × List MemPlace} (h : DataW.trod enc Tryz.prog W base sp held fuel 25 cs = some x) : ∃ a0 a1 a2 a3 : Int, cs = [.int .i64 a0, .int .i64 a1, .int .i64 a2, .int .i64 a3] ∧ x = (.agg [.agg [.lit (.int .i64 a0), .lit (.int .i64 a1)], .agg [.lit (.int .i64 a2), .lit (.int .i64 a3)]], []) ∧ (Lit.int .i64 a0).wf = true ∧ (Lit.int .i64 a1).wf = true ∧ (Lit.int .i64 a2).wf = true ∧ (Lit.int .i64 a3).wf = true := by
  obtain ⟨y0, y1, n, hx, hl, h0, h1⟩ := trod_struct2 Tryz.underlying25 h
  rw [cells25] at hl
  simp only [cells23] at h0 h1
  obtain ⟨c0, c1, c2, c3, rfl⟩ := list4 hl
  obtain ⟨a0, a1, e0, rfl, wa0, wa1⟩ := read23 h0
  obtain ⟨a2, a3, e1, rfl, wa2, wa3⟩ := read23 h1
  simp at e0 e1
  obtain ⟨rfl, rfl⟩ := e0
  obtain ⟨rfl, rfl⟩ := e1
  exact ⟨a0, a1, a2, a3, rfl, by rw [hx]; rfl, wa0, wa1, wa2, wa3⟩
theorem back25 {a0 a1 a2 a3 : Int} (wa0 : (Lit.int .i64 a0).wf = true) (wa1 : (Lit.int .i64 a1).wf = true) (wa2 : (Lit.int .i64 a2).wf = true) (wa3 : (Lit.int .i64 a3).wf = true) : DataW.trod enc Tryz.prog W base sp held 4 25 [.int .i64 a0, .int .i64 a1, .int .i64 a2, .int .i64 a3] = some (.agg [.agg [.lit (.int .i64 a0), .lit (.int .i64 a1)], .agg [.lit (.int .i64 a2), .lit (.int .i64 a3)]], []) := by
  simp [DataW.trod, Tryz.underlying3, Tryz.underlying23, Tryz.underlying25, cells3, cells23, cells25, wa0, wa1, wa2, wa3]
theorem read27 {fuel : Nat} {cs : List Value} {x : DataW H × List MemPlace} (h : DataW.trod enc Tryz.prog W base sp held fuel 27 cs = some x) : ∃ a0 a1 a2 a3 : Int, cs = [.int .i64 a0, .int .i64 a1, .int .i64 a2, .int .i64 a3] ∧ x = (.agg [.agg [.lit (.int .i64 a0), .lit (.int .i64 a1)], .agg [.lit (.int .i64 a2), .lit (.int .i64 a3)]], []) ∧ (Lit.int .i64 a0).wf = true ∧ (Lit.int .i64 a1).wf = true ∧ (Lit.int .i64 a2).wf = true ∧ (Lit.int .i64 a3).wf = true := by
  obtain ⟨y0, y1, n, hx, hl, h0, h1⟩ := trod_struct2 Tryz.underlying27 h
  rw [cells27] at hl
  simp only [cells23] at h0 h1
  obtain ⟨c0, c1, c2, c3, rfl⟩ := list4 hl
  obtain ⟨a0, a1, e0, rfl, wa0, wa1⟩ := read23 h0
  obtain ⟨a2, a3, e1, rfl, wa2, wa3⟩ := read23 h1
  simp at e0 e1
  obtain ⟨rfl, rfl⟩ := e0
  obtain ⟨rfl, rfl⟩ := e1
  exact ⟨a0, a1, a2, a3, rfl, by rw [hx]; rfl, wa0, wa1, wa2, wa3⟩
theorem back27 {a0 a1 a2 a3 : Int} (wa0 : (Lit.int .i64 a0).wf = true) (wa1 : (Lit.int .i64 a1).wf = true) (wa2 : (Lit.int .i64 a2).wf = true) (wa3 : (Lit.int .i64 a3).wf = true) : DataW.trod enc Tryz.prog W base sp held 4 27 [.int .i64 a0, .int .i64 a1, .int .i64 a2, .int .i64 a3] = some (.agg [.agg [.lit (.int .i64 a0), .lit (.int .i64 a1)], .agg [.lit (.int .i64 a2), .lit (.int .i64 a3)]], []) := by
  simp [DataW.trod, Tryz.underlying3, Tryz.underlying23, Tryz.underlying27, cells3, cells23, cells27, wa0, wa1, wa2, wa3]
end
set_option maxRecDepth 100000 in
theorem lifted (os : Os) (started : os.Started) (H : Type) (enc : TypeId × Value → H) :
    ReturnsInHanded {} Tryz.checked os 3 .any (Rows.topDriftsSpec.pre6 enc Tryz.prog Tryz.f3 Rows.topDriftsRow.domain false) (Rows.topDriftsSpec.post enc Tryz.prog Tryz.f3 false true false false) := by
  refine returnsInHanded_of_change (C := Tryz.checked) own started (by kernel_rfl) Tryz.func3
    (ChangeSpec.witness6 (enc := enc) (C := Tryz.checked) false ⟨#[], #[.agg #[.int .i64 0, .int .i64 0, .int .i64 0, .int .i64 0], .agg #[.int .i64 0, .int .i64 0, .int .i64 0, .int .i64 0]], []⟩ 8 (by kernel_rfl) (by kernel_rfl) (by kernel_rfl) (by kernel_rfl)) ?_
  intro W base args ds gs before hval0 hW hcnd _
  have hval : ∀ (j : Nat) t v, Tryz.f3.params[j]? = some t → args[j]? = some v → Value.okWide Tryz.prog W .any base t v := hval0
  have hW' := hW
  obtain ⟨p, q, hA0, hV, rfl, hfz, hnd⟩ := hW
  have hA : DataW.TrodAll enc Tryz.prog W 0 (fun _ => true) true Tryz.f3.params.toList args.toList ds p := hA0
  rw [Tryz.params3] at hA hval
  obtain ⟨v0, vs0, d0, ds0, p0, q0, hargs, rfl, rfl, h0, r0⟩ := trodAll_cons hA
  obtain ⟨v1, vs1, d1, ds1, p1, q1, rfl, rfl, rfl, h1, r1⟩ := trodAll_cons r0
  obtain ⟨rfl, rfl, rfl⟩ := trodAll_nil r1
  obtain rfl : args = #[v0, v1] := by cases args; simp_all
  obtain ⟨rfl, rfl⟩ := trodVars_none hV
  obtain ⟨cs0, rfl, z0⟩ := okWide_struct Tryz.underlying25 (hval 0 25 v0 rfl rfl)
  obtain ⟨fuel0, t0⟩ := h0
  obtain ⟨a0_0, a0_1, a0_2, a0_3, e0, x0, w0_0, w0_1, w0_2, w0_3⟩ := read25 t0
  simp only [Prod.mk.injEq] at x0
  obtain ⟨rfl, rfl⟩ := x0
  obtain rfl : cs0 = #[.int .i64 a0_0, .int .i64 a0_1, .int .i64 a0_2, .int .i64 a0_3] := by apply Array.ext'; simpa [Value.cells] using e0
  obtain ⟨cs1, rfl, z1⟩ := okWide_struct Tryz.underlying27 (hval 1 27 v1 rfl rfl)
  obtain ⟨fuel1, t1⟩ := h1
  obtain ⟨a1_0, a1_1, a1_2, a1_3, e1, x1, w1_0, w1_1, w1_2, w1_3⟩ := read27 t1
  simp only [Prod.mk.injEq] at x1
  obtain ⟨rfl, rfl⟩ := x1
  obtain rfl : cs1 = #[.int .i64 a1_0, .int .i64 a1_1, .int .i64 a1_2, .int .i64 a1_3] := by apply Array.ext'; simpa [Value.cells] using e1
  clear hA0 hval0
  simp only [List.append_nil] at hW'
  refine (drifts_all a0_0 a0_1 a0_2 a0_3 a1_0 a1_1 a1_2 a1_3 W (bounds_i64 w0_0) (bounds_i64 w0_1) (bounds_i64 w0_2) (bounds_i64 w0_3) (bounds_i64 w1_0) (bounds_i64 w1_1) (bounds_i64 w1_2) (bounds_i64 w1_3)).mono fun e W' ⟨he, hg⟩ => ?_
  subst he
  have s0 : ∀ sp : Nat → Bool, DataW.Trod enc Tryz.prog W' 0 sp true 25 (.agg #[.int .i64 a0_0, .int .i64 a0_1, .int .i64 a0_2, .int .i64 a0_3]) (.agg [.agg [.lit (.int .i64 a0_0), .lit (.int .i64 a0_1)], .agg [.lit (.int .i64 a0_2), .lit (.int .i64 a0_3)]]) [] := fun sp =>
    ⟨4, by simpa [Value.cells] using back25 w0_0 w0_1 w0_2 w0_3⟩
  have s1 : ∀ sp : Nat → Bool, DataW.Trod enc Tryz.prog W' 0 sp true 27 (.agg #[.int .i64 a1_0, .int .i64 a1_1, .int .i64 a1_2, .int .i64 a1_3]) (.agg [.agg [.lit (.int .i64 a1_0), .lit (.int .i64 a1_1)], .agg [.lit (.int .i64 a1_2), .lit (.int .i64 a1_3)]]) [] := fun sp =>
    ⟨4, by simpa [Value.cells] using back27 w1_0 w1_1 w1_2 w1_3⟩
  exact ⟨_, rfl, _, _, _, [], _, [], hW', (trodAll_cons_mk (shut_bool Tryz.underlying4 _) trodAll_mk0), (let sp := (fun b => decide (b < W.heap.size)); (trodAll_cons_mk (s0 sp) (trodAll_cons_mk (s1 sp) trodAll_mk0))), rfl, hg.frame _, fun h => by cases h⟩
theorem over : Rows.topDriftsRow.holds Tryz.pinned (OpenSpec.ofChange Rows.topDriftsSpec) :=
  OpenClaim.holds_of_wide 3 Tryz.f3 rfl rfl rfl rfl rfl rfl rfl ⟨rfl, rfl, rfl, rfl, rfl⟩ rfl rfl rfl rfl rfl (by kernel_rfl) Tryz.func3 (by kernel_rfl)
    (of_decide_eq_true (by kernel_rfl)) (by unfold Func.isWrapper; first | (rw [if_pos (by decide +kernel)]; kernel_rfl) | (rw [if_neg (by decide +kernel)]; exact ⟨rfl, rfl⟩))
    (fun os started H enc _ => lifted os started H enc)
theorem proved : Rows.TopDriftsSaid := over
#print axioms proved
end Go.Proofs.YtdhbeoahpfimbaaGreat.topDrifts
