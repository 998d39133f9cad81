/- The statement LinesForms, proved: for every input the law returns true; each argument reads behind the call as it read before. The walk is forms_walk of YtjceofmhodcefaaLinE. -/
import Derived.Test.YtjceofmhodcefaaRows
import Derived.Test.YtjceofmhodcefaaLinE
import Derived.WalkKit
import Derived.ProofKit
import Derived.OpenShut
import Derived.Lib.SmallJoins
namespace Go.Proofs.Ytjceofmhodcefaa.linesForms
open Go.Proofs.Ytjceofmhodcefaa
open Go.ChangeShapes Go.WideShapes Go.ChangeAt Go.RowKit Go.Joins Go.Deep
theorem own : ownKnob Try.prog.godebug = none := by kernel_rfl
theorem cells3 : Try.prog.cellsOf 3 = 1 := by kernel_rfl
theorem cells23 : Try.prog.cellsOf 23 = 2 := by kernel_rfl
theorem cells25 : Try.prog.cellsOf 25 = 2 := by kernel_rfl
theorem cells27 : Try.prog.cellsOf 27 = 6 := by kernel_rfl
theorem cells52 : Try.prog.cellsOf 52 = 4 := by kernel_rfl
section
variable {H : Type} {enc : TypeId × Value → H} {W : World} {base : Nat} {sp : Nat → Bool} {held : Bool}
theorem list2 {cs : List Value} (h : cs.length = 2) : ∃ c0 c1, cs = [c0, c1] := by
  match cs, h with
  | [c0, c1], _ => exact ⟨c0, c1, rfl⟩
theorem list4 {cs : List Value} (h : cs.length = 4) : ∃ c0 c1 c2 c3, cs = [c0, c1, c2, c3] := by
  match cs, h with
  | [c0, c1, c2, c3], _ => exact ⟨c0, c1, c2, c3, rfl⟩
theorem list6 {cs : List Value} (h : cs.length = 6) : ∃ c0 c1 c2 c3 c4 c5, cs = [c0, c1, c2, c3, c4, c5] := by
  match cs, h with
  | [c0, c1, c2, c3, c4, c5], _ => exact ⟨c0, c1, c2, c3, c4, c5, rfl⟩
theorem read25 {fuel : Nat} {cs : List Value} {x : DataW H × List MemPlace} (h : DataW.trod enc Try.prog W base sp held fuel 25 cs = some x) : ∃ a0 a1 : Int, cs = [.int .i64 a0, .int .i64 a1] ∧ x = (.agg [.lit (.int .i64 a0), .lit (.int .i64 a1)], []) ∧ (Lit.int .i64 a0).wf = true ∧ (Lit.int .i64 a1).wf = true := by
  obtain ⟨y0, y1, n, hx, hl, h0, h1⟩ := trod_struct2 Try.underlying25 h
  rw [cells25] at hl
  simp only [cells3] at h0 h1
  obtain ⟨c0, c1, rfl⟩ := list2 hl
  obtain ⟨a0, e0, rfl, wa0⟩ := DataW.trod_int Try.underlying3 h0
  obtain ⟨a1, e1, rfl, wa1⟩ := DataW.trod_int Try.underlying3 h1
  simp at e0 e1
  subst e0
  subst e1
  exact ⟨a0, a1, rfl, by rw [hx]; rfl, wa0, wa1⟩
theorem back25 {a0 a1 : Int} (wa0 : (Lit.int .i64 a0).wf = true) (wa1 : (Lit.int .i64 a1).wf = true) : DataW.trod enc Try.prog W base sp held 4 25 [.int .i64 a0, .int .i64 a1] = some (.agg [.lit (.int .i64 a0), .lit (.int .i64 a1)], []) := by
  simp [DataW.trod, Try.underlying3, Try.underlying25, cells3, cells25, wa0, wa1]
theorem read52 {fuel : Nat} {cs : List Value} {x : DataW H × List MemPlace} (h : DataW.trod enc Try.prog W base sp held fuel 52 cs = some x) : ∃ a0 a1 a2 a3 : Int, cs = [.int .i64 a0, .int .i64 a1, .int .i64 a2, .int .i64 a3] ∧ x = (.agg [.agg [.lit (.int .i64 a0), .lit (.int .i64 a1)], .agg [.lit (.int .i64 a2), .lit (.int .i64 a3)]], []) ∧ (Lit.int .i64 a0).wf = true ∧ (Lit.int .i64 a1).wf = true ∧ (Lit.int .i64 a2).wf = true ∧ (Lit.int .i64 a3).wf = true := by
  obtain ⟨y0, y1, n, hx, hl, h0, h1⟩ := trod_struct2 Try.underlying52 h
  rw [cells52] at hl
  simp only [cells25] at h0 h1
  obtain ⟨c0, c1, c2, c3, rfl⟩ := list4 hl
  obtain ⟨a0, a1, e0, rfl, wa0, wa1⟩ := read25 h0
  obtain ⟨a2, a3, e1, rfl, wa2, wa3⟩ := read25 h1
  simp at e0 e1
  obtain ⟨rfl, rfl⟩ := e0
  obtain ⟨rfl, rfl⟩ := e1
  exact ⟨a0, a1, a2, a3, rfl, by rw [hx]; rfl, wa0, wa1, wa2, wa3⟩
theorem back52 {a0 a1 a2 a3 : Int} (wa0 : (Lit.int .i64 a0).wf = true) (wa1 : (Lit.int .i64 a1).wf = true) (wa2 : (Lit.int .i64 a2).wf = true) (wa3 : (Lit.int .i64 a3).wf = true) : DataW.trod enc Try.prog W base sp held 4 52 [.int .i64 a0, .int .i64 a1, .int .i64 a2, .int .i64 a3] = some (.agg [.agg [.lit (.int .i64 a0), .lit (.int .i64 a1)], .agg [.lit (.int .i64 a2), .lit (.int .i64 a3)]], []) := by
  simp [DataW.trod, Try.underlying3, Try.underlying25, Try.underlying52, cells3, cells25, cells52, wa0, wa1, wa2, wa3]
theorem read23 {fuel : Nat} {cs : List Value} {x : DataW H × List MemPlace} (h : DataW.trod enc Try.prog W base sp held fuel 23 cs = some x) : ∃ a0 a1 : Int, cs = [.int .i64 a0, .int .i64 a1] ∧ x = (.agg [.lit (.int .i64 a0), .lit (.int .i64 a1)], []) ∧ (Lit.int .i64 a0).wf = true ∧ (Lit.int .i64 a1).wf = true := by
  obtain ⟨y0, y1, n, hx, hl, h0, h1⟩ := trod_struct2 Try.underlying23 h
  rw [cells23] at hl
  simp only [cells3] at h0 h1
  obtain ⟨c0, c1, rfl⟩ := list2 hl
  obtain ⟨a0, e0, rfl, wa0⟩ := DataW.trod_int Try.underlying3 h0
  obtain ⟨a1, e1, rfl, wa1⟩ := DataW.trod_int Try.underlying3 h1
  simp at e0 e1
  subst e0
  subst e1
  exact ⟨a0, a1, rfl, by rw [hx]; rfl, wa0, wa1⟩
theorem back23 {a0 a1 : Int} (wa0 : (Lit.int .i64 a0).wf = true) (wa1 : (Lit.int .i64 a1).wf = true) : DataW.trod enc Try.prog W base sp held 4 23 [.int .i64 a0, .int .i64 a1] = some (.agg [.lit (.int .i64 a0), .lit (.int .i64 a1)], []) := by
  simp [DataW.trod, Try.underlying3, Try.underlying23, cells3, cells23, wa0, wa1]
theorem read27 {fuel : Nat} {cs : List Value} {x : DataW H × List MemPlace} (h : DataW.trod enc Try.prog W base sp held fuel 27 cs = some x) : ∃ a0 a1 a2 a3 a4 a5 : Int, cs = [.int .i64 a0, .int .i64 a1, .int .i64 a2, .int .i64 a3, .int .i64 a4, .int .i64 a5] ∧ x = (.agg [.agg [.lit (.int .i64 a0), .lit (.int .i64 a1)], .agg [.lit (.int .i64 a2), .lit (.int .i64 a3)], .agg [.lit (.int .i64 a4), .lit (.int .i64 a5)]], []) ∧ (Lit.int .i64 a0).wf = true ∧ (Lit.int .i64 a1).wf = true ∧ (Lit.int .i64 a2).wf = true ∧ (Lit.int .i64 a3).wf = true ∧ (Lit.int .i64 a4).wf = true ∧ (Lit.int .i64 a5).wf = true := by
  obtain ⟨y0, y1, y2, n, hx, hl, h0, h1, h2⟩ := trod_struct3 Try.underlying27 h
  rw [cells27] at hl
  simp only [cells23, cells25] at h0 h1 h2
  obtain ⟨c0, c1, c2, c3, c4, c5, rfl⟩ := list6 hl
  obtain ⟨a0, a1, e0, rfl, wa0, wa1⟩ := read23 h0
  obtain ⟨a2, a3, e1, rfl, wa2, wa3⟩ := read25 h1
  obtain ⟨a4, a5, e2, rfl, wa4, wa5⟩ := read25 h2
  simp at e0 e1 e2
  obtain ⟨rfl, rfl⟩ := e0
  obtain ⟨rfl, rfl⟩ := e1
  obtain ⟨rfl, rfl⟩ := e2
  exact ⟨a0, a1, a2, a3, a4, a5, rfl, by rw [hx]; rfl, wa0, wa1, wa2, wa3, wa4, wa5⟩
theorem back27 {a0 a1 a2 a3 a4 a5 : Int} (wa0 : (Lit.int .i64 a0).wf = true) (wa1 : (Lit.int .i64 a1).wf = true) (wa2 : (Lit.int .i64 a2).wf = true) (wa3 : (Lit.int .i64 a3).wf = true) (wa4 : (Lit.int .i64 a4).wf = true) (wa5 : (Lit.int .i64 a5).wf = true) : DataW.trod enc Try.prog W base sp held 4 27 [.int .i64 a0, .int .i64 a1, .int .i64 a2, .int .i64 a3, .int .i64 a4, .int .i64 a5] = some (.agg [.agg [.lit (.int .i64 a0), .lit (.int .i64 a1)], .agg [.lit (.int .i64 a2), .lit (.int .i64 a3)], .agg [.lit (.int .i64 a4), .lit (.int .i64 a5)]], []) := by
  simp [DataW.trod, Try.underlying3, Try.underlying23, Try.underlying25, Try.underlying27, cells3, cells23, cells25, cells27, wa0, wa1, wa2, wa3, wa4, wa5]
end
set_option maxRecDepth 100000 in
theorem lifted (os : Os) (started : os.Started) (H : Type) (enc : TypeId × Value → H) :
    ReturnsInHanded {} Try.checked os 5 .any (Rows.linesFormsSpec.pre6 enc Try.prog Try.f5 Rows.linesFormsRow.domain false) (Rows.linesFormsSpec.post enc Try.prog Try.f5 false true false false) := by
  refine returnsInHanded_of_change (C := Try.checked) own started (by kernel_rfl) Try.func5
    (ChangeSpec.witness6 (enc := enc) (C := Try.checked) false ⟨#[], #[.agg #[.int .i64 0, .int .i64 0], .agg #[.int .i64 0, .int .i64 0, .int .i64 0, .int .i64 0], .agg #[.int .i64 0, .int .i64 0], .agg #[.int .i64 0, .int .i64 0, .int .i64 0, .int .i64 0, .int .i64 0, .int .i64 0]], []⟩ 8 (by kernel_rfl) (by kernel_rfl) (by kernel_rfl) (by kernel_rfl)) ?_
  intro W base args ds gs before hval0 hW hcnd _
  have hval : ∀ (j : Nat) t v, Try.f5.params[j]? = some t → args[j]? = some v → Value.okWide Try.prog W .any base t v := hval0
  have hW' := hW
  obtain ⟨p, q, hA0, hV, rfl, hfz, hnd⟩ := hW
  have hA : DataW.TrodAll enc Try.prog W 0 (fun _ => true) true Try.f5.params.toList args.toList ds p := hA0
  rw [Try.params5] at hA hval
  obtain ⟨v0, vs0, d0, ds0, p0, q0, hargs, rfl, rfl, h0, r0⟩ := trodAll_cons hA
  obtain ⟨v1, vs1, d1, ds1, p1, q1, rfl, rfl, rfl, h1, r1⟩ := trodAll_cons r0
  obtain ⟨v2, vs2, d2, ds2, p2, q2, rfl, rfl, rfl, h2, r2⟩ := trodAll_cons r1
  obtain ⟨v3, vs3, d3, ds3, p3, q3, rfl, rfl, rfl, h3, r3⟩ := trodAll_cons r2
  obtain ⟨rfl, rfl, rfl⟩ := trodAll_nil r3
  obtain rfl : args = #[v0, v1, v2, v3] := by cases args; simp_all
  obtain ⟨rfl, rfl⟩ := trodVars_none hV
  obtain ⟨c0_0, c0_1, y0_0, y0_1, m0, rfl, rfl, rfl, g0_0, g0_1⟩ := open_agg2 Try.underlying23 (by kernel_rfl) cells23 (hval 0 23 v0 rfl rfl) h0
  obtain ⟨a0_0, e0_0, rfl, w0_0⟩ := DataW.trod_int Try.underlying3 g0_0
  obtain ⟨a0_1, e0_1, rfl, w0_1⟩ := DataW.trod_int Try.underlying3 g0_1
  simp at e0_0 e0_1
  subst e0_0 e0_1
  obtain ⟨cs1, rfl, z1⟩ := okWide_struct Try.underlying52 (hval 1 52 v1 rfl rfl)
  obtain ⟨fuel1, t1⟩ := h1
  obtain ⟨a1_0, a1_1, a1_2, a1_3, e1, x1, w1_0, w1_1, w1_2, w1_3⟩ := read52 t1
  simp only [Prod.mk.injEq] at x1
  obtain ⟨rfl, rfl⟩ := x1
  obtain rfl : cs1 = #[.int .i64 a1_0, .int .i64 a1_1, .int .i64 a1_2, .int .i64 a1_3] := by apply Array.ext'; simpa [Value.cells] using e1
  obtain ⟨c2_0, c2_1, y2_0, y2_1, m2, rfl, rfl, rfl, g2_0, g2_1⟩ := open_agg2 Try.underlying25 (by kernel_rfl) cells25 (hval 2 25 v2 rfl rfl) h2
  obtain ⟨a2_0, e2_0, rfl, w2_0⟩ := DataW.trod_int Try.underlying3 g2_0
  obtain ⟨a2_1, e2_1, rfl, w2_1⟩ := DataW.trod_int Try.underlying3 g2_1
  simp at e2_0 e2_1
  subst e2_0 e2_1
  obtain ⟨cs3, rfl, z3⟩ := okWide_struct Try.underlying27 (hval 3 27 v3 rfl rfl)
  obtain ⟨fuel3, t3⟩ := h3
  obtain ⟨a3_0, a3_1, a3_2, a3_3, a3_4, a3_5, e3, x3, w3_0, w3_1, w3_2, w3_3, w3_4, w3_5⟩ := read27 t3
  simp only [Prod.mk.injEq] at x3
  obtain ⟨rfl, rfl⟩ := x3
  obtain rfl : cs3 = #[.int .i64 a3_0, .int .i64 a3_1, .int .i64 a3_2, .int .i64 a3_3, .int .i64 a3_4, .int .i64 a3_5] := by apply Array.ext'; simpa [Value.cells] using e3
  clear hA0 hval0
  simp only [List.append_nil] at hW'
  refine (forms_walk a0_0 a0_1 a1_0 a1_1 a1_2 a1_3 a2_0 a2_1 a3_0 a3_1 a3_2 a3_3 a3_4 a3_5 W (bounds_i64 w0_0) (bounds_i64 w0_1) (bounds_i64 w1_0) (bounds_i64 w1_1) (bounds_i64 w1_2) (bounds_i64 w1_3) (bounds_i64 w2_0) (bounds_i64 w2_1) (bounds_i64 w3_0) (bounds_i64 w3_1) (bounds_i64 w3_2) (bounds_i64 w3_3) (bounds_i64 w3_4) (bounds_i64 w3_5)).mono fun e W' ⟨he, hg⟩ => ?_
  subst he
  have s0 : ∀ sp : Nat → Bool, DataW.Trod enc Try.prog W' 0 sp true 23 (.agg #[.int .i64 a0_0, .int .i64 a0_1]) (.agg [.lit (.int .i64 a0_0), .lit (.int .i64 a0_1)]) [] := fun sp =>
    shut_agg2 (y0 := (.lit (.int .i64 a0_0), [])) (y1 := (.lit (.int .i64 a0_1), [])) Try.underlying23 (by kernel_rfl) cells23 ⟨1, by simp [DataW.trod, Try.underlying3, w0_0]⟩ ⟨1, by simp [DataW.trod, Try.underlying3, w0_1]⟩
  have s1 : ∀ sp : Nat → Bool, DataW.Trod enc Try.prog W' 0 sp true 52 (.agg #[.int .i64 a1_0, .int .i64 a1_1, .int .i64 a1_2, .int .i64 a1_3]) (.agg [.agg [.lit (.int .i64 a1_0), .lit (.int .i64 a1_1)], .agg [.lit (.int .i64 a1_2), .lit (.int .i64 a1_3)]]) [] := fun sp =>
    ⟨4, by simpa [Value.cells] using back52 w1_0 w1_1 w1_2 w1_3⟩
  have s2 : ∀ sp : Nat → Bool, DataW.Trod enc Try.prog W' 0 sp true 25 (.agg #[.int .i64 a2_0, .int .i64 a2_1]) (.agg [.lit (.int .i64 a2_0), .lit (.int .i64 a2_1)]) [] := fun sp =>
    shut_agg2 (y0 := (.lit (.int .i64 a2_0), [])) (y1 := (.lit (.int .i64 a2_1), [])) Try.underlying25 (by kernel_rfl) cells25 ⟨1, by simp [DataW.trod, Try.underlying3, w2_0]⟩ ⟨1, by simp [DataW.trod, Try.underlying3, w2_1]⟩
  have s3 : ∀ sp : Nat → Bool, DataW.Trod enc Try.prog W' 0 sp true 27 (.agg #[.int .i64 a3_0, .int .i64 a3_1, .int .i64 a3_2, .int .i64 a3_3, .int .i64 a3_4, .int .i64 a3_5]) (.agg [.agg [.lit (.int .i64 a3_0), .lit (.int .i64 a3_1)], .agg [.lit (.int .i64 a3_2), .lit (.int .i64 a3_3)], .agg [.lit (.int .i64 a3_4), .lit (.int .i64 a3_5)]]) [] := fun sp =>
    ⟨4, by simpa [Value.cells] using back27 w3_0 w3_1 w3_2 w3_3 w3_4 w3_5⟩
  exact ⟨_, rfl, _, _, _, [], [], [], hW', (trodAll_cons_mk (shut_bool Try.underlying4 _) trodAll_mk0), (let sp := (fun b => decide (b < W.heap.size)); (trodAll_cons_mk (s0 sp) (trodAll_cons_mk (s1 sp) (trodAll_cons_mk (s2 sp) (trodAll_cons_mk (s3 sp) trodAll_mk0))))), rfl, hg.frame _, fun h => by cases h⟩

theorem over : Rows.linesFormsRow.holds Try.pinned (OpenSpec.ofChange Rows.linesFormsSpec) :=
  OpenClaim.holds_of_wide 5 Try.f5 rfl rfl rfl rfl rfl rfl rfl ⟨rfl, rfl, rfl, rfl, rfl⟩ rfl rfl rfl rfl rfl (by kernel_rfl) Try.func5 (by kernel_rfl)
    (of_decide_eq_true (by kernel_rfl)) (by unfold Func.isWrapper; first | (rw [if_pos (by decide +kernel)]; kernel_rfl) | (rw [if_neg (by decide +kernel)]; exact ⟨rfl, rfl⟩))
    (fun os started H enc _ => lifted os started H enc)

theorem proved : Rows.LinesFormsSaid := over
#print axioms proved
end Go.Proofs.Ytjceofmhodcefaa.linesForms
