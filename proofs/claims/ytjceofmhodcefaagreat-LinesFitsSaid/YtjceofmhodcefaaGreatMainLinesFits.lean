/- The statement LinesFits, proved: for every input the law returns true; each argument reads behind the call as it read before. The walk is lfits_all of YtjceofmhodcefaaGreatLu. -/
import Derived.Test.YtjceofmhodcefaaGreatRows
import Derived.Test.YtjceofmhodcefaaGreatLu
import Derived.WalkKit
import Derived.ProofKit
import Derived.OpenShut
import Derived.Lib.SmallJoins
import Derived.Deep.Slices
import Derived.Carry
namespace Go.Proofs.YtjceofmhodcefaaGreat.linesFits
open Go.Proofs.YtjceofmhodcefaaGreat
open Go.ChangeShapes Go.WideShapes Go.ChangeAt Go.RowKit Go.Joins Go.Deep
theorem laidOut : laidOutB Tryz.prog = true := by kernel_rfl
theorem own : ownKnob Tryz.prog.godebug = none := by kernel_rfl
theorem cells3 : Tryz.prog.cellsOf 3 = 1 := by kernel_rfl
theorem cells25 : Tryz.prog.cellsOf 25 = 2 := by kernel_rfl
theorem cells35 : Tryz.prog.cellsOf 35 = 2 := by kernel_rfl
theorem cells38 : Tryz.prog.cellsOf 38 = 6 := by kernel_rfl
section
variable {H : Type} {enc : TypeId × Value → H} {W : World} {base : Nat} {sp : Nat → Bool} {held : Bool}
theorem list2 {cs : List Value} (h : cs.length = 2) : ∃ c0 c1, cs = [c0, c1] := by
  match cs, h with
  | [c0, c1], _ => exact ⟨c0, c1, rfl⟩
theorem list6 {cs : List Value} (h : cs.length = 6) : ∃ c0 c1 c2 c3 c4 c5, cs = [c0, c1, c2, c3, c4, c5] := by
  match cs, h with
  | [c0, c1, c2, c3, c4, c5], _ => exact ⟨c0, c1, c2, c3, c4, c5, rfl⟩
theorem read25 {fuel : Nat} {cs : List Value} {x : DataW H × List MemPlace} (h : DataW.trod enc Tryz.prog W base sp held fuel 25 cs = some x) : ∃ a0 a1 : Int, cs = [.int .i64 a0, .int .i64 a1] ∧ x = (.agg [.lit (.int .i64 a0), .lit (.int .i64 a1)], []) ∧ (Lit.int .i64 a0).wf = true ∧ (Lit.int .i64 a1).wf = true := by
  obtain ⟨y0, y1, n, hx, hl, h0, h1⟩ := trod_struct2 Tryz.underlying25 h
  rw [cells25] at hl
  simp only [cells3] at h0 h1
  obtain ⟨c0, c1, rfl⟩ := list2 hl
  obtain ⟨a0, e0, rfl, wa0⟩ := DataW.trod_int Tryz.underlying3 h0
  obtain ⟨a1, e1, rfl, wa1⟩ := DataW.trod_int Tryz.underlying3 h1
  simp at e0 e1
  subst e0
  subst e1
  exact ⟨a0, a1, rfl, by rw [hx]; rfl, wa0, wa1⟩
theorem back25 {a0 a1 : Int} (wa0 : (Lit.int .i64 a0).wf = true) (wa1 : (Lit.int .i64 a1).wf = true) : DataW.trod enc Tryz.prog W base sp held 4 25 [.int .i64 a0, .int .i64 a1] = some (.agg [.lit (.int .i64 a0), .lit (.int .i64 a1)], []) := by
  simp [DataW.trod, Tryz.underlying3, Tryz.underlying25, cells3, cells25, wa0, wa1]
theorem read35 {fuel : Nat} {cs : List Value} {x : DataW H × List MemPlace} (h : DataW.trod enc Tryz.prog W base sp held fuel 35 cs = some x) : ∃ a0 a1 : Int, cs = [.int .i64 a0, .int .i64 a1] ∧ x = (.agg [.lit (.int .i64 a0), .lit (.int .i64 a1)], []) ∧ (Lit.int .i64 a0).wf = true ∧ (Lit.int .i64 a1).wf = true := by
  obtain ⟨y0, y1, n, hx, hl, h0, h1⟩ := trod_struct2 Tryz.underlying35 h
  rw [cells35] at hl
  simp only [cells3] at h0 h1
  obtain ⟨c0, c1, rfl⟩ := list2 hl
  obtain ⟨a0, e0, rfl, wa0⟩ := DataW.trod_int Tryz.underlying3 h0
  obtain ⟨a1, e1, rfl, wa1⟩ := DataW.trod_int Tryz.underlying3 h1
  simp at e0 e1
  subst e0
  subst e1
  exact ⟨a0, a1, rfl, by rw [hx]; rfl, wa0, wa1⟩
theorem back35 {a0 a1 : Int} (wa0 : (Lit.int .i64 a0).wf = true) (wa1 : (Lit.int .i64 a1).wf = true) : DataW.trod enc Tryz.prog W base sp held 4 35 [.int .i64 a0, .int .i64 a1] = some (.agg [.lit (.int .i64 a0), .lit (.int .i64 a1)], []) := by
  simp [DataW.trod, Tryz.underlying3, Tryz.underlying35, cells3, cells35, wa0, wa1]
theorem read38 {fuel : Nat} {cs : List Value} {x : DataW H × List MemPlace} (h : DataW.trod enc Tryz.prog W base sp held fuel 38 cs = some x) : ∃ a0 a1 a2 a3 a4 a5 : Int, cs = [.int .i64 a0, .int .i64 a1, .int .i64 a2, .int .i64 a3, .int .i64 a4, .int .i64 a5] ∧ x = (.agg [.agg [.lit (.int .i64 a0), .lit (.int .i64 a1)], .agg [.lit (.int .i64 a2), .lit (.int .i64 a3)], .agg [.lit (.int .i64 a4), .lit (.int .i64 a5)]], []) ∧ (Lit.int .i64 a0).wf = true ∧ (Lit.int .i64 a1).wf = true ∧ (Lit.int .i64 a2).wf = true ∧ (Lit.int .i64 a3).wf = true ∧ (Lit.int .i64 a4).wf = true ∧ (Lit.int .i64 a5).wf = true := by
  obtain ⟨y0, y1, y2, n, hx, hl, h0, h1, h2⟩ := trod_struct3 Tryz.underlying38 h
  rw [cells38] at hl
  simp only [cells25, cells35] at h0 h1 h2
  obtain ⟨c0, c1, c2, c3, c4, c5, rfl⟩ := list6 hl
  obtain ⟨a0, a1, e0, rfl, wa0, wa1⟩ := read25 h0
  obtain ⟨a2, a3, e1, rfl, wa2, wa3⟩ := read35 h1
  obtain ⟨a4, a5, e2, rfl, wa4, wa5⟩ := read35 h2
  simp at e0 e1 e2
  obtain ⟨rfl, rfl⟩ := e0
  obtain ⟨rfl, rfl⟩ := e1
  obtain ⟨rfl, rfl⟩ := e2
  exact ⟨a0, a1, a2, a3, a4, a5, rfl, by rw [hx]; rfl, wa0, wa1, wa2, wa3, wa4, wa5⟩
theorem back38 {a0 a1 a2 a3 a4 a5 : Int} (wa0 : (Lit.int .i64 a0).wf = true) (wa1 : (Lit.int .i64 a1).wf = true) (wa2 : (Lit.int .i64 a2).wf = true) (wa3 : (Lit.int .i64 a3).wf = true) (wa4 : (Lit.int .i64 a4).wf = true) (wa5 : (Lit.int .i64 a5).wf = true) : DataW.trod enc Tryz.prog W base sp held 4 38 [.int .i64 a0, .int .i64 a1, .int .i64 a2, .int .i64 a3, .int .i64 a4, .int .i64 a5] = some (.agg [.agg [.lit (.int .i64 a0), .lit (.int .i64 a1)], .agg [.lit (.int .i64 a2), .lit (.int .i64 a3)], .agg [.lit (.int .i64 a4), .lit (.int .i64 a5)]], []) := by
  simp [DataW.trod, Tryz.underlying3, Tryz.underlying25, Tryz.underlying35, Tryz.underlying38, cells3, cells25, cells35, cells38, wa0, wa1, wa2, wa3, wa4, wa5]
theorem rows22 {fuel : Nat} {a : Option Addr} {n c : Nat} {x : DataW H × List MemPlace} (h : DataW.trod enc Tryz.prog W base sp held fuel 22 [.slice a n c] = some x) :
    n = 0 ∨ ∃ (B oo : Nat) (f : Nat → Nat → Int), a = some ⟨B, oo, none⟩ ∧ ∀ i j, i < n → j < 6 → W.cell? ⟨B, oo + i * 6 + j, none⟩ = some (.int .i64 (f i j)) := by
  rcases open_slice Tryz.underlying22 h with ⟨h0, _⟩ | ⟨a', len, cap, m, nf, D, Pl, h0, hb, hl, hm, hmm, _, hx⟩
  · simp at h0; exact .inl h0.2.1
  · simp only [List.cons.injEq, Value.slice.injEq, and_true] at h0
    obtain ⟨rfl, rfl, rfl⟩ := h0
    rcases Nat.eq_zero_or_pos n with hn | hn
    · exact .inl hn
    refine .inr ?_
    have hlm : n ≤ m := by rw [hmm]; split <;> omega
    have each : ∀ i, i < n → ∃ q : Nat → Int, ∀ j, j < 6 → W.cell? (a'.add (i * 6 + j)) = some (.int .i64 (q j)) := by
      intro i hi
      obtain ⟨cs', g1, g2⟩ := hx i (by omega)
      rw [cells38] at g1
      obtain ⟨_, _, hc⟩ := World.cells?_some g1
      obtain ⟨a0, a1, a2, a3, a4, a5, rfl, _⟩ := read38 g2
      refine ⟨fun j => match j with | 0 => a0 | 1 => a1 | 2 => a2 | 3 => a3 | 4 => a4 | _ => a5, fun j hj => ?_⟩
      have := hc j hj
      rw [add_add] at this
      rw [this]
      match j, hj with
      | 0, _ => rfl
      | 1, _ => rfl
      | 2, _ => rfl
      | 3, _ => rfl
      | 4, _ => rfl
      | 5, _ => rfl
    obtain ⟨f, hf⟩ := choose_lt each
    obtain ⟨B, oo, spot⟩ := a'
    have g0 := hf 0 hn 0 (by omega)
    have hspot : spot = none := by simpa [Addr.add] using World.cell?_spot g0
    subst hspot
    refine ⟨B, oo, f, rfl, fun i j hi hj => ?_⟩
    have := hf i hi j hj
    rw [add_plain] at this
    simpa [Nat.add_assoc] using this
end
set_option maxRecDepth 100000 in
theorem lifted (os : Os) (started : os.Started) (H : Type) (enc : TypeId × Value → H) :
    ReturnsInHanded {} Tryz.checked os 3 .any (Rows.linesFitsSpec.pre6 enc Tryz.prog Tryz.f3 Rows.linesFitsRow.domain false) (Rows.linesFitsSpec.post enc Tryz.prog Tryz.f3 false true false false) := by
  refine returnsInHanded_of_change (C := Tryz.checked) own started (by kernel_rfl) Tryz.func3
    (ChangeSpec.witness6 (enc := enc) (C := Tryz.checked) false ⟨#[], #[.slice none 0 0], []⟩ 8 (by kernel_rfl) (by kernel_rfl) (by kernel_rfl) (by kernel_rfl)) ?_
  intro W base args ds gs before hval0 hW hcnd _
  have hval : ∀ (j : Nat) t v, Tryz.f3.params[j]? = some t → args[j]? = some v → Value.okWide Tryz.prog W .any base t v := hval0
  have hW' := hW
  obtain ⟨p, q, hA0, hV, rfl, hfz, hnd⟩ := hW
  have hA : DataW.TrodAll enc Tryz.prog W 0 (fun _ => true) true Tryz.f3.params.toList args.toList ds p := hA0
  rw [Tryz.params3] at hA hval
  obtain ⟨v0, vs0, d0, ds0, p0, q0, hargs, rfl, rfl, h0, r0⟩ := trodAll_cons hA
  obtain ⟨rfl, rfl, rfl⟩ := trodAll_nil r0
  obtain rfl : args = #[v0] := by cases args; simp_all
  obtain ⟨rfl, rfl⟩ := trodVars_none hV
  have h0k := h0
  obtain ⟨a0, n0, c0, rfl⟩ := okWide_slice Tryz.underlying22 (hval 0 22 v0 rfl rfl)
  obtain ⟨fuel0, t0⟩ := h0
  have rw0 := rows22 (a := a0) (n := n0) (c := c0) (by simpa [Value.cells] using t0)
  have hlt0 : ∀ x ∈ p0, x.block < W.heap.size := fun x hx => hW'.lt x (by simp [hx])
  clear hA0 hval0
  simp only [List.append_nil] at hW'
  refine (lfits_all a0 n0 c0 W rw0).mono fun e W' ⟨he, hg⟩ => ?_
  subst he
  exact ⟨_, rfl, _, _, _, [], _, [], hW', (trodAll_cons_mk (shut_bool Tryz.underlying4 _) trodAll_mk0), (let sp := (fun b => decide (b < W.heap.size)); (trodAll_cons_mk (Below.trod laidOut (by kernel_rfl) (of_decide_eq_true (by kernel_rfl)) h0k hg (fun x hx => by simpa using hlt0 x hx)) trodAll_mk0)), rfl, hg.frame _, fun h => by cases h⟩

theorem over : Rows.linesFitsRow.holds Tryz.pinned (OpenSpec.ofChange Rows.linesFitsSpec) :=
  OpenClaim.holds_of_wide 3 Tryz.f3 rfl rfl rfl rfl rfl rfl rfl ⟨rfl, rfl, rfl, rfl, rfl⟩ rfl rfl rfl rfl rfl (by kernel_rfl) Tryz.func3 (by kernel_rfl)
    (of_decide_eq_true (by kernel_rfl)) (by unfold Func.isWrapper; first | (rw [if_pos (by decide +kernel)]; kernel_rfl) | (rw [if_neg (by decide +kernel)]; exact ⟨rfl, rfl⟩))
    (fun os started H enc _ => lifted os started H enc)

theorem proved : Rows.LinesFitsSaid := over
#print axioms proved
end Go.Proofs.YtjceofmhodcefaaGreat.linesFits
