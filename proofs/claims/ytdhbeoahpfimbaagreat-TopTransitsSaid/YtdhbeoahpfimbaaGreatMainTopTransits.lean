/- The statement TopTransits, proved: for every input the law returns true; each argument reads behind the call as it read before. The walk is transits_all of YtdhbeoahpfimbaaGreatTrz. -/
import Derived.Test.YtdhbeoahpfimbaaGreatRows
import Derived.Test.YtdhbeoahpfimbaaGreatTrz
import Derived.WalkKit
import Derived.ProofKit
import Derived.OpenShut
import Derived.Lib.SmallJoins
import Derived.Deep.Slices
import Derived.Carry
namespace Go.Proofs.YtdhbeoahpfimbaaGreat.topTransits
open Go.Proofs.YtdhbeoahpfimbaaGreat
open Go.ChangeShapes Go.WideShapes Go.ChangeAt Go.RowKit Go.Joins Go.Deep
theorem laidOut : laidOutB Tryz.prog = true := by kernel_rfl
theorem own : ownKnob Tryz.prog.godebug = none := by kernel_rfl
theorem cells3 : Tryz.prog.cellsOf 3 = 1 := by kernel_rfl
theorem cells9 : Tryz.prog.cellsOf 9 = 1 := by kernel_rfl
theorem cells77 : Tryz.prog.cellsOf 77 = 4 := by kernel_rfl
section
variable {H : Type} {enc : TypeId × Value → H} {W : World} {base : Nat} {sp : Nat → Bool} {held : Bool}
theorem list4 {cs : List Value} (h : cs.length = 4) : ∃ c0 c1 c2 c3, cs = [c0, c1, c2, c3] := by
  match cs, h with
  | [c0, c1, c2, c3], _ => exact ⟨c0, c1, c2, c3, rfl⟩
theorem read77 {fuel : Nat} {cs : List Value} {x : DataW H × List MemPlace} (h : DataW.trod enc Tryz.prog W base sp held fuel 77 cs = some x) : ∃ (a0 : ByteArray) (a1 : Int) (a2 : Int) (a3 : Int), cs = [.string a0, .int .i64 a1, .int .i64 a2, .int .i64 a3] ∧ x = (.agg [.lit (.string a0.data.toList), .lit (.int .i64 a1), .lit (.int .i64 a2), .lit (.int .i64 a3)], []) ∧ a0.size ≤ maxLen ∧ (Lit.int .i64 a1).wf = true ∧ (Lit.int .i64 a2).wf = true ∧ (Lit.int .i64 a3).wf = true := by
  obtain ⟨y0, y1, y2, y3, n, hx, hl, h0, h1, h2, h3⟩ := trod_struct4 Tryz.underlying77 h
  rw [cells77] at hl
  simp only [cells3, cells9] at h0 h1 h2 h3
  obtain ⟨c0, c1, c2, c3, rfl⟩ := list4 hl
  obtain ⟨a0, e0, rfl, wa0⟩ := DataW.trod_string Tryz.underlying9 h0
  obtain ⟨a1, e1, rfl, wa1⟩ := DataW.trod_int Tryz.underlying3 h1
  obtain ⟨a2, e2, rfl, wa2⟩ := DataW.trod_int Tryz.underlying3 h2
  obtain ⟨a3, e3, rfl, wa3⟩ := DataW.trod_int Tryz.underlying3 h3
  simp at e0 e1 e2 e3
  subst e0
  subst e1
  subst e2
  subst e3
  exact ⟨a0, a1, a2, a3, rfl, by rw [hx]; rfl, wa0, wa1, wa2, wa3⟩
theorem rows71 {fuel : Nat} {a : Option Addr} {n c : Nat} {x : DataW H × List MemPlace} (h : DataW.trod enc Tryz.prog W base sp held fuel 71 [.slice a n c] = some x) :
    n = 0 ∨ ∃ (B oo : Nat) (nm : Nat → ByteArray) (f : Nat → Nat → Int), a = some ⟨B, oo, none⟩ ∧ ∀ i, i < n → W.cell? ⟨B, oo + i * 4, none⟩ = some (.string (nm i)) ∧ W.cell? ⟨B, oo + i * 4 + 1, none⟩ = some (.int .i64 (f i 0)) ∧ W.cell? ⟨B, oo + i * 4 + 2, none⟩ = some (.int .i64 (f i 1)) ∧ W.cell? ⟨B, oo + i * 4 + 3, none⟩ = some (.int .i64 (f i 2)) := by
  rcases open_slice Tryz.underlying71 h with ⟨h0, _⟩ | ⟨a', len, cap, m, nf, D, Pl, h0, hb, hl, hm, hmm, _, hx⟩
  · simp at h0; exact .inl h0.2.1
  · simp only [List.cons.injEq, Value.slice.injEq, and_true] at h0
    obtain ⟨rfl, rfl, rfl⟩ := h0
    rcases Nat.eq_zero_or_pos n with hn | hn
    · exact .inl hn
    refine .inr ?_
    have hlm : n ≤ m := by rw [hmm]; split <;> omega
    have each : ∀ i, i < n → ∃ q : ByteArray × (Nat → Int), W.cell? (a'.add (i * 4 + 0)) = some (.string q.1) ∧ W.cell? (a'.add (i * 4 + 1)) = some (.int .i64 (q.2 0)) ∧ W.cell? (a'.add (i * 4 + 2)) = some (.int .i64 (q.2 1)) ∧ W.cell? (a'.add (i * 4 + 3)) = some (.int .i64 (q.2 2)) := by
      intro i hi
      obtain ⟨cs', g1, g2⟩ := hx i (by omega)
      rw [cells77] at g1
      obtain ⟨_, _, hc⟩ := World.cells?_some g1
      obtain ⟨a0, a1, a2, a3, rfl, _⟩ := read77 g2
      exact ⟨(a0, fun j => match j with | 0 => a1 | 1 => a2 | _ => a3), (by have := hc 0 (by omega); rw [add_add] at this; rw [this]; rfl), (by have := hc 1 (by omega); rw [add_add] at this; rw [this]; rfl), (by have := hc 2 (by omega); rw [add_add] at this; rw [this]; rfl), (by have := hc 3 (by omega); rw [add_add] at this; rw [this]; rfl)⟩
    obtain ⟨F, hF⟩ := choose_lt each
    obtain ⟨B, oo, spot⟩ := a'
    have g0 := (hF 0 hn).1
    have hspot : spot = none := by simpa [Addr.add] using World.cell?_spot g0
    subst hspot
    refine ⟨B, oo, fun i => (F i).1, fun i => (F i).2, rfl, fun i hi => ?_⟩
    have h := hF i hi
    simp only [add_plain] at h
    simpa [Nat.add_assoc] using h
end
set_option maxRecDepth 100000 in
theorem lifted (os : Os) (started : os.Started) (H : Type) (enc : TypeId × Value → H) :
    ReturnsInHanded {} Tryz.checked os 5 .any (Rows.topTransitsSpec.pre6 enc Tryz.prog Tryz.f5 Rows.topTransitsRow.domain false) (Rows.topTransitsSpec.post enc Tryz.prog Tryz.f5 false true false false) := by
  refine returnsInHanded_of_change (C := Tryz.checked) own started (by kernel_rfl) Tryz.func5
    (ChangeSpec.witness6 (enc := enc) (C := Tryz.checked) false ⟨#[], #[.slice none 0 0, .int .u8 0, .int .i64 0, .int .i64 0], []⟩ 8 (by kernel_rfl) (by kernel_rfl) (by kernel_rfl) (by kernel_rfl)) ?_
  intro W base args ds gs before hval0 hW hcnd _
  have hval : ∀ (j : Nat) t v, Tryz.f5.params[j]? = some t → args[j]? = some v → Value.okWide Tryz.prog W .any base t v := hval0
  have hW' := hW
  obtain ⟨p, q, hA0, hV, rfl, hfz, hnd⟩ := hW
  have hA : DataW.TrodAll enc Tryz.prog W 0 (fun _ => true) true Tryz.f5.params.toList args.toList ds p := hA0
  rw [Tryz.params5] at hA hval
  obtain ⟨v0, vs0, d0, ds0, p0, q0, hargs, rfl, rfl, h0, r0⟩ := trodAll_cons hA
  obtain ⟨v1, vs1, d1, ds1, p1, q1, rfl, rfl, rfl, h1, r1⟩ := trodAll_cons r0
  obtain ⟨v2, vs2, d2, ds2, p2, q2, rfl, rfl, rfl, h2, r2⟩ := trodAll_cons r1
  obtain ⟨v3, vs3, d3, ds3, p3, q3, rfl, rfl, rfl, h3, r3⟩ := trodAll_cons r2
  obtain ⟨rfl, rfl, rfl⟩ := trodAll_nil r3
  obtain rfl : args = #[v0, v1, v2, v3] := by cases args; simp_all
  obtain ⟨rfl, rfl⟩ := trodVars_none hV
  have h0k := h0
  obtain ⟨a0, n0, c0, rfl⟩ := okWide_slice Tryz.underlying71 (hval 0 71 v0 rfl rfl)
  obtain ⟨fuel0, t0⟩ := h0
  have rw0 := rows71 (a := a0) (n := n0) (c := c0) (by simpa [Value.cells] using t0)
  have hlt0 : ∀ x ∈ p0, x.block < W.heap.size := fun x hx => hW'.lt x (by simp [hx])
  obtain ⟨a1, rfl, rfl, rfl, w1⟩ := open_int Tryz.underlying5 (hval 1 5 v1 rfl rfl) h1
  obtain ⟨a2, rfl, rfl, rfl, w2⟩ := open_int Tryz.underlying3 (hval 2 3 v2 rfl rfl) h2
  obtain ⟨a3, rfl, rfl, rfl, w3⟩ := open_int Tryz.underlying3 (hval 3 3 v3 rfl rfl) h3
  clear hA0 hval0
  simp only [List.append_nil] at hW'
  refine (transits_all a0 n0 c0 a1 a2 a3 W rw0 (bounds_u8 w1) (bounds_i64 w2) (bounds_i64 w3)).mono fun e W' ⟨he, hg⟩ => ?_
  subst he
  exact ⟨_, rfl, _, _, _, [], _, [], hW', (trodAll_cons_mk (shut_bool Tryz.underlying4 _) trodAll_mk0), (let sp := (fun b => decide (b < W.heap.size)); (trodAll_cons_mk (Below.trod laidOut (by kernel_rfl) (of_decide_eq_true (by kernel_rfl)) h0k hg (fun x hx => by simpa using hlt0 x hx)) (trodAll_cons_mk (shut_int Tryz.underlying5 w1) (trodAll_cons_mk (shut_int Tryz.underlying3 w2) (trodAll_cons_mk (shut_int Tryz.underlying3 w3) trodAll_mk0))))), rfl, hg.frame _, fun h => by cases h⟩
theorem unf : Tryz.prog.unfollowed 5 = true := by kernel_rfl
theorem inP : Tryz.prog.inPlace 5 = Rows.topTransitsRow.inPlace := by kernel_rfl
theorem nam : Tryz.prog.varsNamed 5 = Rows.topTransitsRow.named := by kernel_rfl
theorem rec : Tryz.prog.recurses 5 = true := by unfold Program.recurses; rw [unf]; rfl
set_option maxHeartbeats 4000000 in
theorem closed : joinedFacts Tryz.prog 5 Tryz.f5 Rows.topTransitsSpec Rows.topTransitsRow = true := by
  unfold joinedFacts
  rw [unf, inP, nam, rec]
  simp only [Bool.and_eq_true]
  refine ⟨⟨⟨⟨⟨⟨⟨⟨⟨⟨⟨⟨⟨⟨⟨⟨⟨⟨⟨⟨⟨⟨⟨⟨⟨⟨⟨⟨⟨⟨⟨?_, ?_⟩, ?_⟩, ?_⟩, ?_⟩, ?_⟩, ?_⟩, ?_⟩, ?_⟩, ?_⟩, ?_⟩, ?_⟩, ?_⟩, ?_⟩, ?_⟩, ?_⟩, ?_⟩, ?_⟩, ?_⟩, ?_⟩, ?_⟩, ?_⟩, ?_⟩, ?_⟩, ?_⟩, ?_⟩, ?_⟩, ?_⟩, ?_⟩, ?_⟩, ?_⟩, ?_⟩
  all_goals (as_aux_lemma => kernel_rfl)
theorem over : Rows.topTransitsRow.holds Tryz.pinned (OpenSpec.ofChange Rows.topTransitsSpec) :=
  OpenClaim.holds_of_wide 5 Tryz.f5 rfl rfl rfl rfl rfl rfl rfl ⟨rfl, rfl, rfl, rfl, rfl⟩ rfl rfl rfl rfl rfl (by kernel_rfl) Tryz.func5 closed
    (of_decide_eq_true (by kernel_rfl)) (by unfold Func.isWrapper; first | (rw [if_pos (by decide +kernel)]; kernel_rfl) | (rw [if_neg (by decide +kernel)]; exact ⟨rfl, rfl⟩))
    (fun os started H enc _ => lifted os started H enc)
theorem proved : Rows.TopTransitsSaid := over
#print axioms proved
end Go.Proofs.YtdhbeoahpfimbaaGreat.topTransits
