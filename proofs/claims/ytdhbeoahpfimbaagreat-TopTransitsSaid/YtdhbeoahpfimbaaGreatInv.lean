/- A region that draws its order, shown by an invariant: each operation is shown once, whatever has come up before it. -/
import Derived.WalkKit
namespace Go.Proofs.YtdhbeoahpfimbaaGreat
open Go.RowKit
/-- If each operation that may come up keeps the invariant, and the invariant at the end gives what follows, the region is shown. -/
theorem wpAny_inv {P : Program} {md : Region.Mode} {ops : Array Oper} {Q : Exit → Act → World → Prop} (Inv : Array Bool → Act → World → Prop)
    (hdone : ∀ L a w, Inv L a w → Region.ready md ops L = [] → Q .normal a w)
    (hstep : ∀ L a w i, Inv L a w → L.getD i true = false → (∀ o, ops[i]? = some o → ∀ e ∈ o.after, Region.binds md e = true → L.getD e.on false = true) →
      wpOp P ops Q i (Inv (L.setIfInBounds i true)) a w) :
    ∀ (fuel : Nat) (L : Array Bool) (a : Act) (w : World), Inv L a w → L.toList.count false ≤ fuel → wpAny P md ops Q fuel L a w := by
  have hready : ∀ (L : Array Bool) (i : Nat), i ∈ Region.ready md ops L → L.getD i true = false ∧ (∀ o, ops[i]? = some o → ∀ e ∈ o.after, Region.binds md e = true → L.getD e.on false = true) := by
    intro L i hi
    unfold Region.ready at hi
    obtain ⟨_, h⟩ := List.mem_filter.1 hi
    simp only [Bool.and_eq_true, Bool.not_eq_true'] at h
    refine ⟨h.1, fun o ho e he hb => ?_⟩
    have h2 := h.2
    rw [ho] at h2
    simp only [Option.map_some, Option.getD_some] at h2
    have := Array.all_eq_true'.1 h2 e he
    rw [hb] at this
    simpa using this
  intro fuel
  induction fuel with
  | zero =>
    intro L a w h hc
    have hr : Region.ready md ops L = [] := by
      apply List.eq_nil_iff_forall_not_mem.2
      intro i hi
      have f := (hready L i hi).1
      have hm : false ∈ L.toList := by
        rw [Array.getD_eq_getD_getElem?] at f
        cases hg : L[i]? with
        | none => rw [hg] at f; cases f
        | some b =>
          rw [hg] at f
          simp at f
          subst f
          exact Array.mem_toList_iff.2 (Array.mem_of_getElem? hg)
      have := List.count_pos_iff.2 hm
      omega
    exact ⟨hr, hdone L a w h hr⟩
  | succ fuel ih =>
    intro L a w h hc
    refine ⟨hdone L a w h, fun i hi => ?_⟩
    have r := hready L i hi
    refine wpOp_mono (fun a' w' h' => ih _ a' w' h' ?_) (hstep L a w i h r.1 r.2)
    have f := r.1
    rw [Array.getD_eq_getD_getElem?] at f
    cases hg : L[i]? with
    | none => rw [hg] at f; cases f
    | some b =>
      rw [hg] at f
      simp at f
      subst f
      obtain ⟨hl, he⟩ := Array.getElem?_eq_some_iff.1 hg
      rw [Array.toList_setIfInBounds, List.count_set (by simpa using hl)]
      have e : L.toList[i]'(by simpa using hl) = false := by simpa using he
      rw [e, if_pos (by rfl), if_neg (by decide)]
      omega
/-- The steps of a region, each shown from the invariant; `k` is the number of the first of the operations that are left. -/
def StepsInv (P : Program) (md : Region.Mode) (ops : Array Oper) (Q : Exit → Act → World → Prop) (Inv : Array Bool → Act → World → Prop) (L : Array Bool) (a : Act) (w : World) : Nat → List Oper → Prop
  | _, [] => True
  | k, o :: rest => (L.getD k true = false → (∀ e ∈ o.after, Region.binds md e = true → L.getD e.on false = true) → ∀ K : Act → World → Prop, (∀ a w, Inv (L.setIfInBounds k true) a w → K a w) →
      if Region.wanted o (yielded ops a.tmps) = true then Oper.wp P o a w K Q else K (a.put o.dst undef) w) ∧ StepsInv P md ops Q Inv L a w (k + 1) rest
theorem stepsInv_at {P : Program} {md : Region.Mode} {ops : Array Oper} {Q : Exit → Act → World → Prop} {Inv : Array Bool → Act → World → Prop} {L : Array Bool} {a : Act} {w : World} :
    ∀ (l : List Oper) (k : Nat), StepsInv P md ops Q Inv L a w k l → ∀ j o, l[j]? = some o → L.getD (k + j) true = false → (∀ e ∈ o.after, Region.binds md e = true → L.getD e.on false = true) →
      ∀ K : Act → World → Prop, (∀ a w, Inv (L.setIfInBounds (k + j) true) a w → K a w) → if Region.wanted o (yielded ops a.tmps) = true then Oper.wp P o a w K Q else K (a.put o.dst undef) w := by
  intro l
  induction l with
  | nil => intro k _ j o h; simp at h
  | cons x rest ih =>
    intro k h j o hj
    cases j with
    | zero =>
      simp only [List.getElem?_cons_zero, Option.some.injEq] at hj
      subst hj
      exact h.1
    | succ j =>
      simp only [List.getElem?_cons_succ] at hj
      have := ih (k + 1) h.2 j o hj
      rw [show k + 1 + j = k + (j + 1) by omega] at this
      exact this
/-- Each operation waits only for such as stand ahead of it. -/
def aheadB (md : Region.Mode) : Nat → List Oper → Bool
  | _, [] => true
  | k, o :: rest => (o.after.all fun e => !Region.binds md e || decide (e.on < k)) && aheadB md (k + 1) rest
theorem aheadB_at {md : Region.Mode} : ∀ (l : List Oper) (k : Nat), aheadB md k l = true → ∀ j o, l[j]? = some o → ∀ e ∈ o.after, Region.binds md e = true → e.on < k + j := by
  intro l
  induction l with
  | nil => intro k _ j o h; simp at h
  | cons x rest ih =>
    intro k h j o hj e he hb
    simp only [aheadB, Bool.and_eq_true] at h
    cases j with
    | zero =>
      simp only [List.getElem?_cons_zero, Option.some.injEq] at hj
      subst hj
      have := Array.all_eq_true'.1 h.1 e he
      rw [hb] at this
      simpa using this
    | succ j =>
      simp only [List.getElem?_cons_succ] at hj
      have := ih (k + 1) h.2 j o hj e he hb
      omega
/-- Where nothing may come up, all has come up. -/
theorem all_listed {md : Region.Mode} {l : List Oper} {L : Array Bool} (hu : aheadB md 0 l = true) (hs : L.size = l.length) (hr : Region.ready md l.toArray L = []) :
    ∀ i, i < l.length → L.getD i true = true := by
  intro i
  induction i using Nat.strongRecOn with
  | ind i ih =>
    intro hi
    cases hf : L.getD i true with
    | true => rfl
    | false =>
      exfalso
      have hm : i ∈ Region.ready md l.toArray L := by
        unfold Region.ready
        rw [List.mem_filter]
        refine ⟨by simpa using hi, ?_⟩
        have ho : l.toArray[i]? = some l[i] := by simp
        rw [hf, ho]
        simp only [Bool.not_false, Bool.true_and, Option.map_some, Option.getD_some]
        rw [Array.all_eq_true']
        intro e he
        cases hb : Region.binds md e with
        | false => rfl
        | true =>
          have h1 := aheadB_at l 0 hu i l[i] (by simp) e he hb
          have h2 := ih e.on (by omega) (by omega)
          have h3 : e.on < L.size := by omega
          rw [Array.getD_eq_getD_getElem?, Array.getElem?_eq_getElem h3] at h2 ⊢
          simpa using h2
      rw [hr] at hm
      cases hm
/-- A region that draws its order, by an invariant on what has come up, the frame and the world. -/
theorem wp_region_inv {P : Program} {id : Nat} {l : List Oper} {Q : Exit → Act → World → Prop} {a : Act} {w : World} (Inv : Act → Array Bool → Act → World → Prop) (hm : P.follows .mixedOrders = true) (hu : aheadB .any 0 l = true)
    (h0 : Inv a (Array.replicate l.length false) a { w with drawn := w.drawn + 1 })
    (hsize : ∀ L a' w, Inv a L a' w → L.size = l.length)
    (hdone : ∀ L a' w, Inv a L a' w → (∀ i, i < l.length → L.getD i true = true) → Q .normal a' w)
    (hstep : ∀ L a' w, Inv a L a' w → StepsInv P .any l.toArray Q (Inv a) L a' w 0 l) : (Code.region id l.toArray true).wp P Q a w := by
  refine wp_region_any hm ?_
  refine wpAny_inv (Inv a) (fun L a' w hI hr => hdone L a' w hI (all_listed hu (hsize L a' w hI) hr)) (fun L a' w i hI hf ha => ?_) _ _ _ _ (by simpa using h0) (by simp)
  have hi : i < l.length := by
    have hs := hsize L a' w hI
    rcases Nat.lt_or_ge i l.length with h | h
    · exact h
    · rw [Array.getD_eq_getD_getElem?, Array.getElem?_eq_none (by omega)] at hf
      cases hf
  have ho : l[i]? = some l[i] := by simp
  have ho2 : l.toArray[i]? = some l[i] := by simp
  refine wpOp_step ho2 fun K hK => ?_
  have := stepsInv_at l 0 (hstep L a' w hI) i l[i] ho (by simpa using hf) (ha l[i] ho2) K (by simpa using hK)
  exact this
/-- A block of two cells that was made behind `w0`; `d`: both cells hold `v`. -/
def Room (w0 w : World) (B : Nat) (d : Bool) (v : Int) : Prop :=
  w0.heap.size ≤ B ∧ B < w.heap.size ∧ w.frozen? ⟨B, 0, none⟩ = false ∧ w.frozen? ⟨B, 1, none⟩ = false ∧ ∃ x y, w.cell? ⟨B, 0, none⟩ = some x ∧ w.cell? ⟨B, 1, none⟩ = some y ∧ (d = true → x = .int .i64 v ∧ y = .int .i64 v)
theorem Room.later {w0 w w' : World} {B : Nat} {d : Bool} {v : Int} (hb : Below w.heap.size w w') (h : Room w0 w B d v) : Room w0 w' B d v := by
  obtain ⟨h1, h2, h3, h4, x, y, h5, h6, h7⟩ := h
  exact ⟨h1, Nat.lt_of_lt_of_le h2 hb.size, (hb.frozen (p := ⟨B, 0, none⟩) h2).trans h3, (hb.frozen (p := ⟨B, 1, none⟩) h2).trans h4, x, y, (hb.cell (p := ⟨B, 0, none⟩) h2).trans h5, (hb.cell (p := ⟨B, 1, none⟩) h2).trans h6, h7⟩
theorem Room.other {w0 w : World} {B B' : Nat} {d : Bool} {v : Int} (n : B ≠ B') (x y : Value) (h : Room w0 w B d v) : Room w0 ((w.setCell ⟨B', 0, none⟩ x).setCell ⟨B', 1, none⟩ y) B d v := by
  obtain ⟨h1, h2, h3, h4, c, e, h5, h6, h7⟩ := h
  have ne : ∀ p o, (⟨B', p, none⟩ : Addr) ≠ ⟨B, o, none⟩ := fun p o e => by injection e with e; exact n e.symm
  refine ⟨h1, by simpa using h2, by simpa using h3, by simpa using h4, c, e, ?_, ?_, h7⟩
  · rw [World.cell?_setCell_other _ _ _ _ (ne 1 0), World.cell?_setCell_other _ _ _ _ (ne 0 0)]; exact h5
  · rw [World.cell?_setCell_other _ _ _ _ (ne 1 1), World.cell?_setCell_other _ _ _ _ (ne 0 1)]; exact h6
theorem Room.alloc {w0 w : World} (h : Below w0.heap.size w0 w) (x y : Value) (t : Nat) (d : Bool) (v : Int) (hd : d = true → false = true) : Room w0 (w.alloc (Obj.cells #[x, y] t)) w.heap.size d v := by
  refine ⟨h.size, by simp [go_sem], by simp [go_sem], by simp [go_sem], x, y, by simp [go_sem], by simp [go_sem], fun e => ?_⟩
  have := hd e
  cases this
theorem Room.store {w0 w : World} {B : Nat} {d : Bool} {v : Int} (u : Int) (h : Room w0 w B d v) (d' : Bool) : Room w0 ((w.setCell ⟨B, 0, none⟩ (.int .i64 u)).setCell ⟨B, 1, none⟩ (.int .i64 u)) B d' u := by
  obtain ⟨h1, h2, h3, h4, c, e, h5, h6, h7⟩ := h
  refine ⟨h1, by simpa using h2, by simpa using h3, by simpa using h4, .int .i64 u, .int .i64 u, ?_, ?_, fun _ => ⟨rfl, rfl⟩⟩
  · simp [go_sem, *]
  · simp [go_sem, *]
end Go.Proofs.YtdhbeoahpfimbaaGreat
