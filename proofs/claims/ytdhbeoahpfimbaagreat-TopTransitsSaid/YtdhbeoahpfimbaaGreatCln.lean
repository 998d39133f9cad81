/- slices.Clone of stars. -/
import Derived.Test.YtdhbeoahpfimbaaGreatNil
namespace Go.Proofs.YtdhbeoahpfimbaaGreat
open Go.RowKit
/-- The cells of n stars. -/
def stAt (nm : Nat → ByteArray) (f : Nat → Nat → Int) (j : Nat) : Value := if j % 4 = 0 then .string (nm (j / 4)) else .int .i64 (f (j / 4) (j % 4 - 1))
def stL (nm : Nat → ByteArray) (f : Nat → Nat → Int) (n : Nat) : List Value := (List.range (n * 4)).map (stAt nm f)
theorem stL_length (nm : Nat → ByteArray) (f : Nat → Nat → Int) (n : Nat) : (stL nm f n).length = n * 4 := by simp [stL]
theorem stL_at (nm : Nat → ByteArray) (f : Nat → Nat → Int) (n j : Nat) (h : j < n * 4) : (stL nm f n)[j]? = some (stAt nm f j) := by
  simp [stL, h]
theorem stAt_one (nm : Nat → ByteArray) (f : Nat → Nat → Int) (j : Nat) : (stAt nm f j).oneCell' = true := by
  unfold stAt
  split <;> rfl
theorem StS.at {w : World} {B oo n : Nat} {nm : Nat → ByteArray} {f : Nat → Nat → Int} (h : StS w B oo n nm f) (j : Nat) (hj : j < n * 4) : w.cell? ⟨B, oo + j, none⟩ = some (stAt nm f j) := by
  have d : j = j / 4 * 4 + j % 4 := by omega
  have l : j / 4 < n := by omega
  obtain ⟨q, hq⟩ : ∃ q, j / 4 = q := ⟨_, rfl⟩
  obtain ⟨r, hr⟩ : ∃ r, j % 4 = r := ⟨_, rfl⟩
  unfold stAt
  rw [hq] at d l ⊢
  rw [hr] at d ⊢
  have r4 : r = 0 ∨ r = 1 ∨ r = 2 ∨ r = 3 := by omega
  rcases r4 with rfl | rfl | rfl | rfl
  · rw [if_pos rfl, d]
    exact h.name l
  · rw [if_neg (by decide), d]
    exact h.sha l
  · rw [if_neg (by decide), d]
    exact h.dec l
  · rw [if_neg (by decide), d]
    exact h.mag l
theorem info_parts {P : Program} {t : TypeId} {z : Value} {s b : Nat} (h : (P.info? t).map (fun i => (i.zero, i.size, i.bytes)) = some (some z, s, b)) : ∃ i, P.info? t = some i ∧ i.zero = some z ∧ i.size = s ∧ i.bytes = b := by
  cases hi : P.info? t with
  | none => rw [hi] at h; simp at h
  | some i => rw [hi] at h; simp at h; exact ⟨i, rfl, h.1, h.2.1, h.2.2⟩
theorem info_star : (Tryz.prog.info? 77).map (fun i => (i.zero, i.size, i.bytes)) = some (some (.agg #[.string { data := #[] }, .int .i64 0, .int .i64 0, .int .i64 0]), 4, 40) := by kernel_rfl
theorem clone_stars (B oo n c : Nat) (nm : Nat → ByteArray) (f : Nat → Nat → Int) (w : World) (hl : StS w B oo n nm f) (hn : n ≤ 100) (h0 : 0 < n) :
    Calls Tryz.prog 96 #[.slice (some ⟨B, oo, none⟩) n c] w fun e w' => ∃ g c', e = .returned (.slice (some ⟨g, 0, none⟩) n c') ∧ StS w' g 0 n nm f ∧ w.heap.size ≤ g ∧ Below w.heap.size w w' := by
  obtain ⟨i0, hi, hz0, hz1, hz2⟩ := info_parts info_star
  have h := AnyE.slices_Clone Tryz.lays_star i0 _ 4 40 hi hz0 hz1 hz2 rfl (by decide) (fun w => Tryz.sizeOf77 w) B oo n c (stL nm f n) w (stL_length _ _ _) (by unfold maxLen; omega) (by omega)
    (fun j u hu => by
      have hj : j < n * 4 := by
        have := (List.getElem?_eq_some_iff.1 hu).1
        rwa [stL_length] at this
      rw [stL_at _ _ _ _ hj] at hu
      rw [← Option.some.inj hu]
      exact hl.at j hj)
    (fun u hu => by
      simp only [stL, List.mem_map] at hu
      obtain ⟨j, -, rfl⟩ := hu
      exact stAt_one _ _ _)
  refine h.mono fun e w' ⟨v, he, hown, _, hb⟩ => ?_
  obtain ⟨_, ⟨rfl, hn0⟩ | ⟨g, cap, cur, rfl, h2, h3, h4⟩⟩ := hown
  · omega
  · have H : w'.ownsRow w.heap.size 77 4 (.slice (some ⟨g, 0, none⟩) n cap) n (stL nm f n) := ⟨stL_length _ _ _, .inr ⟨g, cap, cur, rfl, h2, h3, h4⟩⟩
    have C : ∀ j, j < n * 4 → w'.cell? ⟨g, j, none⟩ = some (stAt nm f j) := fun j hj => by
      have := H.cellAt j hj
      rw [stL_at _ _ _ _ hj] at this
      exact this
    refine ⟨g, cap, he, fun i hi => ?_, h2, hb⟩
    have e0 : i * 4 % 4 = 0 := by omega
    have e1 : (i * 4 + 1) % 4 = 1 := by omega
    have e2 : (i * 4 + 2) % 4 = 2 := by omega
    have e3 : (i * 4 + 3) % 4 = 3 := by omega
    have d0 : i * 4 / 4 = i := by omega
    have d1 : (i * 4 + 1) / 4 = i := by omega
    have d2 : (i * 4 + 2) / 4 = i := by omega
    have d3 : (i * 4 + 3) / 4 = i := by omega
    refine ⟨?_, ?_, ?_, ?_⟩
    · have := C (i * 4) (by omega); simpa [stAt, e0, d0] using this
    · have := C (i * 4 + 1) (by omega); simpa [stAt, e1, d1] using this
    · have := C (i * 4 + 2) (by omega); simpa [stAt, e2, d2] using this
    · have := C (i * 4 + 3) (by omega); simpa [stAt, e3, d3] using this
end Go.Proofs.YtdhbeoahpfimbaaGreat
