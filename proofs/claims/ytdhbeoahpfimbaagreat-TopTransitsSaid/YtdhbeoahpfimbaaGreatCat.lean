/- Catalogues of stars: how they lie, and how a star is found by its name. -/
import Derived.Test.YtdhbeoahpfimbaaGreatNam
namespace Go.Proofs.YtdhbeoahpfimbaaGreat
open Go.RowKit
/-- n stars lie from place oo on. -/
def StS (w : World) (B oo n : Nat) (nm : Nat → ByteArray) (f : Nat → Nat → Int) : Prop :=
  ∀ i, i < n → w.cell? ⟨B, oo + i * 4, none⟩ = some (.string (nm i)) ∧ w.cell? ⟨B, oo + i * 4 + 1, none⟩ = some (.int .i64 (f i 0)) ∧ w.cell? ⟨B, oo + i * 4 + 2, none⟩ = some (.int .i64 (f i 1)) ∧ w.cell? ⟨B, oo + i * 4 + 3, none⟩ = some (.int .i64 (f i 2))
def stV (nm : Nat → ByteArray) (f : Nat → Nat → Int) (i : Nat) : Value := .agg #[.string (nm i), .int .i64 (f i 0), .int .i64 (f i 1), .int .i64 (f i 2)]
theorem StS.name {w : World} {B oo n : Nat} {nm : Nat → ByteArray} {f : Nat → Nat → Int} (h : StS w B oo n nm f) {i : Nat} (hi : i < n) : w.cell? ⟨B, oo + i * 4, none⟩ = some (.string (nm i)) := (h i hi).1
theorem StS.sha {w : World} {B oo n : Nat} {nm : Nat → ByteArray} {f : Nat → Nat → Int} (h : StS w B oo n nm f) {i : Nat} (hi : i < n) : w.cell? ⟨B, oo + i * 4 + 1, none⟩ = some (.int .i64 (f i 0)) := (h i hi).2.1
theorem StS.dec {w : World} {B oo n : Nat} {nm : Nat → ByteArray} {f : Nat → Nat → Int} (h : StS w B oo n nm f) {i : Nat} (hi : i < n) : w.cell? ⟨B, oo + i * 4 + 2, none⟩ = some (.int .i64 (f i 1)) := (h i hi).2.2.1
theorem StS.mag {w : World} {B oo n : Nat} {nm : Nat → ByteArray} {f : Nat → Nat → Int} (h : StS w B oo n nm f) {i : Nat} (hi : i < n) : w.cell? ⟨B, oo + i * 4 + 3, none⟩ = some (.int .i64 (f i 2)) := (h i hi).2.2.2
theorem StS.lt {w : World} {B oo n : Nat} {nm : Nat → ByteArray} {f : Nat → Nat → Int} (h : StS w B oo n nm f) (hn : 0 < n) : B < w.heap.size := World.block_lt_of_cell? _ _ (h.name hn)
theorem StS.later {w wr : World} {B oo n : Nat} {nm : Nat → ByteArray} {f : Nat → Nat → Int} (h : StS w B oo n nm f) (hb : Below w.heap.size w wr) : StS wr B oo n nm f :=
  fun _ hi => ⟨cell_later hb (h.name hi), cell_later hb (h.sha hi), cell_later hb (h.dec hi), cell_later hb (h.mag hi)⟩
def sameB (s t : ByteArray) : Bool := s.toList == t.toList
theorem same_self (s : ByteArray) : sameB s s = true := by simp [sameB]
theorem eq_of_same {s t : ByteArray} (h : sameB s t = true) : s = t := by
  have : s.toList = t.toList := by simpa [sameB] using h
  rw [ByteArray.toList_eq, ByteArray.toList_eq] at this
  exact ByteArray.ext (Array.toList_inj.mp this)
theorem same_ne {s t : ByteArray} (h : s ≠ t) : sameB s t = false := by
  cases e : sameB s t with
  | false => rfl
  | true => exact absurd (eq_of_same e) h
set_option maxHeartbeats 1000000 in
theorem cidx1_any (s t : ByteArray) (a b c : Int) (p : Addr) (w : World) (hp : w.cell? p = some (.string t)) :
    Calls Tryz.prog 239 #[.agg #[.string s, .int .i64 a, .int .i64 b, .int .i64 c], .pointer (some p)] w fun e w' => e = .returned (.bool (sameB s t)) ∧ Below w.heap.size w w' := by
  have hB := World.block_lt_of_cell? _ _ hp
  by_cases h : s = t
  · subst h
    have R := hidden (same_self s)
    go_enter Tryz.func239, Tryz.ntmps239
    go_wp2
    go_ret
    exact ⟨by rw [R.out]; rfl, by (repeat (first | (with_reducible exact Below.refl _ _) | (with_reducible refine Below.setCell ?_ (by (first | (simp; done) | (simp; omega) | omega)) _) | (with_reducible refine bl_alloc ?_ _) | (with_reducible refine bl_drewN ?_) | (with_reducible refine bl_drew ?_) | (with_reducible refine bl_step (by assumption) ?_)))⟩
  · have R := hidden (same_ne h)
    have E : (s.toList == t.toList) = false := same_ne h
    clear h
    go_enter Tryz.func239, Tryz.ntmps239
    go_wp2
    go_ret
    exact ⟨by rw [R.out]; rfl, by (repeat (first | (with_reducible exact Below.refl _ _) | (with_reducible refine Below.setCell ?_ (by (first | (simp; done) | (simp; omega) | omega)) _) | (with_reducible refine bl_alloc ?_ _) | (with_reducible refine bl_drewN ?_) | (with_reducible refine bl_drew ?_) | (with_reducible refine bl_step (by assumption) ?_)))⟩
set_option maxHeartbeats 1000000 in
theorem cidx1_idx (B oo n c : Nat) (nm : Nat → ByteArray) (f : Nat → Nat → Int) (g : Nat → Bool) (cap : Value) (r : Int) (w : World) (hl : StS w B oo n nm f) (hn : n ≤ 100)
    (VV : Hid (∀ i, i < n → ∀ wc, Below w.heap.size w wc → Calls Tryz.prog 239 #[stV nm f i, cap] wc fun e w' => e = .returned (.bool (g i)) ∧ Below wc.heap.size wc w'))
    (h1 : Hid (∀ i, i < n → g i = true → (∀ j, j < i → g j = false) → r = i)) (h2 : Hid ((∀ i, i < n → g i = false) → r = -1)) :
    Calls Tryz.prog 182 #[.slice (some ⟨B, oo, none⟩) n c, .func (.func 239) #[] #[cap]] w fun e w' => e = .returned (.int .i64 r) ∧ Below w.heap.size w w' := by
  have HL := hidden hl
  clear hl
  go_enter Tryz.func182, Tryz.ntmps182
  go_wp2
  go_loopw [8] (fun iv wr => ∃ k : Nat, iv = .int .i64 k ∧ k ≤ n ∧ Hid (∀ i, i < k → g i = false) ∧ Below w.heap.size w wr) (fun iv _ => 200 - (intOf iv).toNat)
  case atStart => exact ⟨0, rfl, Nat.zero_le _, (fun i h => absurd h (by omega)), Below.refl _ _⟩
  case round =>
    obtain ⟨k, rfl, hk, hg, hb0⟩ := hrel
    have hz0 := hb0.size
    by_cases hkn : k < n
    · have q1 : decide (k < n) = true := by simp; omega
      have LB := HL.out.lt (by omega)
      have V := VV.out k hkn _ hb0
      obtain ⟨s, hs⟩ : ∃ s, nm k = s := ⟨_, rfl⟩
      have c0 : wr.cell? ⟨B, oo + k * 4, none⟩ = some (.string s) := by rw [← hs]; exact cell_later hb0 (HL.out.name hkn)
      have c1 : wr.cell? ⟨B, oo + k * 4 + 1, none⟩ = some (.int .i64 (f k 0)) := cell_later hb0 (HL.out.sha hkn)
      have c2 : wr.cell? ⟨B, oo + k * 4 + 2, none⟩ = some (.int .i64 (f k 1)) := cell_later hb0 (HL.out.dec hkn)
      have c3 : wr.cell? ⟨B, oo + k * 4 + 3, none⟩ = some (.int .i64 (f k 2)) := cell_later hb0 (HL.out.mag hkn)
      rw [stV, hs] at V
      clear hs
      cases gk : g k with
      | false =>
        rw [gk] at V
        replace V := hidden V
        go_wp2_with (go_at_call 239; ((with_reducible refine V.out.mono ?_); rintro e w' ⟨rfl, hb⟩); (try replace hb := below_undrew hb); (try replace hb := below_undrewN hb); obtain ⟨hcell, hfroz⟩ := bcell hb; have hz := hb.size; (try simp at hz); (try (have z6 := Nat.lt_of_lt_of_le z7 hz)); (try (have z7 := Nat.lt_of_lt_of_le z8 hz)); (try (have z8 := Nat.lt_of_lt_of_le z9 hz)); (try (have z9 := Nat.lt_of_lt_of_le (Nat.lt_succ_self _) hz)); (try have z0 : w.heap.size < w'.heap.size := by omega); (try have z1 : w.heap.size + 1 < w'.heap.size := by omega); (try have z2 : w.heap.size + 1 + 1 < w'.heap.size := by omega); (try have z3 : w.heap.size + 1 + 1 + 1 < w'.heap.size := by omega))
        exact ⟨⟨k + 1, by go_num, by omega, (fun i h => by rcases Nat.lt_or_ge i k with h4 | h4; exact hg.out i h4; obtain rfl : i = k := (by omega); exact gk), by (repeat (first | (with_reducible exact Below.refl _ _) | (with_reducible refine Below.setCell ?_ (by (first | (simp; done) | (simp; omega) | omega)) _) | (with_reducible refine bl_alloc ?_ _) | (with_reducible refine bl_drewN ?_) | (with_reducible refine bl_drew ?_) | (with_reducible refine bl_step (by assumption) ?_)))⟩, by simp [intOf]; omega⟩
      | true =>
        rw [gk] at V
        replace V := hidden V
        go_wp2_with (go_at_call 239; ((with_reducible refine V.out.mono ?_); rintro e w' ⟨rfl, hb⟩); (try replace hb := below_undrew hb); (try replace hb := below_undrewN hb); obtain ⟨hcell, hfroz⟩ := bcell hb; have hz := hb.size; (try simp at hz); (try (have z6 := Nat.lt_of_lt_of_le z7 hz)); (try (have z7 := Nat.lt_of_lt_of_le z8 hz)); (try (have z8 := Nat.lt_of_lt_of_le z9 hz)); (try (have z9 := Nat.lt_of_lt_of_le (Nat.lt_succ_self _) hz)); (try have z0 : w.heap.size < w'.heap.size := by omega); (try have z1 : w.heap.size + 1 < w'.heap.size := by omega); (try have z2 : w.heap.size + 1 + 1 < w'.heap.size := by omega); (try have z3 : w.heap.size + 1 + 1 + 1 < w'.heap.size := by omega))
        go_ret
        obtain rfl : r = k := h1.out k hkn gk hg.out
        exact ⟨rfl, by (repeat (first | (with_reducible exact Below.refl _ _) | (with_reducible refine Below.setCell ?_ (by (first | (simp; done) | (simp; omega) | omega)) _) | (with_reducible refine bl_alloc ?_ _) | (with_reducible refine bl_drewN ?_) | (with_reducible refine bl_drew ?_) | (with_reducible refine bl_step (by assumption) ?_)))⟩
    · have q1 : decide (k < n) = false := by simp; omega
      have e : n = k := by omega
      subst e
      go_wp2
      go_ret
      obtain rfl : r = -1 := h2.out hg.out
      exact ⟨rfl, by (repeat (first | (with_reducible exact Below.refl _ _) | (with_reducible refine Below.setCell ?_ (by (first | (simp; done) | (simp; omega) | omega)) _) | (with_reducible refine bl_alloc ?_ _) | (with_reducible refine bl_drewN ?_) | (with_reducible refine bl_drew ?_) | (with_reducible refine bl_step (by assumption) ?_)))⟩
/-- The first of the numbers below n with a property; -1 if there is none. -/
def fstI (g : Nat → Bool) : Nat → Int
  | 0 => -1
  | n + 1 => if 0 ≤ fstI g n then fstI g n else if g n then n else -1
theorem fst_none (g : Nat → Bool) (n : Nat) (h : ∀ i, i < n → g i = false) : fstI g n = -1 := by
  induction n with
  | zero => rfl
  | succ n ih =>
    rw [fstI, ih (fun i hi => h i (by omega)), h n (by omega)]
    rfl
theorem fst_hit (g : Nat → Bool) (n i : Nat) (hi : i < n) (hg : g i = true) (h : ∀ j, j < i → g j = false) : fstI g n = i := by
  induction n with
  | zero => omega
  | succ n ih =>
    rcases Nat.lt_or_ge i n with a | a
    · rw [fstI, ih a]
      rw [if_pos (by omega)]
    · obtain rfl : i = n := (by omega)
      rw [fstI, fst_none g i h, hg]
      rfl
theorem fst_lt (g : Nat → Bool) (n : Nat) : fstI g n < n ∧ -1 ≤ fstI g n := by
  induction n with
  | zero => simp [fstI]
  | succ n ih =>
    rw [fstI]
    split
    · omega
    · split <;> omega
def numB (x y z : Int) : Bool := decide (0 ≤ x) && decide (x ≤ 215999) && decide (-54000 ≤ y) && decide (y ≤ 54000) && decide (-20 ≤ z) && decide (z ≤ 150)
def starI (x y z : Int) : Int := if numB x y z then 0 else 2
set_option maxHeartbeats 1000000 in
theorem cnumbers_any (s : ByteArray) (x y z : Int) (w : World) :
    Calls Tryz.prog 172 #[.agg #[.string s, .int .i64 x, .int .i64 y, .int .i64 z]] w fun e w' => e = .returned (.bool (numB x y z)) ∧ Below w.heap.size w w' := by
  by_cases a : 0 ≤ x
  · skip
    by_cases b : x ≤ 215999
    · skip
      by_cases c : -54000 ≤ y
      · skip
        by_cases d : y ≤ 54000
        · skip
          by_cases e : -20 ≤ z
          · skip
            by_cases g : z ≤ 150
            · skip
              have R : Hid (numB x y z = true) := by unfold Hid; simp [numB, *]
              go_enter Tryz.func172, Tryz.ntmps172
              go_wp2
              go_ret
              exact ⟨by rw [R.out]; rfl, by (repeat (first | (with_reducible exact Below.refl _ _) | (with_reducible refine Below.setCell ?_ (by (first | (simp; done) | (simp; omega) | omega)) _) | (with_reducible refine bl_alloc ?_ _) | (with_reducible refine bl_drewN ?_) | (with_reducible refine bl_drew ?_) | (with_reducible refine bl_step (by assumption) ?_)))⟩
            · skip
              have R : Hid (numB x y z = false) := by unfold Hid; simp [numB, *]
              go_enter Tryz.func172, Tryz.ntmps172
              go_wp2
              go_ret
              exact ⟨by rw [R.out]; rfl, by (repeat (first | (with_reducible exact Below.refl _ _) | (with_reducible refine Below.setCell ?_ (by (first | (simp; done) | (simp; omega) | omega)) _) | (with_reducible refine bl_alloc ?_ _) | (with_reducible refine bl_drewN ?_) | (with_reducible refine bl_drew ?_) | (with_reducible refine bl_step (by assumption) ?_)))⟩
          · skip
            have R : Hid (numB x y z = false) := by unfold Hid; simp [numB, *]
            go_enter Tryz.func172, Tryz.ntmps172
            go_wp2
            go_ret
            exact ⟨by rw [R.out]; rfl, by (repeat (first | (with_reducible exact Below.refl _ _) | (with_reducible refine Below.setCell ?_ (by (first | (simp; done) | (simp; omega) | omega)) _) | (with_reducible refine bl_alloc ?_ _) | (with_reducible refine bl_drewN ?_) | (with_reducible refine bl_drew ?_) | (with_reducible refine bl_step (by assumption) ?_)))⟩
        · skip
          have R : Hid (numB x y z = false) := by unfold Hid; simp [numB, *]
          go_enter Tryz.func172, Tryz.ntmps172
          go_wp2
          go_ret
          exact ⟨by rw [R.out]; rfl, by (repeat (first | (with_reducible exact Below.refl _ _) | (with_reducible refine Below.setCell ?_ (by (first | (simp; done) | (simp; omega) | omega)) _) | (with_reducible refine bl_alloc ?_ _) | (with_reducible refine bl_drewN ?_) | (with_reducible refine bl_drew ?_) | (with_reducible refine bl_step (by assumption) ?_)))⟩
      · skip
        have R : Hid (numB x y z = false) := by unfold Hid; simp [numB, *]
        go_enter Tryz.func172, Tryz.ntmps172
        go_wp2
        go_ret
        exact ⟨by rw [R.out]; rfl, by (repeat (first | (with_reducible exact Below.refl _ _) | (with_reducible refine Below.setCell ?_ (by (first | (simp; done) | (simp; omega) | omega)) _) | (with_reducible refine bl_alloc ?_ _) | (with_reducible refine bl_drewN ?_) | (with_reducible refine bl_drew ?_) | (with_reducible refine bl_step (by assumption) ?_)))⟩
    · skip
      have R : Hid (numB x y z = false) := by unfold Hid; simp [numB, *]
      go_enter Tryz.func172, Tryz.ntmps172
      go_wp2
      go_ret
      exact ⟨by rw [R.out]; rfl, by (repeat (first | (with_reducible exact Below.refl _ _) | (with_reducible refine Below.setCell ?_ (by (first | (simp; done) | (simp; omega) | omega)) _) | (with_reducible refine bl_alloc ?_ _) | (with_reducible refine bl_drewN ?_) | (with_reducible refine bl_drew ?_) | (with_reducible refine bl_step (by assumption) ?_)))⟩
  · skip
    have R : Hid (numB x y z = false) := by unfold Hid; simp [numB, *]
    go_enter Tryz.func172, Tryz.ntmps172
    go_wp2
    go_ret
    exact ⟨by rw [R.out]; rfl, by (repeat (first | (with_reducible exact Below.refl _ _) | (with_reducible refine Below.setCell ?_ (by (first | (simp; done) | (simp; omega) | omega)) _) | (with_reducible refine bl_alloc ?_ _) | (with_reducible refine bl_drewN ?_) | (with_reducible refine bl_drew ?_) | (with_reducible refine bl_step (by assumption) ?_)))⟩
set_option maxHeartbeats 1000000 in
theorem rstar_any (s : ByteArray) (x y z : Int) (w : World) :
    Calls Tryz.prog 90 #[.agg #[.string s, .int .i64 x, .int .i64 y, .int .i64 z]] w fun e w' => e = .returned (.int .i64 (starI x y z)) ∧ Below w.heap.size w w' := by
  by_cases a : 0 ≤ x
  · skip
    by_cases b : x ≤ 215999
    · skip
      by_cases c : -54000 ≤ y
      · skip
        by_cases d : y ≤ 54000
        · skip
          by_cases e : -20 ≤ z
          · skip
            by_cases g : z ≤ 150
            · skip
              have R : Hid (starI x y z = 0) := by unfold Hid; simp [starI, numB, *]
              go_enter Tryz.func90, Tryz.ntmps90
              go_wp2
              go_ret
              exact ⟨by rw [R.out]; rfl, by (repeat (first | (with_reducible exact Below.refl _ _) | (with_reducible refine Below.setCell ?_ (by (first | (simp; done) | (simp; omega) | omega)) _) | (with_reducible refine bl_alloc ?_ _) | (with_reducible refine bl_drewN ?_) | (with_reducible refine bl_drew ?_) | (with_reducible refine bl_step (by assumption) ?_)))⟩
            · skip
              have R : Hid (starI x y z = 2) := by unfold Hid; simp [starI, numB, *]
              go_enter Tryz.func90, Tryz.ntmps90
              go_wp2
              go_ret
              exact ⟨by rw [R.out]; rfl, by (repeat (first | (with_reducible exact Below.refl _ _) | (with_reducible refine Below.setCell ?_ (by (first | (simp; done) | (simp; omega) | omega)) _) | (with_reducible refine bl_alloc ?_ _) | (with_reducible refine bl_drewN ?_) | (with_reducible refine bl_drew ?_) | (with_reducible refine bl_step (by assumption) ?_)))⟩
          · skip
            have R : Hid (starI x y z = 2) := by unfold Hid; simp [starI, numB, *]
            go_enter Tryz.func90, Tryz.ntmps90
            go_wp2
            go_ret
            exact ⟨by rw [R.out]; rfl, by (repeat (first | (with_reducible exact Below.refl _ _) | (with_reducible refine Below.setCell ?_ (by (first | (simp; done) | (simp; omega) | omega)) _) | (with_reducible refine bl_alloc ?_ _) | (with_reducible refine bl_drewN ?_) | (with_reducible refine bl_drew ?_) | (with_reducible refine bl_step (by assumption) ?_)))⟩
        · skip
          have R : Hid (starI x y z = 2) := by unfold Hid; simp [starI, numB, *]
          go_enter Tryz.func90, Tryz.ntmps90
          go_wp2
          go_ret
          exact ⟨by rw [R.out]; rfl, by (repeat (first | (with_reducible exact Below.refl _ _) | (with_reducible refine Below.setCell ?_ (by (first | (simp; done) | (simp; omega) | omega)) _) | (with_reducible refine bl_alloc ?_ _) | (with_reducible refine bl_drewN ?_) | (with_reducible refine bl_drew ?_) | (with_reducible refine bl_step (by assumption) ?_)))⟩
      · skip
        have R : Hid (starI x y z = 2) := by unfold Hid; simp [starI, numB, *]
        go_enter Tryz.func90, Tryz.ntmps90
        go_wp2
        go_ret
        exact ⟨by rw [R.out]; rfl, by (repeat (first | (with_reducible exact Below.refl _ _) | (with_reducible refine Below.setCell ?_ (by (first | (simp; done) | (simp; omega) | omega)) _) | (with_reducible refine bl_alloc ?_ _) | (with_reducible refine bl_drewN ?_) | (with_reducible refine bl_drew ?_) | (with_reducible refine bl_step (by assumption) ?_)))⟩
    · skip
      have R : Hid (starI x y z = 2) := by unfold Hid; simp [starI, numB, *]
      go_enter Tryz.func90, Tryz.ntmps90
      go_wp2
      go_ret
      exact ⟨by rw [R.out]; rfl, by (repeat (first | (with_reducible exact Below.refl _ _) | (with_reducible refine Below.setCell ?_ (by (first | (simp; done) | (simp; omega) | omega)) _) | (with_reducible refine bl_alloc ?_ _) | (with_reducible refine bl_drewN ?_) | (with_reducible refine bl_drew ?_) | (with_reducible refine bl_step (by assumption) ?_)))⟩
  · skip
    have R : Hid (starI x y z = 2) := by unfold Hid; simp [starI, numB, *]
    go_enter Tryz.func90, Tryz.ntmps90
    go_wp2
    go_ret
    exact ⟨by rw [R.out]; rfl, by (repeat (first | (with_reducible exact Below.refl _ _) | (with_reducible refine Below.setCell ?_ (by (first | (simp; done) | (simp; omega) | omega)) _) | (with_reducible refine bl_alloc ?_ _) | (with_reducible refine bl_drewN ?_) | (with_reducible refine bl_drew ?_) | (with_reducible refine bl_step (by assumption) ?_)))⟩
set_option maxHeartbeats 1000000 in
theorem cindex_any (B oo n c : Nat) (nm : Nat → ByteArray) (f : Nat → Nat → Int) (t : ByteArray) (w : World) (hl : StS w B oo n nm f) (hn : n ≤ 100) (h0 : 0 < n) :
    Calls Tryz.prog 173 #[.slice (some ⟨B, oo, none⟩) n c, .string t] w fun e w' => e = .returned (.int .i64 (fstI (fun j => sameB (nm j) t) n)) ∧ Below w.heap.size w w' := by
  have LB := hl.lt h0
  have HL := hidden hl
  obtain ⟨r, hr⟩ : ∃ r, fstI (fun j => sameB (nm j) t) n = r := ⟨_, rfl⟩
  have h1 : Hid (∀ i, i < n → sameB (nm i) t = true → (∀ j, j < i → sameB (nm j) t = false) → r = i) := fun i hi hg h => by rw [← hr]; exact fst_hit _ n i hi hg h
  have h2 : Hid ((∀ i, i < n → sameB (nm i) t = false) → r = -1) := fun h => by rw [← hr]; exact fst_none _ n h
  rw [hr]
  clear hr hl
  have V : Hid (∀ wq : World, w.heap.size < wq.heap.size → Below w.heap.size w wq → wq.cell? ⟨w.heap.size, 0, none⟩ = some (.string t) → Calls Tryz.prog 182 #[.slice (some ⟨B, oo, none⟩) n c, .func (.func 239) #[] #[.pointer (some ⟨w.heap.size, 0, none⟩)]] wq fun e w' => e = .returned (.int .i64 r) ∧ Below wq.heap.size wq w') := fun wq hz hb hc =>
    cidx1_idx B oo n c nm f (fun j => sameB (nm j) t) _ r wq (HL.out.later hb) hn (fun i _ wc hbc => cidx1_any _ _ _ _ _ _ wc (cell_later hbc hc)) h1 h2
  clear h1 h2 HL
  go_enter Tryz.func173, Tryz.ntmps173
  go_wp2_with (go_at_call 182; ((with_reducible refine (V.out _ (by simp) (by (repeat (first | (with_reducible exact Below.refl _ _) | (with_reducible refine Below.setCell ?_ (by (first | (simp; done) | (simp; omega) | omega)) _) | (with_reducible refine bl_alloc ?_ _) | (with_reducible refine bl_drewN ?_) | (with_reducible refine bl_drew ?_) | (with_reducible refine bl_step (by assumption) ?_)))) (by simp [go_sem])).mono ?_); rintro e w' ⟨rfl, hb⟩))
  go_ret
  exact ⟨rfl, by (repeat (first | (with_reducible exact Below.refl _ _) | (with_reducible refine Below.setCell ?_ (by (first | (simp; done) | (simp; omega) | omega)) _) | (with_reducible refine bl_alloc ?_ _) | (with_reducible refine bl_drewN ?_) | (with_reducible refine bl_drew ?_) | (with_reducible refine bl_step (by assumption) ?_)))⟩
set_option maxHeartbeats 1000000 in
theorem rfind_any (B oo n c : Nat) (nm : Nat → ByteArray) (f : Nat → Nat → Int) (t : ByteArray) (w : World) (hl : StS w B oo n nm f) (hn : n ≤ 100) :
    Calls Tryz.prog 89 #[.slice (some ⟨B, oo, none⟩) n c, .string t] w fun e w' => e = .returned (.int .i64 (fstI (fun j => sameB (nm j) t) n)) ∧ Below w.heap.size w w' := by
  have HL := hidden hl
  obtain ⟨r, hr⟩ : ∃ r, fstI (fun j => sameB (nm j) t) n = r := ⟨_, rfl⟩
  have h1 : Hid (∀ i, i < n → sameB (nm i) t = true → (∀ j, j < i → sameB (nm j) t = false) → r = i) := fun i hi hg h => by rw [← hr]; exact fst_hit _ n i hi hg h
  have h2 : Hid ((∀ i, i < n → sameB (nm i) t = false) → r = -1) := fun h => by rw [← hr]; exact fst_none _ n h
  rw [hr]
  clear hr hl
  go_enter Tryz.func89, Tryz.ntmps89
  go_wp2
  go_loopw [5] (fun iv wr => ∃ k : Nat, iv = .int .i64 k ∧ k ≤ n ∧ Hid (∀ i, i < k → sameB (nm i) t = false) ∧ Below w.heap.size w wr) (fun iv _ => 200 - (intOf iv).toNat)
  case atStart => exact ⟨0, rfl, Nat.zero_le _, (fun i h => absurd h (by omega)), Below.refl _ _⟩
  case round =>
    obtain ⟨k, rfl, hk, hg, hb0⟩ := hrel
    have hz0 := hb0.size
    by_cases hkn : k < n
    · have q1 : decide (k < n) = true := by simp; omega
      have LB := HL.out.lt (by omega)
      obtain ⟨s, hs⟩ : ∃ s, nm k = s := ⟨_, rfl⟩
      have c0 : wr.cell? ⟨B, oo + k * 4, none⟩ = some (.string s) := by rw [← hs]; exact cell_later hb0 (HL.out.name hkn)
      have hs2 := hidden hs
      clear hs
      by_cases hst : s = t
      · subst hst
        go_wp2
        go_ret
        obtain rfl : r = k := h1.out k hkn (by rw [hs2.out]; exact same_self s) hg.out
        exact ⟨rfl, by (repeat (first | (with_reducible exact Below.refl _ _) | (with_reducible refine Below.setCell ?_ (by (first | (simp; done) | (simp; omega) | omega)) _) | (with_reducible refine bl_alloc ?_ _) | (with_reducible refine bl_drewN ?_) | (with_reducible refine bl_drew ?_) | (with_reducible refine bl_step (by assumption) ?_)))⟩
      · have E : (s.toList == t.toList) = false := same_ne hst
        have gk := hidden (show sameB (nm k) t = false by rw [hs2.out]; exact same_ne hst)
        clear hst
        go_wp2
        exact ⟨⟨k + 1, by go_num, by omega, (fun i h => by rcases Nat.lt_or_ge i k with h4 | h4; exact hg.out i h4; obtain rfl : i = k := (by omega); exact gk.out), by (repeat (first | (with_reducible exact Below.refl _ _) | (with_reducible refine Below.setCell ?_ (by (first | (simp; done) | (simp; omega) | omega)) _) | (with_reducible refine bl_alloc ?_ _) | (with_reducible refine bl_drewN ?_) | (with_reducible refine bl_drew ?_) | (with_reducible refine bl_step (by assumption) ?_)))⟩, by simp [intOf]; omega⟩
    · have q1 : decide (k < n) = false := by simp; omega
      have e : n = k := by omega
      subst e
      go_wp2
      go_ret
      obtain rfl : r = -1 := h2.out hg.out
      exact ⟨rfl, by (repeat (first | (with_reducible exact Below.refl _ _) | (with_reducible refine Below.setCell ?_ (by (first | (simp; done) | (simp; omega) | omega)) _) | (with_reducible refine bl_alloc ?_ _) | (with_reducible refine bl_drewN ?_) | (with_reducible refine bl_drew ?_) | (with_reducible refine bl_step (by assumption) ?_)))⟩
def okS (nm : Nat → ByteArray) (f : Nat → Nat → Int) (i : Nat) : Bool := nameB (nm i) && numB (f i 0) (f i 1) (f i 2) && (List.range i).all fun j => !sameB (nm j) (nm i)
def stB (nm : Nat → ByteArray) (f : Nat → Nat → Int) (n : Nat) : Bool := (List.range n).all fun i => okS nm f i
theorem stB_true {nm : Nat → ByteArray} {f : Nat → Nat → Int} {n : Nat} (h : ∀ i, i < n → okS nm f i = true) : stB nm f n = true := by
  simp only [stB, List.all_eq_true, List.mem_range]
  exact h
theorem stB_false {nm : Nat → ByteArray} {f : Nat → Nat → Int} {n : Nat} (k : Nat) (hk : k < n) (h : okS nm f k = false) : stB nm f n = false := by
  cases e : stB nm f n with
  | false => rfl
  | true =>
    simp only [stB, List.all_eq_true, List.mem_range] at e
    rw [e k hk] at h
    cases h
theorem okS_iff {nm : Nat → ByteArray} {f : Nat → Nat → Int} {i : Nat} : okS nm f i = true ↔ nameB (nm i) = true ∧ numB (f i 0) (f i 1) (f i 2) = true ∧ ∀ j, j < i → sameB (nm j) (nm i) = false := by
  simp only [okS, Bool.and_eq_true, List.all_eq_true, List.mem_range, Bool.not_eq_true', and_assoc]
/-- The three tests of a star: what they say together. -/
theorem okS_tests {nm : Nat → ByteArray} {f : Nat → Nat → Int} {n k : Nat} (hk : k < n) :
    (nameB (nm k) = true ∧ numB (f k 0) (f k 1) (f k 2) = true ∧ fstI (fun j => sameB (nm j) (nm k)) n = k → okS nm f k = true) ∧ (okS nm f k = true → nameB (nm k) = true ∧ numB (f k 0) (f k 1) (f k 2) = true ∧ fstI (fun j => sameB (nm j) (nm k)) n = k) := by
  constructor
  · rintro ⟨a, b, c⟩
    refine okS_iff.2 ⟨a, b, ?_⟩
    intro j hj
    cases e : sameB (nm j) (nm k) with
    | false => rfl
    | true =>
      exfalso
      have L : ∀ m, j < m → m ≤ n → fstI (fun j => sameB (nm j) (nm k)) m ≤ j ∧ 0 ≤ fstI (fun j => sameB (nm j) (nm k)) m := by
        intro m
        induction m with
        | zero => omega
        | succ m ih =>
          intro hm hn
          rw [fstI]
          split
          · rename_i h0
            rcases Nat.lt_or_ge j m with a | a
            · exact ih a (by omega)
            · have := (fst_lt (fun j => sameB (nm j) (nm k)) m).1
              exact ⟨by omega, h0⟩
          · rename_i h0
            rcases Nat.lt_or_ge j m with a | a
            · exact absurd (ih a (by omega)).2 h0
            · obtain rfl : j = m := (by omega)
              rw [e]
              simp
      have := L n (by omega) (by omega)
      omega
  · intro h
    obtain ⟨a, b, c⟩ := okS_iff.1 h
    exact ⟨a, b, fst_hit _ n k hk (same_self _) c⟩
set_option maxHeartbeats 2000000 in
theorem cvalid_any (B oo n c : Nat) (nm : Nat → ByteArray) (f : Nat → Nat → Int) (w : World) (hl : StS w B oo n nm f) (hn : n ≤ 100) :
    Calls Tryz.prog 94 #[.slice (some ⟨B, oo, none⟩) n c] w fun e w' => e = .returned (.bool (stB nm f n)) ∧ Below w.heap.size w w' := by
  have HL := hidden hl
  clear hl
  have q9 : decide (100 < n) = false := by simp; omega
  go_enter Tryz.func94, Tryz.ntmps94
  go_wp2
  go_loopw [10] (fun iv wr => ∃ k : Nat, iv = .int .i64 k ∧ k ≤ n ∧ Hid (∀ i, i < k → okS nm f i = true) ∧ Below w.heap.size w wr) (fun iv _ => 200 - (intOf iv).toNat)
  case atStart => exact ⟨0, rfl, Nat.zero_le _, (fun i h => absurd h (by omega)), Below.refl _ _⟩
  case round =>
    obtain ⟨k, rfl, hk, hg, hb0⟩ := hrel
    have hz0 := hb0.size
    by_cases hkn : k < n
    · have q1 : decide (k < n) = true := by simp; omega
      have LB := HL.out.lt (by omega)
      have c0 : wr.cell? ⟨B, oo + k * 4, none⟩ = some (.string (nm k)) := cell_later hb0 (HL.out.name hkn)
      have c1 : wr.cell? ⟨B, oo + k * 4 + 1, none⟩ = some (.int .i64 (f k 0)) := cell_later hb0 (HL.out.sha hkn)
      have c2 : wr.cell? ⟨B, oo + k * 4 + 2, none⟩ = some (.int .i64 (f k 1)) := cell_later hb0 (HL.out.dec hkn)
      have c3 : wr.cell? ⟨B, oo + k * 4 + 3, none⟩ = some (.int .i64 (f k 2)) := cell_later hb0 (HL.out.mag hkn)
      have N := fun w => dname_any (nm k) w
      have M := fun w => cnumbers_any (nm k) (f k 0) (f k 1) (f k 2) w
      have X := fun wq (hb : Below w.heap.size w wq) => cindex_any B oo n c nm f (nm k) wq (HL.out.later hb) hn (by omega)
      have T := okS_tests (nm := nm) (f := f) hkn
      have RF := stB_false (nm := nm) (f := f) k hkn
      have step : okS nm f k = true → ∀ i, i < k + 1 → okS nm f i = true := fun h i hi => by
        rcases Nat.lt_or_ge i k with h4 | h4
        · exact hg.out i h4
        · obtain rfl : i = k := (by omega)
          exact h
      obtain ⟨s, hs⟩ : ∃ s, nm k = s := ⟨_, rfl⟩
      rw [hs] at c0 N M X T
      clear hs
      cases b1 : nameB s with
      | false =>
        have R := hidden (RF (by cases e : okS nm f k with | false => rfl | true => have := (T.2 e).1; rw [b1] at this; cases this))
        rw [b1] at N
        clear T RF step b1
        replace N := hidden N
        replace M := hidden M
        replace X := hidden X
        go_wp2_with (go_at_call 171; ((with_reducible refine (N.out _).mono ?_); rintro e w' ⟨rfl, hb⟩); (try replace hb := below_undrew hb); (try replace hb := below_undrewN hb); obtain ⟨hcell, hfroz⟩ := bcell hb; have hz := hb.size; (try simp at hz); (try (have z6 := Nat.lt_of_lt_of_le z7 hz)); (try (have z7 := Nat.lt_of_lt_of_le z8 hz)); (try (have z8 := Nat.lt_of_lt_of_le z9 hz)); (try (have z9 := Nat.lt_of_lt_of_le (Nat.lt_succ_self _) hz)); (try have z0 : w.heap.size < w'.heap.size := by omega); (try have z1 : w.heap.size + 1 < w'.heap.size := by omega); (try have z2 : w.heap.size + 1 + 1 < w'.heap.size := by omega); (try have z3 : w.heap.size + 1 + 1 + 1 < w'.heap.size := by omega); (try have y1 : w1.heap.size < w'.heap.size := by omega); (try have y2 : w2.heap.size < w'.heap.size := by omega); (try have y3 : w3.heap.size < w'.heap.size := by omega); (try have x1 : w1.heap.size + 1 < w'.heap.size := by omega); (try have x2 : w2.heap.size + 1 < w'.heap.size := by omega); (try have x3 : w3.heap.size + 1 < w'.heap.size := by omega); (try have z10 : w1.heap.size < w'.heap.size + 1 := by omega); (try have z20 : w2.heap.size < w'.heap.size + 1 := by omega); (try have z30 : w3.heap.size < w'.heap.size + 1 := by omega))
        go_ret
        exact ⟨by rw [R.out]; rfl, by (repeat (first | (with_reducible exact Below.refl _ _) | (with_reducible refine Below.setCell ?_ (by (first | (simp; done) | (simp; omega) | omega)) _) | (with_reducible refine bl_alloc ?_ _) | (with_reducible refine bl_drewN ?_) | (with_reducible refine bl_drew ?_) | (with_reducible refine bl_step (by assumption) ?_)))⟩
      | true =>
        cases b2 : numB (f k 0) (f k 1) (f k 2) with
        | false =>
          have R := hidden (RF (by cases e : okS nm f k with | false => rfl | true => have := (T.2 e).2.1; rw [b2] at this; cases this))
          rw [b1] at N
          rw [b2] at M
          clear T RF step b1 b2
          replace N := hidden N
          replace M := hidden M
          replace X := hidden X
          go_wp2_with (((first | (go_at_call 171; ((with_reducible refine (N.out _).mono ?_); rintro e w' ⟨rfl, hb⟩); have nm0 := trivial) | (go_at_call 172; ((with_reducible refine (M.out _).mono ?_); rintro e w' ⟨rfl, hb⟩); have nm1 := trivial)); (try replace hb := below_undrew hb); (try replace hb := below_undrewN hb); obtain ⟨hcell, hfroz⟩ := bcell hb; have hz := hb.size; (try simp at hz); (try (have z6 := Nat.lt_of_lt_of_le z7 hz)); (try (have z7 := Nat.lt_of_lt_of_le z8 hz)); (try (have z8 := Nat.lt_of_lt_of_le z9 hz)); (try (have z9 := Nat.lt_of_lt_of_le (Nat.lt_succ_self _) hz)); (try have z0 : w.heap.size < w'.heap.size := by omega); (try have z1 : w.heap.size + 1 < w'.heap.size := by omega); (try have z2 : w.heap.size + 1 + 1 < w'.heap.size := by omega); (try have z3 : w.heap.size + 1 + 1 + 1 < w'.heap.size := by omega); (try have y1 : w1.heap.size < w'.heap.size := by omega); (try have x1 : w1.heap.size + 1 < w'.heap.size := by omega); (try have z10 : w1.heap.size < w'.heap.size + 1 := by omega); (first | (clear nm0; obtain ⟨w1, rfl⟩ : ∃ v, v = w' := ⟨_, rfl⟩) | (clear nm1; obtain ⟨w2, rfl⟩ : ∃ v, v = w' := ⟨_, rfl⟩))))
          go_ret
          exact ⟨by rw [R.out]; rfl, by (repeat (first | (with_reducible exact Below.refl _ _) | (with_reducible refine Below.setCell ?_ (by (first | (simp; done) | (simp; omega) | omega)) _) | (with_reducible refine bl_alloc ?_ _) | (with_reducible refine bl_drewN ?_) | (with_reducible refine bl_drew ?_) | (with_reducible refine bl_step (by assumption) ?_)))⟩
        | true =>
          obtain ⟨r, hr⟩ : ∃ r, fstI (fun j => sameB (nm j) s) n = r := ⟨_, rfl⟩
          rw [hr] at X T
          clear hr
          by_cases hrk : r = k
          · have S := hidden (step (T.1 ⟨b1, b2, hrk⟩))
            subst hrk
            rw [b1] at N
            rw [b2] at M
            clear T RF step b1 b2
            replace N := hidden N
            replace M := hidden M
            replace X := hidden X
            go_wp2_with (((first | (go_at_call 171; ((with_reducible refine (N.out _).mono ?_); rintro e w' ⟨rfl, hb⟩); have nm0 := trivial) | (go_at_call 172; ((with_reducible refine (M.out _).mono ?_); rintro e w' ⟨rfl, hb⟩); have nm1 := trivial) | (go_at_call 173; ((with_reducible refine (X.out _ (by (repeat (first | (with_reducible exact Below.refl _ _) | (with_reducible refine Below.setCell ?_ (by (first | (simp; done) | (simp; omega) | omega)) _) | (with_reducible refine bl_alloc ?_ _) | (with_reducible refine bl_drewN ?_) | (with_reducible refine bl_drew ?_) | (with_reducible refine bl_step (by assumption) ?_))))).mono ?_); rintro e w' ⟨rfl, hb⟩); have nm2 := trivial)); (try replace hb := below_undrew hb); (try replace hb := below_undrewN hb); obtain ⟨hcell, hfroz⟩ := bcell hb; have hz := hb.size; (try simp at hz); (try (have z6 := Nat.lt_of_lt_of_le z7 hz)); (try (have z7 := Nat.lt_of_lt_of_le z8 hz)); (try (have z8 := Nat.lt_of_lt_of_le z9 hz)); (try (have z9 := Nat.lt_of_lt_of_le (Nat.lt_succ_self _) hz)); (try have z0 : w.heap.size < w'.heap.size := by omega); (try have z1 : w.heap.size + 1 < w'.heap.size := by omega); (try have z2 : w.heap.size + 1 + 1 < w'.heap.size := by omega); (try have z3 : w.heap.size + 1 + 1 + 1 < w'.heap.size := by omega); (try have y1 : w1.heap.size < w'.heap.size := by omega); (try have y2 : w2.heap.size < w'.heap.size := by omega); (try have x1 : w1.heap.size + 1 < w'.heap.size := by omega); (try have x2 : w2.heap.size + 1 < w'.heap.size := by omega); (try have z10 : w1.heap.size < w'.heap.size + 1 := by omega); (try have z20 : w2.heap.size < w'.heap.size + 1 := by omega); (first | (clear nm0; obtain ⟨w1, rfl⟩ : ∃ v, v = w' := ⟨_, rfl⟩) | (clear nm1; obtain ⟨w2, rfl⟩ : ∃ v, v = w' := ⟨_, rfl⟩) | (clear nm2; obtain ⟨w3, rfl⟩ : ∃ v, v = w' := ⟨_, rfl⟩))))
            exact ⟨⟨k + 1, by go_num, by omega, S.out, by (repeat (first | (with_reducible exact Below.refl _ _) | (with_reducible refine Below.setCell ?_ (by (first | (simp; done) | (simp; omega) | omega)) _) | (with_reducible refine bl_alloc ?_ _) | (with_reducible refine bl_drewN ?_) | (with_reducible refine bl_drew ?_) | (with_reducible refine bl_step (by assumption) ?_)))⟩, by simp [intOf]; omega⟩
          · have R := hidden (RF (by cases e : okS nm f k with | false => rfl | true => exact absurd (T.2 e).2.2 hrk))
            have q5 : (r == (k : Int)) = false := by simp only [beq_eq_false_iff_ne, ne_eq]; exact hrk
            rw [b1] at N
            rw [b2] at M
            clear T RF step b1 b2
            replace N := hidden N
            replace M := hidden M
            replace X := hidden X
            go_wp2_with (((first | (go_at_call 171; ((with_reducible refine (N.out _).mono ?_); rintro e w' ⟨rfl, hb⟩); have nm0 := trivial) | (go_at_call 172; ((with_reducible refine (M.out _).mono ?_); rintro e w' ⟨rfl, hb⟩); have nm1 := trivial) | (go_at_call 173; ((with_reducible refine (X.out _ (by (repeat (first | (with_reducible exact Below.refl _ _) | (with_reducible refine Below.setCell ?_ (by (first | (simp; done) | (simp; omega) | omega)) _) | (with_reducible refine bl_alloc ?_ _) | (with_reducible refine bl_drewN ?_) | (with_reducible refine bl_drew ?_) | (with_reducible refine bl_step (by assumption) ?_))))).mono ?_); rintro e w' ⟨rfl, hb⟩); have nm2 := trivial)); (try replace hb := below_undrew hb); (try replace hb := below_undrewN hb); obtain ⟨hcell, hfroz⟩ := bcell hb; have hz := hb.size; (try simp at hz); (try (have z6 := Nat.lt_of_lt_of_le z7 hz)); (try (have z7 := Nat.lt_of_lt_of_le z8 hz)); (try (have z8 := Nat.lt_of_lt_of_le z9 hz)); (try (have z9 := Nat.lt_of_lt_of_le (Nat.lt_succ_self _) hz)); (try have z0 : w.heap.size < w'.heap.size := by omega); (try have z1 : w.heap.size + 1 < w'.heap.size := by omega); (try have z2 : w.heap.size + 1 + 1 < w'.heap.size := by omega); (try have z3 : w.heap.size + 1 + 1 + 1 < w'.heap.size := by omega); (try have y1 : w1.heap.size < w'.heap.size := by omega); (try have y2 : w2.heap.size < w'.heap.size := by omega); (try have x1 : w1.heap.size + 1 < w'.heap.size := by omega); (try have x2 : w2.heap.size + 1 < w'.heap.size := by omega); (try have z10 : w1.heap.size < w'.heap.size + 1 := by omega); (try have z20 : w2.heap.size < w'.heap.size + 1 := by omega); (first | (clear nm0; obtain ⟨w1, rfl⟩ : ∃ v, v = w' := ⟨_, rfl⟩) | (clear nm1; obtain ⟨w2, rfl⟩ : ∃ v, v = w' := ⟨_, rfl⟩) | (clear nm2; obtain ⟨w3, rfl⟩ : ∃ v, v = w' := ⟨_, rfl⟩))))
            go_ret
            exact ⟨by rw [R.out]; rfl, by (repeat (first | (with_reducible exact Below.refl _ _) | (with_reducible refine Below.setCell ?_ (by (first | (simp; done) | (simp; omega) | omega)) _) | (with_reducible refine bl_alloc ?_ _) | (with_reducible refine bl_drewN ?_) | (with_reducible refine bl_drew ?_) | (with_reducible refine bl_step (by assumption) ?_)))⟩
    · have q1 : decide (k < n) = false := by simp; omega
      have R := hidden (stB_true (nm := nm) (f := f) (n := n) (fun i hi => hg.out i (by omega)))
      go_wp2
      go_ret
      exact ⟨by rw [R.out]; rfl, by (repeat (first | (with_reducible exact Below.refl _ _) | (with_reducible refine Below.setCell ?_ (by (first | (simp; done) | (simp; omega) | omega)) _) | (with_reducible refine bl_alloc ?_ _) | (with_reducible refine bl_drewN ?_) | (with_reducible refine bl_drew ?_) | (with_reducible refine bl_step (by assumption) ?_)))⟩
set_option maxHeartbeats 2000000 in
theorem rvalid_any (B oo n c : Nat) (nm : Nat → ByteArray) (f : Nat → Nat → Int) (w : World) (hl : StS w B oo n nm f) (hn : n ≤ 100) :
    Calls Tryz.prog 27 #[.slice (some ⟨B, oo, none⟩) n c] w fun e w' => e = .returned (.bool (stB nm f n)) ∧ Below w.heap.size w w' := by
  have HL := hidden hl
  clear hl
  have q9 : decide (100 < n) = false := by simp; omega
  go_enter Tryz.func27, Tryz.ntmps27
  go_wp2
  go_loopw [3] (fun iv wr => ∃ k : Nat, iv = .int .i64 k ∧ k ≤ n ∧ Hid (∀ i, i < k → okS nm f i = true) ∧ Below w.heap.size w wr) (fun iv _ => 200 - (intOf iv).toNat)
  case atStart => exact ⟨0, rfl, Nat.zero_le _, (fun i h => absurd h (by omega)), Below.refl _ _⟩
  case round =>
    obtain ⟨k, rfl, hk, hg, hb0⟩ := hrel
    have hz0 := hb0.size
    by_cases hkn : k < n
    · have q1 : decide (k < n) = true := by simp; omega
      have LB := HL.out.lt (by omega)
      have LB2 : B < wr.heap.size := by omega
      have c0 : wr.cell? ⟨B, oo + k * 4, none⟩ = some (.string (nm k)) := cell_later hb0 (HL.out.name hkn)
      have c1 : wr.cell? ⟨B, oo + k * 4 + 1, none⟩ = some (.int .i64 (f k 0)) := cell_later hb0 (HL.out.sha hkn)
      have c2 : wr.cell? ⟨B, oo + k * 4 + 2, none⟩ = some (.int .i64 (f k 1)) := cell_later hb0 (HL.out.dec hkn)
      have c3 : wr.cell? ⟨B, oo + k * 4 + 3, none⟩ = some (.int .i64 (f k 2)) := cell_later hb0 (HL.out.mag hkn)
      have N := fun w => rname_any (nm k) w
      have M := fun w => rstar_any (nm k) (f k 0) (f k 1) (f k 2) w
      have X := fun wq (hb : Below w.heap.size w wq) => rfind_any B oo n c nm f (nm k) wq (HL.out.later hb) hn
      have T := okS_tests (nm := nm) (f := f) hkn
      have RF := stB_false (nm := nm) (f := f) k hkn
      have step : okS nm f k = true → ∀ i, i < k + 1 → okS nm f i = true := fun h i hi => by
        rcases Nat.lt_or_ge i k with h4 | h4
        · exact hg.out i h4
        · obtain rfl : i = k := (by omega)
          exact h
      obtain ⟨s, hs⟩ : ∃ s, nm k = s := ⟨_, rfl⟩
      rw [hs] at c0 N M X T
      clear hs
      cases b1 : nameB s with
      | false =>
        have R := hidden (RF (by cases e : okS nm f k with | false => rfl | true => have := (T.2 e).1; rw [b1] at this; cases this))
        rw [b1] at N
        clear T RF step b1
        replace N := hidden N
        replace M := hidden M
        replace X := hidden X
        go_wp2_with (go_at_call 88; ((with_reducible refine (N.out _).mono ?_); rintro e w' ⟨rfl, hb⟩); (try replace hb := below_undrew hb); (try replace hb := below_undrewN hb); obtain ⟨hcell, hfroz⟩ := bcell hb; have hz := hb.size; (try simp at hz); (try (have z6 := Nat.lt_of_lt_of_le z7 hz)); (try (have z7 := Nat.lt_of_lt_of_le z8 hz)); (try (have z8 := Nat.lt_of_lt_of_le z9 hz)); (try (have z9 := Nat.lt_of_lt_of_le (Nat.lt_succ_self _) hz)); (try have z0 : w.heap.size < w'.heap.size := by omega); (try have z1 : w.heap.size + 1 < w'.heap.size := by omega); (try have z2 : w.heap.size + 1 + 1 < w'.heap.size := by omega); (try have z3 : w.heap.size + 1 + 1 + 1 < w'.heap.size := by omega); (try have y1 : w1.heap.size < w'.heap.size := by omega); (try have y2 : w2.heap.size < w'.heap.size := by omega); (try have y3 : w3.heap.size < w'.heap.size := by omega); (try have x1 : w1.heap.size + 1 < w'.heap.size := by omega); (try have x2 : w2.heap.size + 1 < w'.heap.size := by omega); (try have x3 : w3.heap.size + 1 < w'.heap.size := by omega); (try have z10 : w1.heap.size < w'.heap.size + 1 := by omega); (try have z20 : w2.heap.size < w'.heap.size + 1 := by omega); (try have z30 : w3.heap.size < w'.heap.size + 1 := by omega))
        go_ret
        exact ⟨by rw [R.out]; rfl, by (repeat (first | (with_reducible exact Below.refl _ _) | (with_reducible refine Below.setCell ?_ (by (first | (simp; done) | (simp; omega) | omega)) _) | (with_reducible refine bl_alloc ?_ _) | (with_reducible refine bl_drewN ?_) | (with_reducible refine bl_drew ?_) | (with_reducible refine bl_step (by assumption) ?_)))⟩
      | true =>
        obtain ⟨r, hr⟩ : ∃ r, fstI (fun j => sameB (nm j) s) n = r := ⟨_, rfl⟩
        rw [hr] at X T
        clear hr
        by_cases hrk : r = k
        · cases b2 : numB (f k 0) (f k 1) (f k 2) with
          | false =>
            have R := hidden (RF (by cases e : okS nm f k with | false => rfl | true => have := (T.2 e).2.1; rw [b2] at this; cases this))
            subst hrk
            rw [b1] at N
            have e2 : starI (f k 0) (f k 1) (f k 2) = 2 := by rw [starI, b2]; rfl
            rw [e2] at M
            clear T RF step b1 b2 e2
            replace N := hidden N
            replace M := hidden M
            replace X := hidden X
            go_wp2_with (((first | (go_at_call 88; ((with_reducible refine (N.out _).mono ?_); rintro e w' ⟨rfl, hb⟩); have nm0 := trivial) | (go_at_call 89; ((with_reducible refine (X.out _ (by (repeat (first | (with_reducible exact Below.refl _ _) | (with_reducible refine Below.setCell ?_ (by (first | (simp; done) | (simp; omega) | omega)) _) | (with_reducible refine bl_alloc ?_ _) | (with_reducible refine bl_drewN ?_) | (with_reducible refine bl_drew ?_) | (with_reducible refine bl_step (by assumption) ?_))))).mono ?_); rintro e w' ⟨rfl, hb⟩); have nm1 := trivial) | (go_at_call 90; ((with_reducible refine (M.out _).mono ?_); rintro e w' ⟨rfl, hb⟩); have nm2 := trivial)); (try replace hb := below_undrew hb); (try replace hb := below_undrewN hb); obtain ⟨hcell, hfroz⟩ := bcell hb; have hz := hb.size; (try simp at hz); (try (have z6 := Nat.lt_of_lt_of_le z7 hz)); (try (have z7 := Nat.lt_of_lt_of_le z8 hz)); (try (have z8 := Nat.lt_of_lt_of_le z9 hz)); (try (have z9 := Nat.lt_of_lt_of_le (Nat.lt_succ_self _) hz)); (try have z0 : w.heap.size < w'.heap.size := by omega); (try have z1 : w.heap.size + 1 < w'.heap.size := by omega); (try have z2 : w.heap.size + 1 + 1 < w'.heap.size := by omega); (try have z3 : w.heap.size + 1 + 1 + 1 < w'.heap.size := by omega); (try have y1 : w1.heap.size < w'.heap.size := by omega); (try have y2 : w2.heap.size < w'.heap.size := by omega); (try have x1 : w1.heap.size + 1 < w'.heap.size := by omega); (try have x2 : w2.heap.size + 1 < w'.heap.size := by omega); (try have z10 : w1.heap.size < w'.heap.size + 1 := by omega); (try have z20 : w2.heap.size < w'.heap.size + 1 := by omega); (first | (clear nm0; obtain ⟨w1, rfl⟩ : ∃ v, v = w' := ⟨_, rfl⟩; have LB3 : B < w1.heap.size := (by omega)) | (clear nm1; obtain ⟨w2, rfl⟩ : ∃ v, v = w' := ⟨_, rfl⟩; have LB4 : B < w2.heap.size := (by omega)) | (clear nm2; obtain ⟨w3, rfl⟩ : ∃ v, v = w' := ⟨_, rfl⟩))))
            go_ret
            exact ⟨by rw [R.out]; rfl, by (repeat (first | (with_reducible exact Below.refl _ _) | (with_reducible refine Below.setCell ?_ (by (first | (simp; done) | (simp; omega) | omega)) _) | (with_reducible refine bl_alloc ?_ _) | (with_reducible refine bl_drewN ?_) | (with_reducible refine bl_drew ?_) | (with_reducible refine bl_step (by assumption) ?_)))⟩
          | true =>
            have S := hidden (step (T.1 ⟨b1, b2, hrk⟩))
            subst hrk
            rw [b1] at N
            have e2 : starI (f k 0) (f k 1) (f k 2) = 0 := by rw [starI, b2]; rfl
            rw [e2] at M
            clear T RF step b1 b2 e2
            replace N := hidden N
            replace M := hidden M
            replace X := hidden X
            go_wp2_with (((first | (go_at_call 88; ((with_reducible refine (N.out _).mono ?_); rintro e w' ⟨rfl, hb⟩); have nm0 := trivial) | (go_at_call 89; ((with_reducible refine (X.out _ (by (repeat (first | (with_reducible exact Below.refl _ _) | (with_reducible refine Below.setCell ?_ (by (first | (simp; done) | (simp; omega) | omega)) _) | (with_reducible refine bl_alloc ?_ _) | (with_reducible refine bl_drewN ?_) | (with_reducible refine bl_drew ?_) | (with_reducible refine bl_step (by assumption) ?_))))).mono ?_); rintro e w' ⟨rfl, hb⟩); have nm1 := trivial) | (go_at_call 90; ((with_reducible refine (M.out _).mono ?_); rintro e w' ⟨rfl, hb⟩); have nm2 := trivial)); (try replace hb := below_undrew hb); (try replace hb := below_undrewN hb); obtain ⟨hcell, hfroz⟩ := bcell hb; have hz := hb.size; (try simp at hz); (try (have z6 := Nat.lt_of_lt_of_le z7 hz)); (try (have z7 := Nat.lt_of_lt_of_le z8 hz)); (try (have z8 := Nat.lt_of_lt_of_le z9 hz)); (try (have z9 := Nat.lt_of_lt_of_le (Nat.lt_succ_self _) hz)); (try have z0 : w.heap.size < w'.heap.size := by omega); (try have z1 : w.heap.size + 1 < w'.heap.size := by omega); (try have z2 : w.heap.size + 1 + 1 < w'.heap.size := by omega); (try have z3 : w.heap.size + 1 + 1 + 1 < w'.heap.size := by omega); (try have y1 : w1.heap.size < w'.heap.size := by omega); (try have y2 : w2.heap.size < w'.heap.size := by omega); (try have x1 : w1.heap.size + 1 < w'.heap.size := by omega); (try have x2 : w2.heap.size + 1 < w'.heap.size := by omega); (try have z10 : w1.heap.size < w'.heap.size + 1 := by omega); (try have z20 : w2.heap.size < w'.heap.size + 1 := by omega); (first | (clear nm0; obtain ⟨w1, rfl⟩ : ∃ v, v = w' := ⟨_, rfl⟩; have LB3 : B < w1.heap.size := (by omega)) | (clear nm1; obtain ⟨w2, rfl⟩ : ∃ v, v = w' := ⟨_, rfl⟩; have LB4 : B < w2.heap.size := (by omega)) | (clear nm2; obtain ⟨w3, rfl⟩ : ∃ v, v = w' := ⟨_, rfl⟩))))
            exact ⟨⟨k + 1, by go_num, by omega, S.out, by (repeat (first | (with_reducible exact Below.refl _ _) | (with_reducible refine Below.setCell ?_ (by (first | (simp; done) | (simp; omega) | omega)) _) | (with_reducible refine bl_alloc ?_ _) | (with_reducible refine bl_drewN ?_) | (with_reducible refine bl_drew ?_) | (with_reducible refine bl_step (by assumption) ?_)))⟩, by simp [intOf]; omega⟩
        · have R := hidden (RF (by cases e : okS nm f k with | false => rfl | true => exact absurd (T.2 e).2.2 hrk))
          have q5 : (r == (k : Int)) = false := by simp only [beq_eq_false_iff_ne, ne_eq]; exact hrk
          rw [b1] at N
          clear T RF step b1 M
          replace N := hidden N
          replace X := hidden X
          go_wp2_with (((first | (go_at_call 88; ((with_reducible refine (N.out _).mono ?_); rintro e w' ⟨rfl, hb⟩); have nm0 := trivial) | (go_at_call 89; ((with_reducible refine (X.out _ (by (repeat (first | (with_reducible exact Below.refl _ _) | (with_reducible refine Below.setCell ?_ (by (first | (simp; done) | (simp; omega) | omega)) _) | (with_reducible refine bl_alloc ?_ _) | (with_reducible refine bl_drewN ?_) | (with_reducible refine bl_drew ?_) | (with_reducible refine bl_step (by assumption) ?_))))).mono ?_); rintro e w' ⟨rfl, hb⟩); have nm1 := trivial)); (try replace hb := below_undrew hb); (try replace hb := below_undrewN hb); obtain ⟨hcell, hfroz⟩ := bcell hb; have hz := hb.size; (try simp at hz); (try (have z6 := Nat.lt_of_lt_of_le z7 hz)); (try (have z7 := Nat.lt_of_lt_of_le z8 hz)); (try (have z8 := Nat.lt_of_lt_of_le z9 hz)); (try (have z9 := Nat.lt_of_lt_of_le (Nat.lt_succ_self _) hz)); (try have z0 : w.heap.size < w'.heap.size := by omega); (try have z1 : w.heap.size + 1 < w'.heap.size := by omega); (try have z2 : w.heap.size + 1 + 1 < w'.heap.size := by omega); (try have z3 : w.heap.size + 1 + 1 + 1 < w'.heap.size := by omega); (try have y1 : w1.heap.size < w'.heap.size := by omega); (try have x1 : w1.heap.size + 1 < w'.heap.size := by omega); (try have z10 : w1.heap.size < w'.heap.size + 1 := by omega); (first | (clear nm0; obtain ⟨w1, rfl⟩ : ∃ v, v = w' := ⟨_, rfl⟩; have LB3 : B < w1.heap.size := (by omega)) | (clear nm1; obtain ⟨w2, rfl⟩ : ∃ v, v = w' := ⟨_, rfl⟩; have LB4 : B < w2.heap.size := (by omega)))))
          go_ret
          exact ⟨by rw [R.out]; rfl, by (repeat (first | (with_reducible exact Below.refl _ _) | (with_reducible refine Below.setCell ?_ (by (first | (simp; done) | (simp; omega) | omega)) _) | (with_reducible refine bl_alloc ?_ _) | (with_reducible refine bl_drewN ?_) | (with_reducible refine bl_drew ?_) | (with_reducible refine bl_step (by assumption) ?_)))⟩
    · have q1 : decide (k < n) = false := by simp; omega
      have R := hidden (stB_true (nm := nm) (f := f) (n := n) (fun i hi => hg.out i (by omega)))
      go_wp2
      go_ret
      exact ⟨by rw [R.out]; rfl, by (repeat (first | (with_reducible exact Below.refl _ _) | (with_reducible refine Below.setCell ?_ (by (first | (simp; done) | (simp; omega) | omega)) _) | (with_reducible refine bl_alloc ?_ _) | (with_reducible refine bl_drewN ?_) | (with_reducible refine bl_drew ?_) | (with_reducible refine bl_step (by assumption) ?_)))⟩
end Go.Proofs.YtdhbeoahpfimbaaGreat
