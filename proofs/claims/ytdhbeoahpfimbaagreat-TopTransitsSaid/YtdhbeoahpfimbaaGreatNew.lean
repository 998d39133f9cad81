/- almanac.New of stars alone: the book that it lays. -/
import Derived.Test.YtdhbeoahpfimbaaGreatCln
namespace Go.Proofs.YtdhbeoahpfimbaaGreat
open Go.RowKit
def AR : ByteArray := { data := #[65, 114, 105, 101, 115] }
theorem AR_list : AR.toList = [65, 114, 105, 101, 115] := by
  rw [ByteArray.toList_eq]
  rfl
theorem ar_ne {s : ByteArray} (h : s ≠ AR) : (s.toList == [65, 114, 105, 101, 115]) = false := by
  rw [← AR_list]
  exact same_ne h
set_option maxHeartbeats 1000000 in
theorem new2_any (s : ByteArray) (a b c : Int) (p : Addr) (w : World) (hp : w.cell? p = some (.slice none 0 0)) :
    Calls Tryz.prog 101 #[.agg #[.string s, .int .i64 a, .int .i64 b, .int .i64 c], .pointer (some p)] w fun e w' => e = .returned (.bool (sameB s AR)) ∧ Below w.heap.size w w' := by
  have hB := World.block_lt_of_cell? _ _ hp
  by_cases h : s = AR
  · have R := hidden (show sameB s AR = true by rw [h]; exact same_self _)
    have E : s.toList = [65, 114, 105, 101, 115] := by rw [h]; exact AR_list
    clear h
    go_enter Tryz.func101, Tryz.ntmps101
    go_wp2
    go_ret
    exact ⟨by rw [R.out]; rfl, by (repeat (first | (with_reducible exact Below.refl _ _) | (with_reducible refine Below.setCell ?_ (by (first | (simp; done) | (simp; omega) | omega)) _) | (with_reducible refine bl_alloc ?_ _) | (with_reducible refine bl_drewN ?_) | (with_reducible refine bl_drew ?_) | (with_reducible refine bl_step (by assumption) ?_)))⟩
  · have R := hidden (show sameB s AR = false from same_ne h)
    have E : (s.toList == [65, 114, 105, 101, 115]) = false := ar_ne h
    clear h
    have K := hidden fun w => nilcontains_any s w
    go_enter Tryz.func101, Tryz.ntmps101
    go_wp2_with (go_at_call 99; ((with_reducible refine (K.out _).mono ?_); rintro e w' ⟨rfl, rfl⟩))
    go_ret
    exact ⟨by rw [R.out]; rfl, by (repeat (first | (with_reducible exact Below.refl _ _) | (with_reducible refine Below.setCell ?_ (by (first | (simp; done) | (simp; omega) | omega)) _) | (with_reducible refine bl_alloc ?_ _) | (with_reducible refine bl_drewN ?_) | (with_reducible refine bl_drew ?_) | (with_reducible refine bl_step (by assumption) ?_)))⟩
set_option maxHeartbeats 1000000 in
theorem new2_idx (B oo n c : Nat) (nm : Nat → ByteArray) (f : Nat → Nat → Int) (g : Nat → Bool) (cap : Value) (r : Int) (w : World) (hl : StS w B oo n nm f) (hn : n ≤ 100)
    (VV : Hid (∀ i, i < n → ∀ wc, Below w.heap.size w wc → Calls Tryz.prog 101 #[stV nm f i, cap] wc fun e w' => e = .returned (.bool (g i)) ∧ Below wc.heap.size wc w'))
    (h1 : Hid (∀ i, i < n → g i = true → (∀ j, j < i → g j = false) → r = i)) (h2 : Hid ((∀ i, i < n → g i = false) → r = -1)) :
    Calls Tryz.prog 182 #[.slice (some ⟨B, oo, none⟩) n c, .func (.func 101) #[] #[cap]] w fun e w' => e = .returned (.int .i64 r) ∧ Below w.heap.size w w' := by
  have HL := hidden hl
  clear hl
  go_enter Tryz.func182, Tryz.ntmps182
  go_wp2
  go_loopw [8] (fun iv wr => ∃ k : Nat, iv = .int .i64 k ∧ k ≤ n ∧ Hid (∀ i, i < k → g i = false) ∧ Below w.heap.size w wr) (fun iv _ => 200 - (intOf iv).toNat)
  case atStart => exact ⟨0, rfl, Nat.zero_le _, (fun i h => absurd h (by omega)), Below.refl _ _⟩
  case round =>
    obtain ⟨k, rfl, hk, hg, hb0⟩ := hrel
    have hz0 := hb0.size
    by_cases hkn : k < n
    · have q1 : decide (k < n) = true := by simp; omega
      have LB := HL.out.lt (by omega)
      have V := VV.out k hkn _ hb0
      obtain ⟨s, hs⟩ : ∃ s, nm k = s := ⟨_, rfl⟩
      have c0 : wr.cell? ⟨B, oo + k * 4, none⟩ = some (.string s) := by rw [← hs]; exact cell_later hb0 (HL.out.name hkn)
      have c1 : wr.cell? ⟨B, oo + k * 4 + 1, none⟩ = some (.int .i64 (f k 0)) := cell_later hb0 (HL.out.sha hkn)
      have c2 : wr.cell? ⟨B, oo + k * 4 + 2, none⟩ = some (.int .i64 (f k 1)) := cell_later hb0 (HL.out.dec hkn)
      have c3 : wr.cell? ⟨B, oo + k * 4 + 3, none⟩ = some (.int .i64 (f k 2)) := cell_later hb0 (HL.out.mag hkn)
      rw [stV, hs] at V
      clear hs
      cases gk : g k with
      | false =>
        rw [gk] at V
        replace V := hidden V
        go_wp2_with (go_at_call 101; ((with_reducible refine V.out.mono ?_); rintro e w' ⟨rfl, hb⟩); (try replace hb := below_undrew hb); (try replace hb := below_undrewN hb); obtain ⟨hcell, hfroz⟩ := bcell hb; have hz := hb.size; (try simp at hz); (try (have z6 := Nat.lt_of_lt_of_le z7 hz)); (try (have z7 := Nat.lt_of_lt_of_le z8 hz)); (try (have z8 := Nat.lt_of_lt_of_le z9 hz)); (try (have z9 := Nat.lt_of_lt_of_le (Nat.lt_succ_self _) hz)); (try have z0 : w.heap.size < w'.heap.size := by omega); (try have z1 : w.heap.size + 1 < w'.heap.size := by omega); (try have z2 : w.heap.size + 1 + 1 < w'.heap.size := by omega); (try have z3 : w.heap.size + 1 + 1 + 1 < w'.heap.size := by omega))
        exact ⟨⟨k + 1, by go_num, by omega, (fun i h => by rcases Nat.lt_or_ge i k with h4 | h4; exact hg.out i h4; obtain rfl : i = k := (by omega); exact gk), by (repeat (first | (with_reducible exact Below.refl _ _) | (with_reducible refine Below.setCell ?_ (by (first | (simp; done) | (simp; omega) | omega)) _) | (with_reducible refine bl_alloc ?_ _) | (with_reducible refine bl_drewN ?_) | (with_reducible refine bl_drew ?_) | (with_reducible refine bl_step (by assumption) ?_)))⟩, by simp [intOf]; omega⟩
      | true =>
        rw [gk] at V
        replace V := hidden V
        go_wp2_with (go_at_call 101; ((with_reducible refine V.out.mono ?_); rintro e w' ⟨rfl, hb⟩); (try replace hb := below_undrew hb); (try replace hb := below_undrewN hb); obtain ⟨hcell, hfroz⟩ := bcell hb; have hz := hb.size; (try simp at hz); (try (have z6 := Nat.lt_of_lt_of_le z7 hz)); (try (have z7 := Nat.lt_of_lt_of_le z8 hz)); (try (have z8 := Nat.lt_of_lt_of_le z9 hz)); (try (have z9 := Nat.lt_of_lt_of_le (Nat.lt_succ_self _) hz)); (try have z0 : w.heap.size < w'.heap.size := by omega); (try have z1 : w.heap.size + 1 < w'.heap.size := by omega); (try have z2 : w.heap.size + 1 + 1 < w'.heap.size := by omega); (try have z3 : w.heap.size + 1 + 1 + 1 < w'.heap.size := by omega))
        go_ret
        obtain rfl : r = k := h1.out k hkn gk hg.out
        exact ⟨rfl, by (repeat (first | (with_reducible exact Below.refl _ _) | (with_reducible refine Below.setCell ?_ (by (first | (simp; done) | (simp; omega) | omega)) _) | (with_reducible refine bl_alloc ?_ _) | (with_reducible refine bl_drewN ?_) | (with_reducible refine bl_drew ?_) | (with_reducible refine bl_step (by assumption) ?_)))⟩
    · have q1 : decide (k < n) = false := by simp; omega
      have e : n = k := by omega
      subst e
      go_wp2
      go_ret
      obtain rfl : r = -1 := h2.out hg.out
      exact ⟨rfl, by (repeat (first | (with_reducible exact Below.refl _ _) | (with_reducible refine Below.setCell ?_ (by (first | (simp; done) | (simp; omega) | omega)) _) | (with_reducible refine bl_alloc ?_ _) | (with_reducible refine bl_drewN ?_) | (with_reducible refine bl_drew ?_) | (with_reducible refine bl_step (by assumption) ?_)))⟩
theorem hasA_any (B oo n c : Nat) (nm : Nat → ByteArray) (f : Nat → Nat → Int) (p : Addr) (w : World) (hl : StS w B oo n nm f) (hn : n ≤ 100) (hp : w.cell? p = some (.slice none 0 0)) :
    Calls Tryz.prog 100 #[.slice (some ⟨B, oo, none⟩) n c, .func (.func 101) #[] #[.pointer (some p)]] w fun e w' => e = .returned (.bool (decide (0 ≤ fstI (fun j => sameB (nm j) AR) n))) ∧ Below w.heap.size w w' := by
  have V := fun r h1 h2 => new2_idx B oo n c nm f (fun j => sameB (nm j) AR) (.pointer (some p)) r w hl hn (fun i _ wc hb => new2_any _ _ _ _ _ wc (cell_later hb hp)) h1 h2
  obtain ⟨r, hr⟩ : ∃ r, fstI (fun j => sameB (nm j) AR) n = r := ⟨_, rfl⟩
  replace V := hidden (V r (fun i hi hg h => by rw [← hr]; exact fst_hit _ n i hi hg h) (fun h => by rw [← hr]; exact fst_none _ n h))
  rw [hr]
  clear hr hl hp
  by_cases h0 : 0 ≤ r
  · go_enter Tryz.func100, Tryz.ntmps100
    go_wp2_with (go_at_call 182; ((with_reducible refine V.out.mono ?_); rintro e w' ⟨rfl, hb⟩))
    go_ret
    exact ⟨by first | rfl | simp [h0], by (repeat (first | (with_reducible exact Below.refl _ _) | (with_reducible refine Below.setCell ?_ (by (first | (simp; done) | (simp; omega) | omega)) _) | (with_reducible refine bl_alloc ?_ _) | (with_reducible refine bl_drewN ?_) | (with_reducible refine bl_drew ?_) | (with_reducible refine bl_step (by assumption) ?_)))⟩
  · go_enter Tryz.func100, Tryz.ntmps100
    go_wp2_with (go_at_call 182; ((with_reducible refine V.out.mono ?_); rintro e w' ⟨rfl, hb⟩))
    go_ret
    exact ⟨by first | rfl | simp [h0], by (repeat (first | (with_reducible exact Below.refl _ _) | (with_reducible refine Below.setCell ?_ (by (first | (simp; done) | (simp; omega) | omega)) _) | (with_reducible refine bl_alloc ?_ _) | (with_reducible refine bl_drewN ?_) | (with_reducible refine bl_drew ?_) | (with_reducible refine bl_step (by assumption) ?_)))⟩
/-- A book of stars alone. -/
def BkS (w : World) (b n : Nat) (nm : Nat → ByteArray) (f : Nat → Nat → Int) : Prop :=
  w.cell? ⟨b, 0, none⟩ = some (.slice none 0 0) ∧ w.cell? ⟨b, 1, none⟩ = some (.slice none 0 0) ∧ ∃ g c, w.cell? ⟨b, 2, none⟩ = some (.slice (some ⟨g, 0, none⟩) n c) ∧ StS w g 0 n nm f
/-- What New returns: no book where a star is named as the first point of Aries (at r), else a book. -/
def NewR (w : World) (r : Int) (n : Nat) (nm : Nat → ByteArray) (f : Nat → Nat → Int) (e : Ending) (w' : World) : Prop :=
  Below w.heap.size w w' ∧ ((0 ≤ r ∧ e = .returned (.tuple #[.pointer none, .int .i64 10])) ∨ (r < 0 ∧ ∃ b, e = .returned (.tuple #[.pointer (some ⟨b, 0, none⟩), .int .i64 0]) ∧ BkS w' b n nm f))
set_option maxHeartbeats 4000000 in
theorem new_any (B oo n c : Nat) (nm : Nat → ByteArray) (f : Nat → Nat → Int) (w : World) (hl : StS w B oo n nm f) (hn : n ≤ 100) (h0 : 0 < n) (hv : stB nm f n = true) :
    Calls Tryz.prog 28 #[.slice none 0 0, .slice (some ⟨B, oo, none⟩) n c] w fun e w' => NewR w (fstI (fun j => sameB (nm j) AR) n) n nm f e w' := by
  have LB := hl.lt h0
  have V := fun wq (hb : Below w.heap.size w wq) => cvalid_any B oo n c nm f wq (hl.later hb) hn
  rw [hv] at V
  replace V := hidden V
  have P1 := hidden fun w => nilhas_any (.func (.func 92) #[] #[]) w
  have P2 := hidden nilcopied_any
  have K := hidden fun wq (hb : Below w.heap.size w wq) => clone_stars B oo n c nm f wq (hl.later hb) hn h0
  have T := hidden tracked_any
  have C := hidden (nilcontains_any { data := #[65, 114, 105, 101, 115] })
  have H := hidden fun wq p (hb : Below w.heap.size w wq) (hp : wq.cell? p = some (.slice none 0 0)) => hasA_any B oo n c nm f p wq (hl.later hb) hn hp
  obtain ⟨R0, hR0⟩ : ∃ r, fstI (fun j => sameB (nm j) AR) n = r := ⟨_, rfl⟩
  rw [hR0] at H ⊢
  clear hv hR0
  have HL := hidden hl
  clear hl
  go_enter Tryz.func28, Tryz.ntmps28
  go_wp2_with (first | (((first | (go_at_call 94; ((with_reducible refine (V.out _ (by (repeat (first | (with_reducible exact Below.refl _ _) | (with_reducible refine Below.setCell ?_ (by (first | (simp; done) | (simp; omega) | omega)) _) | (with_reducible refine bl_alloc ?_ _) | (with_reducible refine bl_drewN ?_) | (with_reducible refine bl_drew ?_) | (with_reducible refine bl_step (by assumption) ?_))))).mono ?_); rintro e w' ⟨rfl, hb⟩); have nm0 := trivial) | (go_at_call 96; ((with_reducible refine (K.out _ (by (repeat (first | (with_reducible exact Below.refl _ _) | (with_reducible refine Below.setCell ?_ (by (first | (simp; done) | (simp; omega) | omega)) _) | (with_reducible refine bl_alloc ?_ _) | (with_reducible refine bl_drewN ?_) | (with_reducible refine bl_drew ?_) | (with_reducible refine bl_step (by assumption) ?_))))).mono ?_); rintro e w' ⟨g, c', rfl, hst, hg, hb⟩); have nm1 := trivial)); (try replace hb := below_undrew hb); (try replace hb := below_undrewN hb); obtain ⟨hcell, hfroz⟩ := bcell hb; have hz := hb.size; (try simp at hz); (try (have z6 := Nat.lt_of_lt_of_le z7 hz)); (try (have z7 := Nat.lt_of_lt_of_le z8 hz)); (try (have z8 := Nat.lt_of_lt_of_le z9 hz)); (try (have z9 := Nat.lt_of_lt_of_le (Nat.lt_succ_self _) hz)); (try have z0 : w.heap.size < w'.heap.size := by omega); (try have z1 : w.heap.size + 1 < w'.heap.size := by omega); (try have z2 : w.heap.size + 1 + 1 < w'.heap.size := by omega); (try have z3 : w.heap.size + 1 + 1 + 1 < w'.heap.size := by omega); (try have y1 : w1.heap.size < w'.heap.size := by omega); (try have x1 : w1.heap.size + 1 < w'.heap.size := by omega); (try have z10 : w1.heap.size < w'.heap.size + 1 := by omega); (first | (clear nm0; obtain ⟨w1, rfl⟩ : ∃ v, v = w' := ⟨_, rfl⟩) | (clear nm1; obtain ⟨w2, rfl⟩ : ∃ v, v = w' := ⟨_, rfl⟩)))) | (go_at_call 91; ((with_reducible refine (P1.out _).mono ?_); rintro e w' ⟨rfl, rfl⟩)) | (go_at_call 95; ((with_reducible refine (P2.out _).mono ?_); rintro e w' ⟨rfl, rfl⟩)))
  refine wp_loop_rounds 1 ?_
  rw [rounds_succ]
  by_cases hA : 0 ≤ R0
  · go_wp2_with (first | (go_at_call 98; ((with_reducible refine (T.out _ _ (by simp [go_sem, *])).mono ?_); rintro e w' ⟨rfl, rfl⟩)) | (go_at_call 99; ((with_reducible refine (C.out _).mono ?_); rintro e w' ⟨rfl, rfl⟩)) | (go_at_call 100; ((with_reducible refine (H.out _ _ (by (repeat (first | (with_reducible exact Below.refl _ _) | (with_reducible refine Below.setCell ?_ (by (first | (simp; done) | (simp; omega) | omega)) _) | (with_reducible refine bl_alloc ?_ _) | (with_reducible refine bl_drewN ?_) | (with_reducible refine bl_drew ?_) | (with_reducible refine bl_step (by assumption) ?_)))) (by simp [go_sem, *])).mono ?_); rintro e w' ⟨rfl, hb⟩); (try replace hb := below_undrew hb); (try replace hb := below_undrewN hb); obtain ⟨hcell, hfroz⟩ := bcell hb; have hz := hb.size; (try simp at hz); (try (have z6 := Nat.lt_of_lt_of_le z7 hz)); (try (have z7 := Nat.lt_of_lt_of_le z8 hz)); (try (have z8 := Nat.lt_of_lt_of_le z9 hz)); (try (have z9 := Nat.lt_of_lt_of_le (Nat.lt_succ_self _) hz)); (try have z0 : w.heap.size < w'.heap.size := by omega); (try have z1 : w.heap.size + 1 < w'.heap.size := by omega); (try have z2 : w.heap.size + 1 + 1 < w'.heap.size := by omega); (try have z3 : w.heap.size + 1 + 1 + 1 < w'.heap.size := by omega); (try have y1 : w1.heap.size < w'.heap.size := by omega); (try have y2 : w2.heap.size < w'.heap.size := by omega); (try have x1 : w1.heap.size + 1 < w'.heap.size := by omega); (try have x2 : w2.heap.size + 1 < w'.heap.size := by omega); (try have z10 : w1.heap.size < w'.heap.size + 1 := by omega); (try have z20 : w2.heap.size < w'.heap.size + 1 := by omega); obtain ⟨w3, rfl⟩ : ∃ v, v = w' := ⟨_, rfl⟩))
    refine bodyPost_ret (v := .tuple #[.pointer none, .int .i64 10]) (by first | (simp only [results, Tryz.results28]; go_simp; done) | simp [results, Tryz.results28, go_sem, *]) rfl ⟨by (repeat (first | (with_reducible exact Below.refl _ _) | (with_reducible refine Below.setCell ?_ (by (first | (simp; done) | (simp; omega) | omega)) _) | (with_reducible refine bl_alloc ?_ _) | (with_reducible refine bl_drewN ?_) | (with_reducible refine bl_drew ?_) | (with_reducible refine bl_step (by assumption) ?_))), .inl ⟨hA, rfl⟩⟩
  · go_wp2_with (first | (go_at_call 98; ((with_reducible refine (T.out _ _ (by simp [go_sem, *])).mono ?_); rintro e w' ⟨rfl, rfl⟩)) | (go_at_call 99; ((with_reducible refine (C.out _).mono ?_); rintro e w' ⟨rfl, rfl⟩)) | (go_at_call 100; ((with_reducible refine (H.out _ _ (by (repeat (first | (with_reducible exact Below.refl _ _) | (with_reducible refine Below.setCell ?_ (by (first | (simp; done) | (simp; omega) | omega)) _) | (with_reducible refine bl_alloc ?_ _) | (with_reducible refine bl_drewN ?_) | (with_reducible refine bl_drew ?_) | (with_reducible refine bl_step (by assumption) ?_)))) (by simp [go_sem, *])).mono ?_); rintro e w' ⟨rfl, hb⟩); (try replace hb := below_undrew hb); (try replace hb := below_undrewN hb); obtain ⟨hcell, hfroz⟩ := bcell hb; have hz := hb.size; (try simp at hz); (try (have z6 := Nat.lt_of_lt_of_le z7 hz)); (try (have z7 := Nat.lt_of_lt_of_le z8 hz)); (try (have z8 := Nat.lt_of_lt_of_le z9 hz)); (try (have z9 := Nat.lt_of_lt_of_le (Nat.lt_succ_self _) hz)); (try have z0 : w.heap.size < w'.heap.size := by omega); (try have z1 : w.heap.size + 1 < w'.heap.size := by omega); (try have z2 : w.heap.size + 1 + 1 < w'.heap.size := by omega); (try have z3 : w.heap.size + 1 + 1 + 1 < w'.heap.size := by omega); (try have y1 : w1.heap.size < w'.heap.size := by omega); (try have y2 : w2.heap.size < w'.heap.size := by omega); (try have x1 : w1.heap.size + 1 < w'.heap.size := by omega); (try have x2 : w2.heap.size + 1 < w'.heap.size := by omega); (try have z10 : w1.heap.size < w'.heap.size + 1 := by omega); (try have z20 : w2.heap.size < w'.heap.size + 1 := by omega); obtain ⟨w3, rfl⟩ : ∃ v, v = w' := ⟨_, rfl⟩))
    refine bodyPost_ret (v := .tuple #[.pointer (some ⟨w2.heap.size, 0, none⟩), .int .i64 0]) (by first | (simp only [results, Tryz.results28]; go_simp; done) | simp [results, Tryz.results28, go_sem, *]) rfl ⟨by (repeat (first | (with_reducible exact Below.refl _ _) | (with_reducible refine Below.setCell ?_ (by (first | (simp; done) | (simp; omega) | omega)) _) | (with_reducible refine bl_alloc ?_ _) | (with_reducible refine bl_drewN ?_) | (with_reducible refine bl_drew ?_) | (with_reducible refine bl_step (by assumption) ?_))), .inr ⟨(by omega), w2.heap.size, rfl, ?_⟩⟩
    exact ⟨by simp [go_sem, *], by simp [go_sem, *], g, c', by simp [go_sem, *], hst.later (by (repeat (first | (with_reducible exact Below.refl _ _) | (with_reducible refine Below.setCell ?_ (by (first | (simp; done) | (simp; omega) | omega)) _) | (with_reducible refine bl_alloc ?_ _) | (with_reducible refine bl_drewN ?_) | (with_reducible refine bl_drew ?_) | (with_reducible refine bl_step (by assumption) ?_))))⟩
end Go.Proofs.YtdhbeoahpfimbaaGreat
