/- Where a star of a book is: it is found by its name. -/
import Derived.Test.YtdhbeoahpfimbaaGreatNew
import Derived.Test.YtdhbeoahpfimbaaGreatTraP
import Derived.Test.YtdhbeoahpfimbaaGreatRa
namespace Go.Proofs.YtdhbeoahpfimbaaGreat
open Go.RowKit
set_option maxHeartbeats 1000000 in
theorem whr1_any (s t : ByteArray) (a b c : Int) (p : Addr) (w : World) (hp : w.cell? p = some (.string t)) :
    Calls Tryz.prog 186 #[.agg #[.string s, .int .i64 a, .int .i64 b, .int .i64 c], .pointer (some p)] w fun e w' => e = .returned (.bool (sameB s t)) ∧ Below w.heap.size w w' := by
  have hB := World.block_lt_of_cell? _ _ hp
  by_cases h : s = t
  · subst h
    have R := hidden (same_self s)
    go_enter Tryz.func186, Tryz.ntmps186
    go_wp2
    go_ret
    exact ⟨by rw [R.out]; rfl, by (repeat (first | (with_reducible exact Below.refl _ _) | (with_reducible refine Below.setCell ?_ (by (first | (simp; done) | (simp; omega) | omega)) _) | (with_reducible refine bl_alloc ?_ _) | (with_reducible refine bl_drewN ?_) | (with_reducible refine bl_drew ?_) | (with_reducible refine bl_step (by assumption) ?_)))⟩
  · have R := hidden (same_ne h)
    have E : (s.toList == t.toList) = false := same_ne h
    clear h
    go_enter Tryz.func186, Tryz.ntmps186
    go_wp2
    go_ret
    exact ⟨by rw [R.out]; rfl, by (repeat (first | (with_reducible exact Below.refl _ _) | (with_reducible refine Below.setCell ?_ (by (first | (simp; done) | (simp; omega) | omega)) _) | (with_reducible refine bl_alloc ?_ _) | (with_reducible refine bl_drewN ?_) | (with_reducible refine bl_drew ?_) | (with_reducible refine bl_step (by assumption) ?_)))⟩
set_option maxHeartbeats 1000000 in
theorem whr1_idx (B oo n c : Nat) (nm : Nat → ByteArray) (f : Nat → Nat → Int) (g : Nat → Bool) (cap : Value) (r : Int) (w : World) (hl : StS w B oo n nm f) (hn : n ≤ 100)
    (VV : Hid (∀ i, i < n → ∀ wc, Below w.heap.size w wc → Calls Tryz.prog 186 #[stV nm f i, cap] wc fun e w' => e = .returned (.bool (g i)) ∧ Below wc.heap.size wc w'))
    (h1 : Hid (∀ i, i < n → g i = true → (∀ j, j < i → g j = false) → r = i)) (h2 : Hid ((∀ i, i < n → g i = false) → r = -1)) :
    Calls Tryz.prog 182 #[.slice (some ⟨B, oo, none⟩) n c, .func (.func 186) #[] #[cap]] w fun e w' => e = .returned (.int .i64 r) ∧ Below w.heap.size w w' := by
  have HL := hidden hl
  clear hl
  go_enter Tryz.func182, Tryz.ntmps182
  go_wp2
  go_loopw [8] (fun iv wr => ∃ k : Nat, iv = .int .i64 k ∧ k ≤ n ∧ Hid (∀ i, i < k → g i = false) ∧ Below w.heap.size w wr) (fun iv _ => 200 - (intOf iv).toNat)
  case atStart => exact ⟨0, rfl, Nat.zero_le _, (fun i h => absurd h (by omega)), Below.refl _ _⟩
  case round =>
    obtain ⟨k, rfl, hk, hg, hb0⟩ := hrel
    have hz0 := hb0.size
    by_cases hkn : k < n
    · have q1 : decide (k < n) = true := by simp; omega
      have LB := HL.out.lt (by omega)
      have V := VV.out k hkn _ hb0
      obtain ⟨s, hs⟩ : ∃ s, nm k = s := ⟨_, rfl⟩
      have c0 : wr.cell? ⟨B, oo + k * 4, none⟩ = some (.string s) := by rw [← hs]; exact cell_later hb0 (HL.out.name hkn)
      have c1 : wr.cell? ⟨B, oo + k * 4 + 1, none⟩ = some (.int .i64 (f k 0)) := cell_later hb0 (HL.out.sha hkn)
      have c2 : wr.cell? ⟨B, oo + k * 4 + 2, none⟩ = some (.int .i64 (f k 1)) := cell_later hb0 (HL.out.dec hkn)
      have c3 : wr.cell? ⟨B, oo + k * 4 + 3, none⟩ = some (.int .i64 (f k 2)) := cell_later hb0 (HL.out.mag hkn)
      rw [stV, hs] at V
      clear hs
      cases gk : g k with
      | false =>
        rw [gk] at V
        replace V := hidden V
        go_wp2_with (go_at_call 186; ((with_reducible refine V.out.mono ?_); rintro e w' ⟨rfl, hb⟩); (try replace hb := below_undrew hb); (try replace hb := below_undrewN hb); obtain ⟨hcell, hfroz⟩ := bcell hb; have hz := hb.size; (try simp at hz); (try (have z6 := Nat.lt_of_lt_of_le z7 hz)); (try (have z7 := Nat.lt_of_lt_of_le z8 hz)); (try (have z8 := Nat.lt_of_lt_of_le z9 hz)); (try (have z9 := Nat.lt_of_lt_of_le (Nat.lt_succ_self _) hz)); (try have z0 : w.heap.size < w'.heap.size := by omega); (try have z1 : w.heap.size + 1 < w'.heap.size := by omega); (try have z2 : w.heap.size + 1 + 1 < w'.heap.size := by omega); (try have z3 : w.heap.size + 1 + 1 + 1 < w'.heap.size := by omega))
        exact ⟨⟨k + 1, by go_num, by omega, (fun i h => by rcases Nat.lt_or_ge i k with h4 | h4; exact hg.out i h4; obtain rfl : i = k := (by omega); exact gk), by (repeat (first | (with_reducible exact Below.refl _ _) | (with_reducible refine Below.setCell ?_ (by (first | (simp; done) | (simp; omega) | omega)) _) | (with_reducible refine bl_alloc ?_ _) | (with_reducible refine bl_drewN ?_) | (with_reducible refine bl_drew ?_) | (with_reducible refine bl_step (by assumption) ?_)))⟩, by simp [intOf]; omega⟩
      | true =>
        rw [gk] at V
        replace V := hidden V
        go_wp2_with (go_at_call 186; ((with_reducible refine V.out.mono ?_); rintro e w' ⟨rfl, hb⟩); (try replace hb := below_undrew hb); (try replace hb := below_undrewN hb); obtain ⟨hcell, hfroz⟩ := bcell hb; have hz := hb.size; (try simp at hz); (try (have z6 := Nat.lt_of_lt_of_le z7 hz)); (try (have z7 := Nat.lt_of_lt_of_le z8 hz)); (try (have z8 := Nat.lt_of_lt_of_le z9 hz)); (try (have z9 := Nat.lt_of_lt_of_le (Nat.lt_succ_self _) hz)); (try have z0 : w.heap.size < w'.heap.size := by omega); (try have z1 : w.heap.size + 1 < w'.heap.size := by omega); (try have z2 : w.heap.size + 1 + 1 < w'.heap.size := by omega); (try have z3 : w.heap.size + 1 + 1 + 1 < w'.heap.size := by omega))
        go_ret
        obtain rfl : r = k := h1.out k hkn gk hg.out
        exact ⟨rfl, by (repeat (first | (with_reducible exact Below.refl _ _) | (with_reducible refine Below.setCell ?_ (by (first | (simp; done) | (simp; omega) | omega)) _) | (with_reducible refine bl_alloc ?_ _) | (with_reducible refine bl_drewN ?_) | (with_reducible refine bl_drew ?_) | (with_reducible refine bl_step (by assumption) ?_)))⟩
    · have q1 : decide (k < n) = false := by simp; omega
      have e : n = k := by omega
      subst e
      go_wp2
      go_ret
      obtain rfl : r = -1 := h2.out hg.out
      exact ⟨rfl, by (repeat (first | (with_reducible exact Below.refl _ _) | (with_reducible refine Below.setCell ?_ (by (first | (simp; done) | (simp; omega) | omega)) _) | (with_reducible refine bl_alloc ?_ _) | (with_reducible refine bl_drewN ?_) | (with_reducible refine bl_drew ?_) | (with_reducible refine bl_step (by assumption) ?_)))⟩
set_option maxHeartbeats 1000000 in
theorem around_any (n : Int) (w : World) (h0 : -1000000 ≤ n) (h1 : n ≤ 1000000) :
    Calls Tryz.prog 246 #[.int .i64 n] w fun e w' => e = .returned (.agg #[.int .i64 (100 * n - 50), .int .i64 (100 * n + 50)]) ∧ Below w.heap.size w w' := by
  go_enter Tryz.func246, Tryz.ntmps246
  go_wp2
  exact bodyPost_ret (v := .agg #[.int .i64 (100 * n - 50), .int .i64 (100 * n + 50)]) (by first | (simp only [results, Tryz.results246]; go_simp; done) | simp [results, Tryz.results246, go_sem, *]) rfl ⟨rfl, by (repeat (first | (with_reducible exact Below.refl _ _) | (with_reducible refine Below.setCell ?_ (by (first | (simp; done) | (simp; omega) | omega)) _) | (with_reducible refine bl_alloc ?_ _) | (with_reducible refine bl_drewN ?_) | (with_reducible refine bl_drew ?_) | (with_reducible refine bl_step (by assumption) ?_)))⟩
theorem calls_named {P : Program} {f : Nat} {args : Array Value} {w : World} {Q : Ending → World → Prop} (h : ∀ v, v = w → Calls P f args v Q) : Calls P f args w Q := h w rfl
/-- The declinations of a star. -/
def dcLo (d : Int) : Int := max (100 * d - 50) (-5400000)
def dcHi (d : Int) : Int := min (100 * d + 50) 5400000
set_option maxHeartbeats 4000000 in
theorem star_ok (nm : ByteArray) (s d m a b : Int) (w : World) (h1 : timeB a b = true) (s0 : 0 ≤ s) (s1 : s ≤ 215999) (d0 : -54000 ≤ d) (d1 : d ≤ 54000) :
    Calls Tryz.prog 188 #[.agg #[.string nm, .int .i64 s, .int .i64 d, .int .i64 m], .agg #[.int .i64 a, .int .i64 b]] w fun e w' => e = .returned (.tuple #[.agg #[.int .i64 (ghLo s a b), .int .i64 (ghHi s a b), .int .i64 (dcLo d), .int .i64 (dcHi d), .int .i64 0, .int .i64 0, .int .i64 0, .int .i64 0], .int .i64 0]) ∧ Below w.heap.size w w' := by
  have q := arc_dir _ _ (low_le_up (timeB_t h1).1)
  have I := hidden fun w => interval_ok a b w h1
  have A1 := hidden fun w => around_any s w (by omega) (by omega)
  have A2 := hidden fun w => around_any d w (by omega) (by omega)
  obtain ⟨x, hx⟩ : ∃ x, arcLo (lowA a) (upA b) = x := ⟨_, rfl⟩
  obtain ⟨y, hy⟩ : ∃ y, arcHi (lowA a) (upA b) = y := ⟨_, rfl⟩
  unfold ghLo ghHi
  rw [hx, hy] at q I ⊢
  clear hx hy
  have P := hidden fun w => add_ok x y (100 * s - 50) (100 * s + 50) w (arcB_mk (by omega)) (arcB_mk (by omega)) (fitsB_mk (by omega)) (fitsB_mk (by omega))
  have T := hidden fun w => turn_ok (x + (100 * s - 50)) (y + (100 * s + 50)) w (arcB_mk (by omega))
  clear q
  go_enter Tryz.func188, Tryz.ntmps188
  go_wp2_with (go_at_call 187; ((with_reducible refine (I.out _).mono ?_); rintro e w' ⟨rfl, hb⟩); (try replace hb := below_undrew hb); (try replace hb := below_undrewN hb); obtain ⟨hcell, hfroz⟩ := bcell hb; have hz := hb.size; (try simp at hz); (try (have z6 := Nat.lt_of_lt_of_le z7 hz)); (try (have z7 := Nat.lt_of_lt_of_le z8 hz)); (try (have z8 := Nat.lt_of_lt_of_le z9 hz)); (try (have z9 := Nat.lt_of_lt_of_le (Nat.lt_succ_self _) hz)); (try have z0 : w.heap.size < w'.heap.size := by omega); (try have z1 : w.heap.size + 1 < w'.heap.size := by omega); (try have z2 : w.heap.size + 1 + 1 < w'.heap.size := by omega); (try have z3 : w.heap.size + 1 + 1 + 1 < w'.heap.size := by omega); obtain ⟨w1, rfl⟩ : ∃ v, v = w' := ⟨_, rfl⟩)
  (refine name_code ?_; intro w' hb; (try replace hb := below_undrew hb); (try replace hb := below_undrewN hb); obtain ⟨hcell, hfroz⟩ := bcell hb; have hz := hb.size; (try simp at hz); (try (have z6 := Nat.lt_of_lt_of_le z7 hz)); (try (have z7 := Nat.lt_of_lt_of_le z8 hz)); (try (have z8 := Nat.lt_of_lt_of_le z9 hz)); (try (have z9 := Nat.lt_of_lt_of_le (Nat.lt_succ_self _) hz)); (try have z0 : w.heap.size < w'.heap.size := by omega); (try have z1 : w.heap.size + 1 < w'.heap.size := by omega); (try have z2 : w.heap.size + 1 + 1 < w'.heap.size := by omega); (try have z3 : w.heap.size + 1 + 1 + 1 < w'.heap.size := by omega); (try have y1 : w1.heap.size < w'.heap.size := by omega); (try have x1 : w1.heap.size + 1 < w'.heap.size := by omega); (try have z10 : w1.heap.size < w'.heap.size + 1 := by omega))
  have x0 : w'.cell? ⟨w1.heap.size, 0, none⟩ = some (.int .i64 x) := by simp [go_sem, *]
  have x1 : w'.cell? ⟨w1.heap.size, 1, none⟩ = some (.int .i64 y) := by simp [go_sem, *]
  have xf : ∀ o, w'.frozen? ⟨w1.heap.size, o, none⟩ = false := by intro o; simp [go_sem, *]
  have s1c : w'.cell? ⟨w.heap.size, 1, none⟩ = some (.int .i64 s) := by simp [go_sem, *]
  have s2c : w'.cell? ⟨w.heap.size, 2, none⟩ = some (.int .i64 d) := by simp [go_sem, *]
  have r0 : w'.cell? ⟨w.heap.size + 1 + 1, 0, none⟩ = some (.int .i64 0) := by simp [go_sem, *]
  have r1 : w'.cell? ⟨w.heap.size + 1 + 1, 1, none⟩ = some (.int .i64 0) := by simp [go_sem, *]
  have r2 : w'.cell? ⟨w.heap.size + 1 + 1, 2, none⟩ = some (.int .i64 0) := by simp [go_sem, *]
  have r3 : w'.cell? ⟨w.heap.size + 1 + 1, 3, none⟩ = some (.int .i64 0) := by simp [go_sem, *]
  have r4 : w'.cell? ⟨w.heap.size + 1 + 1, 4, none⟩ = some (.int .i64 0) := by simp [go_sem, *]
  have r5 : w'.cell? ⟨w.heap.size + 1 + 1, 5, none⟩ = some (.int .i64 0) := by simp [go_sem, *]
  have r6 : w'.cell? ⟨w.heap.size + 1 + 1, 6, none⟩ = some (.int .i64 0) := by simp [go_sem, *]
  have r7 : w'.cell? ⟨w.heap.size + 1 + 1, 7, none⟩ = some (.int .i64 0) := by simp [go_sem, *]
  have rf : ∀ o, w'.frozen? ⟨w.heap.size + 1 + 1, o, none⟩ = false := by intro o; simp [go_sem, *]
  have hw0 : Below w.heap.size w w' := by (repeat (first | (with_reducible exact Below.refl _ _) | (with_reducible refine Below.setCell ?_ (by (first | (simp; done) | (simp; omega) | omega)) _) | (with_reducible refine bl_alloc ?_ _) | (with_reducible refine bl_drewN ?_) | (with_reducible refine bl_drew ?_) | (with_reducible refine bl_step (by assumption) ?_)))
  have hzg : w.heap.size + 1 + 1 < w1.heap.size := by omega
  clear hcell hfroz hz hb
  obtain ⟨V0, rfl⟩ : ∃ v, v = w' := ⟨_, rfl⟩
  have g3 : w.heap.size + 1 + 1 < V0.heap.size := World.block_lt_of_cell? _ _ r0
  have g4 : w1.heap.size < V0.heap.size := World.block_lt_of_cell? _ _ x0
  have g5 : w.heap.size < V0.heap.size := by omega
  have n1 : w.heap.size ≠ w1.heap.size := by omega
  have n2 : w.heap.size + 1 + 1 ≠ w1.heap.size := by omega
  refine wp_region_inv (fun a0 LL aa vv => ∃ (l0 l1 l2 l3 l4 l5 l6 l7 l8 l9 : Bool) (uu : World), LL = #[l0, l1, l2, l3, l4, l5, l6, l7, l8, l9] ∧ aa = { a0 with tmps := ((a0.tmps.toList.set 7 (.int .i64 0)).take 18 ++ ([cond l5 (.tuple #[.agg #[.int .i64 (x + (100 * s - 50)), .int .i64 (y + (100 * s + 50))], .int .i64 0]) (undef), cond l0 (.agg #[.int .i64 x, .int .i64 y]) (undef), cond l1 (.pointer (some ⟨w.heap.size, 1, none⟩)) (undef), cond l2 (.int .i64 s) (undef), cond l3 (.agg #[.int .i64 (100 * s - 50), .int .i64 (100 * s + 50)]) (undef), cond l4 (.tuple #[.agg #[.int .i64 (x + (100 * s - 50)), .int .i64 (y + (100 * s + 50))], .int .i64 0]) (undef), cond l6 (.agg #[.int .i64 (x + (100 * s - 50)), .int .i64 (y + (100 * s + 50))]) (undef), cond l7 (.int .i64 0) (undef)] ++ a0.tmps.toList.drop 26)).toArray } ∧ (l8 = true → l0 = true ∧ l1 = true ∧ l2 = true ∧ l3 = true ∧ l4 = true ∧ l5 = true ∧ l6 = true) ∧ Below V0.heap.size V0 uu ∧ vv = cond l8 (((uu.setCell ⟨w1.heap.size, 0, none⟩ (.int .i64 (x + (100 * s - 50)))).setCell ⟨w1.heap.size, 1, none⟩ (.int .i64 (y + (100 * s + 50))))) uu) (by kernel_rfl) (by kernel_rfl) ?h0 ?hsize ?hdone ?hstep
  case h0 =>
    refine ⟨false, false, false, false, false, false, false, false, false, false, _, rfl, ?_, (fun h => by cases h), by (repeat (first | exact Below.refl _ _ | refine bl_drewN ?_ | refine bl_drew ?_ | refine bl_alloc ?_ _ | refine Below.setCell ?_ (by (first | (simp; done) | (simp; omega) | omega)) _ | refine bl_step (by assumption) ?_)), rfl⟩
    kernel_rfl
  case hsize =>
    intro LL aa vv h
    obtain ⟨l0, h⟩ := h
    obtain ⟨l1, h⟩ := h
    obtain ⟨l2, h⟩ := h
    obtain ⟨l3, h⟩ := h
    obtain ⟨l4, h⟩ := h
    obtain ⟨l5, h⟩ := h
    obtain ⟨l6, h⟩ := h
    obtain ⟨l7, h⟩ := h
    obtain ⟨l8, h⟩ := h
    obtain ⟨l9, h⟩ := h
    obtain ⟨uu, h⟩ := h
    obtain ⟨hL, _⟩ := h
    rw [hL]
    rfl
  case hstep =>
    intro LL aa vv h
    obtain ⟨l0, h⟩ := h
    obtain ⟨l1, h⟩ := h
    obtain ⟨l2, h⟩ := h
    obtain ⟨l3, h⟩ := h
    obtain ⟨l4, h⟩ := h
    obtain ⟨l5, h⟩ := h
    obtain ⟨l6, h⟩ := h
    obtain ⟨l7, h⟩ := h
    obtain ⟨l8, h⟩ := h
    obtain ⟨l9, h⟩ := h
    obtain ⟨uu, h⟩ := h
    obtain ⟨hL, h⟩ := h
    obtain ⟨ha, h⟩ := h
    obtain ⟨hall, h⟩ := h
    obtain ⟨hu, hv⟩ := h
    simp only [List.take_succ_cons, List.take_zero, List.cons_append, List.nil_append, List.drop_succ_cons, List.drop_zero, List.set_cons_zero, List.set_cons_succ] at ha
    subst hL
    subst ha
    refine ⟨?s0, ?s1, ?s2, ?s3, ?s4, ?s5, ?s6, ?s7, ?s8, ?s9, trivial⟩
    case s0 =>
      intro ff gg KK hK
      have f0 : l0 = false := ff
      cases hl : l8
      case true =>
        have := (hall hl).1
        rw [f0] at this
        cases this
      rw [hl] at hv
      simp only [cond_false] at hv
      subst hv
      clear ff gg
      subst hl
      subst f0
      simp only [cond_false]
      have zx0 := cell_later hu x0
      have zx1 := cell_later hu x1
      go_simp
      exact hK _ _ ⟨true, l1, l2, l3, l4, l5, l6, l7, false, l9, _, rfl, (by kernel_rfl), (fun h => by cases h), hu, rfl⟩
    case s1 =>
      intro ff gg KK hK
      have f0 : l1 = false := ff
      cases hl : l8
      case true =>
        have := (hall hl).2.1
        rw [f0] at this
        cases this
      rw [hl] at hv
      simp only [cond_false] at hv
      subst hv
      clear ff gg
      subst hl
      subst f0
      simp only [cond_false]
      go_simp
      exact hK _ _ ⟨l0, true, l2, l3, l4, l5, l6, l7, false, l9, _, rfl, (by kernel_rfl), (fun h => by cases h), hu, rfl⟩
    case s2 =>
      intro ff gg KK hK
      have f0 : l2 = false := ff
      cases hl : l8
      case true =>
        have := (hall hl).2.2.1
        rw [f0] at this
        cases this
      rw [hl] at hv
      simp only [cond_false] at hv
      subst hv
      have t1 : l1 = true := gg ⟨1, .data⟩ (by simp) (by rfl)
      clear ff gg
      subst t1
      subst hl
      subst f0
      simp only [cond_true, cond_false]
      have zs1c := cell_later hu s1c
      go_simp
      exact hK _ _ ⟨l0, true, true, l3, l4, l5, l6, l7, false, l9, _, rfl, (by kernel_rfl), (fun h => by cases h), hu, rfl⟩
    case s3 =>
      intro ff gg KK hK
      have f0 : l3 = false := ff
      cases hl : l8
      case true =>
        have := (hall hl).2.2.2.1
        rw [f0] at this
        cases this
      rw [hl] at hv
      simp only [cond_false] at hv
      subst hv
      have t2 : l2 = true := gg ⟨2, .data⟩ (by simp) (by rfl)
      clear ff gg
      subst t2
      subst hl
      subst f0
      simp only [cond_true, cond_false]
      go_simp
      go_at_call 246; ((with_reducible refine (A1.out _).mono ?_); rintro e w' ⟨rfl, hb⟩)
      exact hK _ _ ⟨l0, l1, true, true, l4, l5, l6, l7, false, l9, _, rfl, (by kernel_rfl), (fun h => by cases h), bl_step hb hu, rfl⟩
    case s4 =>
      intro ff gg KK hK
      have f0 : l4 = false := ff
      cases hl : l8
      case true =>
        have := (hall hl).2.2.2.2.1
        rw [f0] at this
        cases this
      rw [hl] at hv
      simp only [cond_false] at hv
      subst hv
      have t0 : l0 = true := gg ⟨0, .data⟩ (by simp) (by rfl)
      have t3 : l3 = true := gg ⟨3, .data⟩ (by simp) (by rfl)
      clear ff gg
      subst t0 t3
      subst hl
      subst f0
      simp only [cond_true, cond_false]
      go_simp
      go_at_call 42; ((with_reducible refine (P.out _).mono ?_); rintro e w' ⟨rfl, hb⟩)
      exact hK _ _ ⟨true, l1, l2, true, true, l5, l6, l7, false, l9, _, rfl, (by kernel_rfl), (fun h => by cases h), bl_step hb hu, rfl⟩
    case s5 =>
      intro ff gg KK hK
      have f0 : l5 = false := ff
      cases hl : l8
      case true =>
        have := (hall hl).2.2.2.2.2.1
        rw [f0] at this
        cases this
      rw [hl] at hv
      simp only [cond_false] at hv
      subst hv
      have t4 : l4 = true := gg ⟨4, .data⟩ (by simp) (by rfl)
      clear ff gg
      subst t4
      subst hl
      subst f0
      simp only [cond_true, cond_false]
      go_simp
      exact hK _ _ ⟨l0, l1, l2, l3, true, true, l6, l7, false, l9, _, rfl, (by kernel_rfl), (fun h => by cases h), hu, rfl⟩
    case s6 =>
      intro ff gg KK hK
      have f0 : l6 = false := ff
      cases hl : l8
      case true =>
        have := (hall hl).2.2.2.2.2.2
        rw [f0] at this
        cases this
      rw [hl] at hv
      simp only [cond_false] at hv
      subst hv
      have t5 : l5 = true := gg ⟨5, .data⟩ (by simp) (by rfl)
      clear ff gg
      subst t5
      subst hl
      subst f0
      simp only [cond_true, cond_false]
      go_simp
      exact hK _ _ ⟨l0, l1, l2, l3, l4, true, true, l7, false, l9, _, rfl, (by kernel_rfl), (fun h => by cases h), hu, rfl⟩
    case s7 =>
      intro ff gg KK hK
      have f0 : l7 = false := ff
      have t5 : l5 = true := gg ⟨5, .data⟩ (by simp) (by rfl)
      clear ff gg
      subst t5
      subst f0
      simp only [cond_true, cond_false]
      go_simp
      exact hK _ _ ⟨l0, l1, l2, l3, l4, true, l6, true, l8, l9, _, rfl, (by kernel_rfl), hall, hu, (by first | rfl | exact hv)⟩
    case s8 =>
      intro ff gg KK hK
      have f0 : l8 = false := ff
      have t0 : l0 = true := gg ⟨0, .phase⟩ (by simp) (by rfl)
      have t1 : l1 = true := gg ⟨1, .phase⟩ (by simp) (by rfl)
      have t2 : l2 = true := gg ⟨2, .phase⟩ (by simp) (by rfl)
      have t3 : l3 = true := gg ⟨3, .phase⟩ (by simp) (by rfl)
      have t4 : l4 = true := gg ⟨4, .phase⟩ (by simp) (by rfl)
      have t5 : l5 = true := gg ⟨5, .phase⟩ (by simp) (by rfl)
      have t6 : l6 = true := gg ⟨6, .data⟩ (by simp) (by rfl)
      clear ff gg
      subst t0 t1 t2 t3 t4 t5 t6
      subst f0
      simp only [cond_false] at hv
      subst hv
      simp only [cond_true]
      have zf : ∀ o, vv.frozen? ⟨w1.heap.size, o, none⟩ = false := fun o => by rw [(bcell hu).2 _ _ g4]; exact xf o
      have zx0 := cell_later hu x0
      have zx1 := cell_later hu x1
      go_simp
      exact hK _ _ ⟨true, true, true, true, true, true, true, l7, true, l9, _, rfl, (by kernel_rfl), (fun _ => ⟨rfl, rfl, rfl, rfl, rfl, rfl, rfl⟩), hu, rfl⟩
    case s9 =>
      intro ff gg KK hK
      have f0 : l9 = false := ff
      have t7 : l7 = true := gg ⟨7, .data⟩ (by simp) (by rfl)
      have t8 : l8 = true := gg ⟨8, .chain⟩ (by simp) (by rfl)
      have t0 : l0 = true := gg ⟨0, .phase⟩ (by simp) (by rfl)
      have t1 : l1 = true := gg ⟨1, .phase⟩ (by simp) (by rfl)
      have t2 : l2 = true := gg ⟨2, .phase⟩ (by simp) (by rfl)
      have t3 : l3 = true := gg ⟨3, .phase⟩ (by simp) (by rfl)
      have t4 : l4 = true := gg ⟨4, .phase⟩ (by simp) (by rfl)
      have t5 : l5 = true := gg ⟨5, .phase⟩ (by simp) (by rfl)
      have t6 : l6 = true := gg ⟨6, .phase⟩ (by simp) (by rfl)
      clear ff gg
      subst t7 t8 t0 t1 t2 t3 t4 t5 t6
      subst f0
      simp only [cond_true] at hv
      subst hv
      simp only [cond_true]
      go_simp
      exact hK _ _ ⟨true, true, true, true, true, true, true, true, true, true, _, rfl, (by kernel_rfl), hall, hu, rfl⟩
  case hdone =>
    intro LL aa vv h hd
    obtain ⟨l0, h⟩ := h
    obtain ⟨l1, h⟩ := h
    obtain ⟨l2, h⟩ := h
    obtain ⟨l3, h⟩ := h
    obtain ⟨l4, h⟩ := h
    obtain ⟨l5, h⟩ := h
    obtain ⟨l6, h⟩ := h
    obtain ⟨l7, h⟩ := h
    obtain ⟨l8, h⟩ := h
    obtain ⟨l9, h⟩ := h
    obtain ⟨uu, h⟩ := h
    obtain ⟨hL, h⟩ := h
    obtain ⟨ha, h⟩ := h
    obtain ⟨hall, h⟩ := h
    obtain ⟨hu, hv⟩ := h
    rw [hL] at hd
    have t0 : l0 = true := hd 0 (by decide)
    have t1 : l1 = true := hd 1 (by decide)
    have t2 : l2 = true := hd 2 (by decide)
    have t3 : l3 = true := hd 3 (by decide)
    have t4 : l4 = true := hd 4 (by decide)
    have t5 : l5 = true := hd 5 (by decide)
    have t6 : l6 = true := hd 6 (by decide)
    have t7 : l7 = true := hd 7 (by decide)
    have t8 : l8 = true := hd 8 (by decide)
    have t9 : l9 = true := hd 9 (by decide)
    clear hd hL hall
    subst t0 t1 t2 t3 t4 t5 t6 t7 t8 t9
    simp only [cond_true, List.take_succ_cons, List.take_zero, List.cons_append, List.nil_append, List.drop_succ_cons, List.drop_zero, List.set_cons_zero, List.set_cons_succ] at ha
    simp only [cond_true] at hv
    subst ha
    subst hv
    have t_0 := cell_later hu r0
    have t_1 := cell_later hu r1
    have t_2 := cell_later hu r2
    have t_3 := cell_later hu r3
    have t_4 := cell_later hu r4
    have t_5 := cell_later hu r5
    have t_6 := cell_later hu r6
    have t_7 := cell_later hu r7
    have t_s := cell_later hu s2c
    have zx0 := cell_later hu x0
    have zx1 := cell_later hu x1
    have hg1 : ∀ o, uu.frozen? ⟨w.heap.size + 1 + 1, o, none⟩ = false := fun o => by rw [(bcell hu).2 _ _ g3]; exact rf o
    have hg2 : ∀ o, uu.frozen? ⟨w1.heap.size, o, none⟩ = false := fun o => by rw [(bcell hu).2 _ _ g4]; exact xf o
    have hu2 : Below w.heap.size w uu := bl_step hu hw0
    clear hu r0 r1 r2 r3 r4 r5 r6 r7 rf xf x0 x1 s1c s2c
    have r0 := t_0
    have r1 := t_1
    have r2 := t_2
    have r3 := t_3
    have r4 := t_4
    have r5 := t_5
    have r6 := t_6
    have r7 := t_7
    have y1 : w.heap.size + 1 + 1 < uu.heap.size := World.block_lt_of_cell? _ _ r0
    have y2 : w1.heap.size < uu.heap.size := World.block_lt_of_cell? _ _ zx0
    have y3 : w.heap.size < uu.heap.size := by omega
    all_goals ((refine name_world (F := Exit.then _ _ _ _) ?_; intro w' hb; (try replace hb := below_undrew hb); (try replace hb := below_undrewN hb); obtain ⟨hcell, hfroz⟩ := bcell hb; have hz := hb.size; (try simp at hz); (try (have z6 := Nat.lt_of_lt_of_le z7 hz)); (try (have z7 := Nat.lt_of_lt_of_le z8 hz)); (try (have z8 := Nat.lt_of_lt_of_le z9 hz)); (try (have z9 := Nat.lt_of_lt_of_le (Nat.lt_succ_self _) hz)); (try have z0 : w.heap.size < w'.heap.size := by omega); (try have z1 : w.heap.size + 1 < w'.heap.size := by omega); (try have z2 : w.heap.size + 1 + 1 < w'.heap.size := by omega); (try have z3 : w.heap.size + 1 + 1 + 1 < w'.heap.size := by omega); (try have y1 : w1.heap.size < w'.heap.size := by omega); (try have x1 : w1.heap.size + 1 < w'.heap.size := by omega); (try have z10 : w1.heap.size < w'.heap.size + 1 := by omega)))
    all_goals (
      have u0 : w'.cell? ⟨w1.heap.size, 0, none⟩ = some (.int .i64 (x + (100 * s - 50))) := by simp [go_sem, *]
      have u1 : w'.cell? ⟨w1.heap.size, 1, none⟩ = some (.int .i64 (y + (100 * s + 50))) := by simp [go_sem, *]
      have uf : ∀ o, w'.frozen? ⟨w1.heap.size, o, none⟩ = false := by intro o; simp [go_sem, *]
      have hw1 : Below w.heap.size w w' := by (repeat (first | (with_reducible exact Below.refl _ _) | (with_reducible refine Below.setCell ?_ (by (first | (simp; done) | (simp; omega) | omega)) _) | (with_reducible refine bl_alloc ?_ _) | (with_reducible refine bl_drewN ?_) | (with_reducible refine bl_drew ?_) | (with_reducible refine bl_step (by assumption) ?_)))
      have v2 : w'.cell? ⟨w.heap.size, 2, none⟩ = some (.int .i64 d) := by simp [go_sem, *]
      have v3 : ∀ o, w'.cell? ⟨w.heap.size + 1 + 1, o, none⟩ = uu.cell? ⟨w.heap.size + 1 + 1, o, none⟩ := by intro o; simp [go_sem, *]
      have vf : ∀ o, w'.frozen? ⟨w.heap.size + 1 + 1, o, none⟩ = false := by intro o; simp [go_sem, *]
      rw [← v3] at r0 r1 r2 r3 r4 r5 r6 r7
      clear hcell hfroz hz hb v3
      obtain ⟨V1, rfl⟩ : ∃ v, v = w' := ⟨_, rfl⟩
      have g6 : w.heap.size + 1 + 1 < V1.heap.size := World.block_lt_of_cell? _ _ r0
      have g7 : w1.heap.size < V1.heap.size := World.block_lt_of_cell? _ _ u0)
    all_goals (go_wp2_with (go_at_call 105; ((with_reducible refine (T.out _).mono ?_); rintro e w' ⟨rfl, hb⟩); (try replace hb := below_undrew hb); (try replace hb := below_undrewN hb); obtain ⟨hcell, hfroz⟩ := bcell hb; have hz := hb.size; (try simp at hz); (try (have z6 := Nat.lt_of_lt_of_le z7 hz)); (try (have z7 := Nat.lt_of_lt_of_le z8 hz)); (try (have z8 := Nat.lt_of_lt_of_le z9 hz)); (try (have z9 := Nat.lt_of_lt_of_le (Nat.lt_succ_self _) hz)); (try have z0 : w.heap.size < w'.heap.size := by omega); (try have z1 : w.heap.size + 1 < w'.heap.size := by omega); (try have z2 : w.heap.size + 1 + 1 < w'.heap.size := by omega); (try have z3 : w.heap.size + 1 + 1 + 1 < w'.heap.size := by omega); (try have y1 : w1.heap.size < w'.heap.size := by omega); (try have x1 : w1.heap.size + 1 < w'.heap.size := by omega); (try have z10 : w1.heap.size < w'.heap.size + 1 := by omega)))
    all_goals (
      refine calls_named ?_
      intro V2 hV
      have t0 : V2.cell? ⟨w1.heap.size, 0, none⟩ = some (.int .i64 (arcLo (x + (100 * s - 50)) (y + (100 * s + 50)))) := by rw [hV]; simp [go_sem, *]
      have t1 : V2.cell? ⟨w1.heap.size, 1, none⟩ = some (.int .i64 (arcHi (x + (100 * s - 50)) (y + (100 * s + 50)))) := by rw [hV]; simp [go_sem, *]
      have hw2 : Below w.heap.size w V2 := by rw [hV]; (repeat (first | (with_reducible exact Below.refl _ _) | (with_reducible refine Below.setCell ?_ (by (first | (simp; done) | (simp; omega) | omega)) _) | (with_reducible refine bl_alloc ?_ _) | (with_reducible refine bl_drewN ?_) | (with_reducible refine bl_drew ?_) | (with_reducible refine bl_step (by assumption) ?_)))
      have v3 : ∀ o, V2.cell? ⟨w.heap.size + 1 + 1, o, none⟩ = V1.cell? ⟨w.heap.size + 1 + 1, o, none⟩ := by rw [hV]; intro o; simp [go_sem, *]
      have vg : ∀ o, V2.frozen? ⟨w.heap.size + 1 + 1, o, none⟩ = false := by rw [hV]; intro o; simp [go_sem, *]
      rw [← v3] at r0 r1 r2 r3 r4 r5 r6 r7
      clear hcell hfroz hz hb hV v3
      have g8 : w.heap.size + 1 + 1 < V2.heap.size := World.block_lt_of_cell? _ _ r0
      have g9 : w1.heap.size < V2.heap.size := World.block_lt_of_cell? _ _ t0
      (with_reducible refine (A2.out _).mono ?_)
      rintro e w' ⟨rfl, hb⟩
      (try replace hb := below_undrew hb); (try replace hb := below_undrewN hb); obtain ⟨hcell, hfroz⟩ := bcell hb; have hz := hb.size; (try simp at hz); (try (have z6 := Nat.lt_of_lt_of_le z7 hz)); (try (have z7 := Nat.lt_of_lt_of_le z8 hz)); (try (have z8 := Nat.lt_of_lt_of_le z9 hz)); (try (have z9 := Nat.lt_of_lt_of_le (Nat.lt_succ_self _) hz)); (try have z0 : w.heap.size < w'.heap.size := by omega); (try have z1 : w.heap.size + 1 < w'.heap.size := by omega); (try have z2 : w.heap.size + 1 + 1 < w'.heap.size := by omega); (try have z3 : w.heap.size + 1 + 1 + 1 < w'.heap.size := by omega); (try have y1 : w1.heap.size < w'.heap.size := by omega); (try have x1 : w1.heap.size + 1 < w'.heap.size := by omega); (try have z10 : w1.heap.size < w'.heap.size + 1 := by omega)
      have za : w.heap.size + 1 + 1 < w'.heap.size := by omega
      have zb : w1.heap.size < w'.heap.size := by omega
      have zc : w.heap.size + 1 + 1 ≠ w'.heap.size := by omega
      have zd : w1.heap.size ≠ w'.heap.size := by omega)
    all_goals (go_wp2)
    all_goals exact bodyPost_ret (v := .tuple #[.agg #[.int .i64 (arcLo (x + (100 * s - 50)) (y + (100 * s + 50))), .int .i64 (arcHi (x + (100 * s - 50)) (y + (100 * s + 50))), .int .i64 (max (100 * d - 50) (-5400000)), .int .i64 (min (100 * d + 50) 5400000), .int .i64 0, .int .i64 0, .int .i64 0, .int .i64 0], .int .i64 0]) (by first | (simp only [results, Tryz.results188]; go_simp; done) | simp [results, Tryz.results188, go_sem, *]) rfl ⟨rfl, by (repeat (first | (with_reducible exact Below.refl _ _) | (with_reducible refine Below.setCell ?_ (by (first | (simp; done) | (simp; omega) | omega)) _) | (with_reducible refine bl_alloc ?_ _) | (with_reducible refine bl_drewN ?_) | (with_reducible refine bl_drew ?_) | (with_reducible refine bl_step (by assumption) ?_)))⟩
end Go.Proofs.YtdhbeoahpfimbaaGreat
