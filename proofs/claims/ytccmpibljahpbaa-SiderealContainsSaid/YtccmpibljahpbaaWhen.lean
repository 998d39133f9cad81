/- When of package sidereal, as a contract: its two searches, and the time that they enclose. -/
import Derived.Test.YtccmpibljahpbaaSid2
import Derived.Deep.RegionHeld3
import Derived.StillTailTactics
namespace Go.Proofs.Ytccmpibljahpbaa
open Go.RowKit Go.Shelf Go.Lib Go.Sort

theorem same_rev {P : Program} {f : FuncId} {args : Array Value} {w : World} {v : Value} (h : Calls P f args w fun e w' => e = .returned v ∧ w = w') : Calls P f args w fun e w' => e = .returned v ∧ w' = w :=
  h.mono fun _ _ ⟨he, hm⟩ => ⟨he, hm.symm⟩

theorem still_tail {P : Program} {id : Nat} {Q : Exit → Act → World → Prop} {a : Act} {w : World} {l : List Oper} (n : Nat) (hm : P.follows .mixedOrders = true) (hB : Region.lexTailB .any l.toArray n = true)
    (h : wpStill P l.toArray w.drew (fun a' => wpList P l.toArray Q (l.drop n) a' w.drew) (l.take n) a) : (Code.region id l.toArray true).wp P Q a w := wp_region_still_tail n hm hB h

theorem count_range (n k : Nat) (p : Nat → Bool) (hk : k ≤ n) (h1 : ∀ t, t < k → p t = false) (h2 : ∀ t, k ≤ t → t < n → p t = true) : (List.range n).countP (fun i => !p i) = k := by
  have hr : ∀ t, t < n → (List.range n)[t]! = t := fun t ht => by rw [getElem!_pos _ t (by simpa using ht)]; simp
  refine Lib.countP_boundary _ (List.range n) k (by simpa using hk) (fun t ht => ?_) (fun t h3 h4 => ?_)
  · rw [hr t (by omega), h1 t ht]; rfl
  · rw [hr t (by simpa using h4), h2 t h3 (by simpa using h4)]; rfl

/-- the last instant at which the hour angle is at most g, and the first one at which it is at least g -/
def lastT (g : Int) : Int := (g * 86400000000000 - 518233047638400000000) / 21659138841977
def firstT (g : Int) : Int := (g * 86400000000000 - 518233047638400000000 + 21659138841976) / 21659138841977

theorem last_iff (g t : Int) : t ≤ lastT g ↔ upA t ≤ g := by unfold lastT upA NN; omega
theorem first_iff (g t : Int) : firstT g ≤ t ↔ g ≤ lowA t := by unfold firstT lowA NN; omega

def c1B (g s : Int) (i : Nat) : Bool := decide (g ≤ lowA (s + i))
def c2B (g s : Int) (i : Nat) : Bool := decide (g < upA (s + i))

set_option maxHeartbeats 400000 in
theorem closure1 (g s : Int) (i : Nat) (p q : Addr) (w : World) (h0 : -70368744177664 ≤ s) (h1 : s ≤ 70368744177664) (hi : i < 172800000) (hp : w.cell? p = some (.int .i64 s)) (hq : w.cell? q = some (.int .i64 g)) :
    Calls Try.prog 30 #[.int .i64 i, .pointer (some p), .pointer (some q)] w fun e w' => e = .returned (.bool (c1B g s i)) ∧ ∃ n, w.drewN n = w' := by
  have U : ∀ w, Calls Try.prog 31 #[.int .i64 (s + i)] w fun e w' => ∃ r : Int, e = .returned (.tuple #[.int .i64 (lowA (s + i)), .int .i64 r]) ∧ ∃ n, w.drewN n = w' := fun w => (aries_any (s + i) w (by omega) (by omega)).mono fun e w' ⟨x, y⟩ => ⟨_, x, y⟩
  replace U := hidden U
  have D : Hid (c1B g s i = decide (g ≤ lowA (s + i))) := rfl
  generalize lowA (s + i) = a at *
  generalize c1B g s i = c at *
  go_enter Try.func30, Try.ntmps30
  go_wp2_with (go_at_call 31; refine (U.out _).mono ?_; rintro e w' ⟨r, rfl, n, rfl⟩)
  go_ret
  exact ⟨by rw [D.out]; rfl, n, rfl⟩

set_option maxHeartbeats 400000 in
theorem closure2 (g s : Int) (i : Nat) (p q : Addr) (w : World) (h0 : -70368744177664 ≤ s) (h1 : s ≤ 70368744177664) (hi : i < 172800000) (hp : w.cell? p = some (.int .i64 s)) (hq : w.cell? q = some (.int .i64 g)) :
    Calls Try.prog 32 #[.int .i64 i, .pointer (some p), .pointer (some q)] w fun e w' => e = .returned (.bool (c2B g s i)) ∧ ∃ n, w.drewN n = w' := by
  have D : Hid (c2B g s i = decide (g < upA (s + i))) := rfl
  have U : ∀ w, Calls Try.prog 28 #[.int .i64 (s + i)] w fun e w' => e = .returned (.int .i64 (upA (s + i))) ∧ ∃ n, w.drewN n = w' := fun w => up_any (s + i) w (by omega) (by omega)
  replace U := hidden U
  generalize upA (s + i) = a at *
  generalize c2B g s i = c at *
  go_enter Try.func32, Try.ntmps32
  go_wp2
  go_quiet ((go_at_call 28; exact quiet_drew (U.out _)))
  go_wp2
  go_ret
  exact ⟨by rw [D.out]; rfl, _, rfl⟩

theorem enters1 : ∀ args w, (callFunc 30 args).run Try.prog w = .ok (.enter 30 args) w := enters_of Try.func30 (by kernel_rfl) rfl
theorem enters2 : ∀ args w, (callFunc 32 args).run Try.prog w = .ok (.enter 32 args) w := enters_of Try.func32 (by kernel_rfl) rfl

theorem lowA_mono {a b : Int} (h : a ≤ b) : lowA a ≤ lowA b := by unfold lowA NN; omega
theorem upA_mono {a b : Int} (h : a ≤ b) : upA a ≤ upA b := by unfold upA NN; omega

theorem search1 (g s : Int) (p q : Addr) (w : World) (h0 : -70368744177664 ≤ s) (h1 : s ≤ 70368744177664) (hp : w.cell? p = some (.int .i64 s)) (hq : w.cell? q = some (.int .i64 g)) (k0 : s ≤ firstT g) (k1 : firstT g ≤ s + 172800000) :
    Calls Try.prog 29 #[.int .i64 172800000, .func (.func 30) #[] #[.pointer (some p), .pointer (some q)]] w fun e w' => e = .returned (.int .i64 (firstT g - s)) ∧ Below w.heap.size w w' := by
  have bp := World.block_lt_of_cell? _ _ hp
  have bq := World.block_lt_of_cell? _ _ hq
  have h := Any.sort_Search Try.lays_search 30 #[.pointer (some p), .pointer (some q)] 172800000 (c1B g s) w enters1 (by decide)
    (fun m os i hi => (closure1 g s i p q _ h0 h1 hi (cell_grown bp hp m os) (cell_grown bq hq m os)).mono fun e w' ⟨a, n, b⟩ => ⟨a, n, #[], by rw [grow_empty, b]⟩)
    (fun a b hab _ ha => by simp only [c1B, decide_eq_true_eq] at *; exact Int.le_trans ha (lowA_mono (by omega)))
  have e : (List.range 172800000).countP (fun i => !c1B g s i) = (firstT g - s).toNat := by
    refine count_range _ _ _ (by omega) (fun t ht => ?_) (fun t ht _ => ?_)
    · simp only [c1B, decide_eq_false_iff_not]; intro hc; have := (first_iff g (s + t)).2 hc; omega
    · simp only [c1B, decide_eq_true_eq]; exact (first_iff g (s + t)).1 (by omega)
  rw [e] at h
  refine h.mono fun e w' ⟨a, m, os, b⟩ => ⟨?_, ?_⟩
  · rw [a]; exact ret_one (by omega)
  · rw [b]; exact below_grown_sl _ _ _ _ (Nat.le_refl _)

theorem search2 (g s : Int) (p q : Addr) (w : World) (h0 : -70368744177664 ≤ s) (h1 : s ≤ 70368744177664) (hp : w.cell? p = some (.int .i64 s)) (hq : w.cell? q = some (.int .i64 g)) (k0 : s ≤ lastT g + 1) (k1 : lastT g + 1 ≤ s + 172800000) :
    Calls Try.prog 29 #[.int .i64 172800000, .func (.func 32) #[] #[.pointer (some p), .pointer (some q)]] w fun e w' => e = .returned (.int .i64 (lastT g + 1 - s)) ∧ Below w.heap.size w w' := by
  have bp := World.block_lt_of_cell? _ _ hp
  have bq := World.block_lt_of_cell? _ _ hq
  have h := Any.sort_Search Try.lays_search 32 #[.pointer (some p), .pointer (some q)] 172800000 (c2B g s) w enters2 (by decide)
    (fun m os i hi => (closure2 g s i p q _ h0 h1 hi (cell_grown bp hp m os) (cell_grown bq hq m os)).mono fun e w' ⟨a, n, b⟩ => ⟨a, n, #[], by rw [grow_empty, b]⟩)
    (fun a b hab _ ha => by simp only [c2B, decide_eq_true_eq] at *; exact Int.lt_of_lt_of_le ha (upA_mono (by omega)))
  have e : (List.range 172800000).countP (fun i => !c2B g s i) = (lastT g + 1 - s).toNat := by
    refine count_range _ _ _ (by omega) (fun t ht => ?_) (fun t ht _ => ?_)
    · simp only [c2B, decide_eq_false_iff_not]; have := (last_iff g (s + t)).1 (by omega); omega
    · simp only [c2B, decide_eq_true_eq]; have := (last_iff g (s + t)).2; omega
  rw [e] at h
  refine h.mono fun e w' ⟨a, m, os, b⟩ => ⟨?_, ?_⟩
  · rw [a]; exact ret_one (by omega)
  · rw [b]; exact below_grown_sl _ _ _ _ (Nat.le_refl _)

/-- the number at which Aries has the direction of a again, from s on -/
def goal (a s : Int) : Int := upA s + (a - upA s) % 21600000

theorem goal_bd (a s : Int) : upA s ≤ goal a s ∧ goal a s < upA s + 21600000 := by unfold goal; omega
theorem when_bd (a s : Int) : s ≤ lastT (goal a s) ∧ lastT (goal a s) ≤ firstT (goal a s) ∧ firstT (goal a s) ≤ lastT (goal a s) + 1 ∧ lastT (goal a s) ≤ s + 86400000 := by
  have h := goal_bd a s
  generalize goal a s = g at *
  unfold upA NN at h
  unfold lastT firstT
  omega

set_option maxHeartbeats 400000 in
theorem when_range (a s : Int) (w : World) (h : instB s = false) :
    Calls Try.prog 11 #[.int .i64 a, .int .i64 s] w fun e w' => e = .returned (.tuple #[.agg #[.int .i64 (0), .int .i64 (0)], .int .i64 (2)]) ∧ Below w.heap.size w w' := by
  go_enter Try.func11, Try.ntmps11
  go_wp2_with (go_at_call 27; refine (inst_any _ _).mono ?_; rintro e w' ⟨rfl, rfl⟩)
  exact bodyPost_ret (v := .tuple #[.agg #[.int .i64 (0), .int .i64 (0)], .int .i64 (2)]) (by first | (simp only [results, Try.results11]; go_simp; done) | simp [results, Try.results11, go_sem, *]) rfl ⟨rfl, by (repeat (first | exact Below.refl _ _ | refine bl_drewN ?_ | refine bl_drew ?_ | refine bl_alloc ?_ _ | refine Below.setCell ?_ (by (first | (simp; done) | (simp; omega) | omega)) _ | refine bl_step (by assumption) ?_))⟩

set_option maxHeartbeats 1000000 in
theorem when_ok (a s : Int) (w : World) (b0 : -9223372036854775808 ≤ a) (b1 : a ≤ 9223372036854775807) (h : instB s = true) (ht : timeB (lastT (goal a s)) (firstT (goal a s)) = true) :
    Calls Try.prog 11 #[.int .i64 a, .int .i64 s] w fun e w' => e = .returned (.tuple #[.agg #[.int .i64 (lastT (goal a s)), .int .i64 (firstT (goal a s))], .int .i64 (0)]) ∧ Below w.heap.size w w' := by
  have q := instB_t h
  have q0 := q.1; have q1 := q.2
  clear q
  have nb := NN_bd s (by omega) (by omega)
  have n0 := nb.2.2.1; have n1 := nb.2.2.2
  have wb := when_bd a s
  have G : Hid (upA s + (a - upA s) % 21600000 = goal a s) := rfl
  have gb := goal_bd a s
  generalize goal a s = g at *
  generalize hu : upA s = u at *
  have U : ∀ w, Calls Try.prog 28 #[.int .i64 s] w fun e w' => e = .returned (.int .i64 u) ∧ ∃ n, w.drewN n = w' := fun w => hu ▸ up_any s w (by omega) (by omega)
  replace U := hidden U
  clear hu nb
  have hw1 : IntKind.i64.wrap (a % 21600000 - u % 21600000) = a % 21600000 - u % 21600000 := IntWalk.i64_in _ (by omega)
  have hw2 : IntKind.i64.wrap g = g := IntWalk.i64_in _ (by omega)
  have hw3 : u + (a - u) % 21600000 = g := G.out
  go_enter Try.func11, Try.ntmps11
  go_wp2_with (first | (go_at_call 27; refine (inst_any _ _).mono ?_; rintro e w' ⟨rfl, rfl⟩) | (go_at_call 28; refine (U.out _).mono ?_; rintro e w' ⟨rfl, n, rfl⟩))
  refine still_tail 8 (by kernel_rfl) (by kernel_rfl) ?_
  simp only [List.take_succ_cons, List.take_zero, List.drop_succ_cons, List.drop_zero]
  repeat still_step
  still_call (same_rev (wrap_any _ _ (by omega) (by omega)))
  repeat still_step
  still_call (same_rev (wrap_any _ _ (by omega) (by omega)))
  repeat still_step
  still_call (same_rev (wrap_any _ _ (by omega) (by omega)))
  repeat still_step
  refine wpStill_nil ?_
  clear hw1 hw2
  go_wp2
  clear hw3
  generalize hW : World.drew _ = w'
  have hb0 : Below w.heap.size w w' := by subst hW; (repeat (first | exact Below.refl _ _ | refine bl_drewN ?_ | refine bl_drew ?_ | refine bl_alloc ?_ _ | refine Below.setCell ?_ (by (first | (simp; done) | (simp; omega) | omega)) _ | refine bl_step (by assumption) ?_))
  have c0 : w'.cell? ⟨w.heap.size, 0, none⟩ = some (.int .i64 s) := by subst hW; go_simp
  have c1 : w'.cell? ⟨w.heap.size + 1 + 1, 0, none⟩ = some (.int .i64 g) := by subst hW; go_simp
  have c2 : w'.cell? ⟨w.heap.size + 1, 0, none⟩ = some (.int .i64 0) := by subst hW; go_simp
  have c3 : w'.cell? ⟨w.heap.size + 1, 1, none⟩ = some (.int .i64 0) := by subst hW; go_simp
  have c4 : w'.frozen? ⟨w.heap.size + 1, 0, none⟩ = false := by subst hW; go_simp
  have c5 : w'.frozen? ⟨w.heap.size + 1, 1, none⟩ = false := by subst hW; go_simp
  have z2 : w.heap.size + 1 + 1 < w'.heap.size := by subst hW; simp [World.drew, World.drewN]
  have z1 : w.heap.size + 1 < w'.heap.size := by omega
  have z0 : w.heap.size < w'.heap.size := by omega
  clear hW
  obtain ⟨wb0, wb1, wb2, wb3⟩ := wb
  have hw4 : IntKind.i64.wrap (s + (firstT g - s)) = firstT g := by rw [show s + (firstT g - s) = firstT g by omega]; exact IntWalk.i64_in _ (by omega)
  have hw5 : IntKind.i64.wrap (s + (lastT g + 1 - s)) = lastT g + 1 := by rw [show s + (lastT g + 1 - s) = lastT g + 1 by omega]; exact IntWalk.i64_in _ (by omega)
  have hw6 : IntKind.i64.wrap (lastT g) = lastT g := IntWalk.i64_in _ (by omega)
  go_region_held3 (fun v => Below w'.heap.size w' v ∧ (∀ b o, b < w'.heap.size → v.cell? ⟨b, o, none⟩ = w'.cell? ⟨b, o, none⟩) ∧ (∀ b o, b < w'.heap.size → v.frozen? ⟨b, o, none⟩ = w'.frozen? ⟨b, o, none⟩)) (first | exact held_start _ | (refine held_of ?_; (repeat (first | exact Below.refl _ _ | refine bl_drewN ?_ | refine bl_drew ?_ | refine bl_alloc ?_ _ | refine Below.setCell ?_ (by (first | (simp; done) | (simp; omega) | omega)) _ | refine bl_step (by assumption) ?_)); done))
    (first | (go_at_call 29; refine (search1 g s _ _ _ q0 q1 ?_ ?_ (by omega) (by omega)).mono ?_; go_simp; go_simp; rintro e w' ⟨rfl, hb⟩; (try replace hb := below_undrew hb); (try replace hb := below_undrewN hb); obtain ⟨hcell, hfroz⟩ := bcell hb; have hz := hb.size; (try simp at hz); (try (have z6 := Nat.lt_of_lt_of_le z7 hz)); (try (have z7 := Nat.lt_of_lt_of_le z8 hz)); (try (have z8 := Nat.lt_of_lt_of_le z9 hz)); (try (have z9 := Nat.lt_of_lt_of_le (Nat.lt_succ_self _) hz)); (try (have z0 : w.heap.size < w'.heap.size := by omega)); (try (have z1 : w.heap.size + 1 < w'.heap.size := by omega)); (try (have z2 : w.heap.size + 1 + 1 < w'.heap.size := by omega)); (try (have z3 : w.heap.size + 1 + 1 + 1 < w'.heap.size := by omega))))
  go_wp2
  go_region_held3 (fun v => Below w'.heap.size w' v ∧ (∀ b o, b < w'.heap.size → v.cell? ⟨b, o, none⟩ = w'.cell? ⟨b, o, none⟩) ∧ (∀ b o, b < w'.heap.size → v.frozen? ⟨b, o, none⟩ = w'.frozen? ⟨b, o, none⟩)) (first | exact held_start _ | (refine held_of ?_; (repeat (first | exact Below.refl _ _ | refine bl_drewN ?_ | refine bl_drew ?_ | refine bl_alloc ?_ _ | refine Below.setCell ?_ (by (first | (simp; done) | (simp; omega) | omega)) _ | refine bl_step (by assumption) ?_)); done))
    (first | (go_at_call 29; refine (search2 g s _ _ _ q0 q1 ?_ ?_ (by omega) (by omega)).mono ?_; go_simp; go_simp; rintro e w' ⟨rfl, hb⟩; (try replace hb := below_undrew hb); (try replace hb := below_undrewN hb); obtain ⟨hcell, hfroz⟩ := bcell hb; have hz := hb.size; (try simp at hz); (try (have z6 := Nat.lt_of_lt_of_le z7 hz)); (try (have z7 := Nat.lt_of_lt_of_le z8 hz)); (try (have z8 := Nat.lt_of_lt_of_le z9 hz)); (try (have z9 := Nat.lt_of_lt_of_le (Nat.lt_succ_self _) hz)); (try (have z0 : w.heap.size < w'.heap.size := by omega)); (try (have z1 : w.heap.size + 1 < w'.heap.size := by omega)); (try (have z2 : w.heap.size + 1 + 1 < w'.heap.size := by omega)); (try (have z3 : w.heap.size + 1 + 1 + 1 < w'.heap.size := by omega))))
  clear hw4 hw5 hw6
  go_wp2_with (go_at_call 33; refine (tvalid_any _ _ _).mono ?_; rintro e w' ⟨rfl, hb⟩; (try replace hb := below_undrew hb); (try replace hb := below_undrewN hb); obtain ⟨hcell, hfroz⟩ := bcell hb; have hz := hb.size; (try simp at hz); (try (have z6 := Nat.lt_of_lt_of_le z7 hz)); (try (have z7 := Nat.lt_of_lt_of_le z8 hz)); (try (have z8 := Nat.lt_of_lt_of_le z9 hz)); (try (have z9 := Nat.lt_of_lt_of_le (Nat.lt_succ_self _) hz)); (try (have z0 : w.heap.size < w'.heap.size := by omega)); (try (have z1 : w.heap.size + 1 < w'.heap.size := by omega)); (try (have z2 : w.heap.size + 1 + 1 < w'.heap.size := by omega)); (try (have z3 : w.heap.size + 1 + 1 + 1 < w'.heap.size := by omega)))
  exact bodyPost_ret (v := .tuple #[.agg #[.int .i64 (lastT g), .int .i64 (firstT g)], .int .i64 (0)]) (by first | (simp only [results, Try.results11]; go_simp; done) | simp [results, Try.results11, go_sem, *]) rfl ⟨rfl, by (repeat (first | exact Below.refl _ _ | refine bl_drewN ?_ | refine bl_drew ?_ | refine bl_alloc ?_ _ | refine Below.setCell ?_ (by (first | (simp; done) | (simp; omega) | omega)) _ | refine bl_step (by assumption) ?_))⟩

set_option maxHeartbeats 1000000 in
theorem when_big (a s : Int) (w : World) (b0 : -9223372036854775808 ≤ a) (b1 : a ≤ 9223372036854775807) (h : instB s = true) (ht : timeB (lastT (goal a s)) (firstT (goal a s)) = false) :
    Calls Try.prog 11 #[.int .i64 a, .int .i64 s] w fun e w' => e = .returned (.tuple #[.agg #[.int .i64 (0), .int .i64 (0)], .int .i64 (5)]) ∧ Below w.heap.size w w' := by
  have q := instB_t h
  have q0 := q.1; have q1 := q.2
  clear q
  have nb := NN_bd s (by omega) (by omega)
  have n0 := nb.2.2.1; have n1 := nb.2.2.2
  have wb := when_bd a s
  have G : Hid (upA s + (a - upA s) % 21600000 = goal a s) := rfl
  have gb := goal_bd a s
  generalize goal a s = g at *
  generalize hu : upA s = u at *
  have U : ∀ w, Calls Try.prog 28 #[.int .i64 s] w fun e w' => e = .returned (.int .i64 u) ∧ ∃ n, w.drewN n = w' := fun w => hu ▸ up_any s w (by omega) (by omega)
  replace U := hidden U
  clear hu nb
  have hw1 : IntKind.i64.wrap (a % 21600000 - u % 21600000) = a % 21600000 - u % 21600000 := IntWalk.i64_in _ (by omega)
  have hw2 : IntKind.i64.wrap g = g := IntWalk.i64_in _ (by omega)
  have hw3 : u + (a - u) % 21600000 = g := G.out
  go_enter Try.func11, Try.ntmps11
  go_wp2_with (first | (go_at_call 27; refine (inst_any _ _).mono ?_; rintro e w' ⟨rfl, rfl⟩) | (go_at_call 28; refine (U.out _).mono ?_; rintro e w' ⟨rfl, n, rfl⟩))
  refine still_tail 8 (by kernel_rfl) (by kernel_rfl) ?_
  simp only [List.take_succ_cons, List.take_zero, List.drop_succ_cons, List.drop_zero]
  repeat still_step
  still_call (same_rev (wrap_any _ _ (by omega) (by omega)))
  repeat still_step
  still_call (same_rev (wrap_any _ _ (by omega) (by omega)))
  repeat still_step
  still_call (same_rev (wrap_any _ _ (by omega) (by omega)))
  repeat still_step
  refine wpStill_nil ?_
  clear hw1 hw2
  go_wp2
  clear hw3
  generalize hW : World.drew _ = w'
  have hb0 : Below w.heap.size w w' := by subst hW; (repeat (first | exact Below.refl _ _ | refine bl_drewN ?_ | refine bl_drew ?_ | refine bl_alloc ?_ _ | refine Below.setCell ?_ (by (first | (simp; done) | (simp; omega) | omega)) _ | refine bl_step (by assumption) ?_))
  have c0 : w'.cell? ⟨w.heap.size, 0, none⟩ = some (.int .i64 s) := by subst hW; go_simp
  have c1 : w'.cell? ⟨w.heap.size + 1 + 1, 0, none⟩ = some (.int .i64 g) := by subst hW; go_simp
  have c2 : w'.cell? ⟨w.heap.size + 1, 0, none⟩ = some (.int .i64 0) := by subst hW; go_simp
  have c3 : w'.cell? ⟨w.heap.size + 1, 1, none⟩ = some (.int .i64 0) := by subst hW; go_simp
  have c4 : w'.frozen? ⟨w.heap.size + 1, 0, none⟩ = false := by subst hW; go_simp
  have c5 : w'.frozen? ⟨w.heap.size + 1, 1, none⟩ = false := by subst hW; go_simp
  have z2 : w.heap.size + 1 + 1 < w'.heap.size := by subst hW; simp [World.drew, World.drewN]
  have z1 : w.heap.size + 1 < w'.heap.size := by omega
  have z0 : w.heap.size < w'.heap.size := by omega
  clear hW
  obtain ⟨wb0, wb1, wb2, wb3⟩ := wb
  have hw4 : IntKind.i64.wrap (s + (firstT g - s)) = firstT g := by rw [show s + (firstT g - s) = firstT g by omega]; exact IntWalk.i64_in _ (by omega)
  have hw5 : IntKind.i64.wrap (s + (lastT g + 1 - s)) = lastT g + 1 := by rw [show s + (lastT g + 1 - s) = lastT g + 1 by omega]; exact IntWalk.i64_in _ (by omega)
  have hw6 : IntKind.i64.wrap (lastT g) = lastT g := IntWalk.i64_in _ (by omega)
  go_region_held3 (fun v => Below w'.heap.size w' v ∧ (∀ b o, b < w'.heap.size → v.cell? ⟨b, o, none⟩ = w'.cell? ⟨b, o, none⟩) ∧ (∀ b o, b < w'.heap.size → v.frozen? ⟨b, o, none⟩ = w'.frozen? ⟨b, o, none⟩)) (first | exact held_start _ | (refine held_of ?_; (repeat (first | exact Below.refl _ _ | refine bl_drewN ?_ | refine bl_drew ?_ | refine bl_alloc ?_ _ | refine Below.setCell ?_ (by (first | (simp; done) | (simp; omega) | omega)) _ | refine bl_step (by assumption) ?_)); done))
    (first | (go_at_call 29; refine (search1 g s _ _ _ q0 q1 ?_ ?_ (by omega) (by omega)).mono ?_; go_simp; go_simp; rintro e w' ⟨rfl, hb⟩; (try replace hb := below_undrew hb); (try replace hb := below_undrewN hb); obtain ⟨hcell, hfroz⟩ := bcell hb; have hz := hb.size; (try simp at hz); (try (have z6 := Nat.lt_of_lt_of_le z7 hz)); (try (have z7 := Nat.lt_of_lt_of_le z8 hz)); (try (have z8 := Nat.lt_of_lt_of_le z9 hz)); (try (have z9 := Nat.lt_of_lt_of_le (Nat.lt_succ_self _) hz)); (try (have z0 : w.heap.size < w'.heap.size := by omega)); (try (have z1 : w.heap.size + 1 < w'.heap.size := by omega)); (try (have z2 : w.heap.size + 1 + 1 < w'.heap.size := by omega)); (try (have z3 : w.heap.size + 1 + 1 + 1 < w'.heap.size := by omega))))
  go_wp2
  go_region_held3 (fun v => Below w'.heap.size w' v ∧ (∀ b o, b < w'.heap.size → v.cell? ⟨b, o, none⟩ = w'.cell? ⟨b, o, none⟩) ∧ (∀ b o, b < w'.heap.size → v.frozen? ⟨b, o, none⟩ = w'.frozen? ⟨b, o, none⟩)) (first | exact held_start _ | (refine held_of ?_; (repeat (first | exact Below.refl _ _ | refine bl_drewN ?_ | refine bl_drew ?_ | refine bl_alloc ?_ _ | refine Below.setCell ?_ (by (first | (simp; done) | (simp; omega) | omega)) _ | refine bl_step (by assumption) ?_)); done))
    (first | (go_at_call 29; refine (search2 g s _ _ _ q0 q1 ?_ ?_ (by omega) (by omega)).mono ?_; go_simp; go_simp; rintro e w' ⟨rfl, hb⟩; (try replace hb := below_undrew hb); (try replace hb := below_undrewN hb); obtain ⟨hcell, hfroz⟩ := bcell hb; have hz := hb.size; (try simp at hz); (try (have z6 := Nat.lt_of_lt_of_le z7 hz)); (try (have z7 := Nat.lt_of_lt_of_le z8 hz)); (try (have z8 := Nat.lt_of_lt_of_le z9 hz)); (try (have z9 := Nat.lt_of_lt_of_le (Nat.lt_succ_self _) hz)); (try (have z0 : w.heap.size < w'.heap.size := by omega)); (try (have z1 : w.heap.size + 1 < w'.heap.size := by omega)); (try (have z2 : w.heap.size + 1 + 1 < w'.heap.size := by omega)); (try (have z3 : w.heap.size + 1 + 1 + 1 < w'.heap.size := by omega))))
  clear hw4 hw5 hw6
  go_wp2_with (go_at_call 33; refine (tvalid_any _ _ _).mono ?_; rintro e w' ⟨rfl, hb⟩; (try replace hb := below_undrew hb); (try replace hb := below_undrewN hb); obtain ⟨hcell, hfroz⟩ := bcell hb; have hz := hb.size; (try simp at hz); (try (have z6 := Nat.lt_of_lt_of_le z7 hz)); (try (have z7 := Nat.lt_of_lt_of_le z8 hz)); (try (have z8 := Nat.lt_of_lt_of_le z9 hz)); (try (have z9 := Nat.lt_of_lt_of_le (Nat.lt_succ_self _) hz)); (try (have z0 : w.heap.size < w'.heap.size := by omega)); (try (have z1 : w.heap.size + 1 < w'.heap.size := by omega)); (try (have z2 : w.heap.size + 1 + 1 < w'.heap.size := by omega)); (try (have z3 : w.heap.size + 1 + 1 + 1 < w'.heap.size := by omega)))
  exact bodyPost_ret (v := .tuple #[.agg #[.int .i64 (0), .int .i64 (0)], .int .i64 (5)]) (by first | (simp only [results, Try.results11]; go_simp; done) | simp [results, Try.results11, go_sem, *]) rfl ⟨rfl, by (repeat (first | exact Below.refl _ _ | refine bl_drewN ?_ | refine bl_drew ?_ | refine bl_alloc ?_ _ | refine Below.setCell ?_ (by (first | (simp; done) | (simp; omega) | omega)) _ | refine bl_step (by assumption) ?_))⟩

end Go.Proofs.Ytccmpibljahpbaa
