/- Compare of the reference of layer 2. -/
import Derived.Test.YtoagcbamlnhkhaaNh
import Derived.OwnWalk
namespace Go.Proofs.Ytoagcbamlnhkhaa
open Go.RowKit

def RoomV2 (w0 w : World) (B : Nat) (d : Bool) (v0 v1 : Value) : Prop :=
  w0.heap.size ≤ B ∧ B < w.heap.size ∧ w.frozen? ⟨B, 0, none⟩ = false ∧ w.frozen? ⟨B, 1, none⟩ = false ∧ ∃ x0 x1, w.cell? ⟨B, 0, none⟩ = some x0 ∧ w.cell? ⟨B, 1, none⟩ = some x1 ∧ (d = true → x0 = v0 ∧ x1 = v1)
theorem RoomV2.later {w0 w w' : World} {B : Nat} {d : Bool} {v0 v1 : Value} (hb : Below w.heap.size w w') (h : RoomV2 w0 w B d v0 v1) : RoomV2 w0 w' B d v0 v1 := by
  obtain ⟨h1, h2, f0, f1, x0, x1, c0, c1, h7⟩ := h
  exact ⟨h1, Nat.lt_of_lt_of_le h2 hb.size, (hb.frozen (p := ⟨B, 0, none⟩) h2).trans f0, (hb.frozen (p := ⟨B, 1, none⟩) h2).trans f1, x0, x1, (hb.cell (p := ⟨B, 0, none⟩) h2).trans c0, (hb.cell (p := ⟨B, 1, none⟩) h2).trans c1, h7⟩
theorem RoomV2.chg {w0 w : World} {B : Nat} {v0 v1 u0 u1 : Value} (h : RoomV2 w0 w B false v0 v1) : RoomV2 w0 w B false u0 u1 := by
  obtain ⟨h1, h2, f0, f1, x0, x1, c0, c1, h7⟩ := h
  exact ⟨h1, h2, f0, f1, x0, x1, c0, c1, fun e => by cases e⟩
theorem RoomV2.alloc {w0 w : World} (h : Below w0.heap.size w0 w) (x0 x1 : Value) (t : Nat) (d : Bool) (v0 v1 : Value) (hd : d = true → False) : RoomV2 w0 (w.alloc (Obj.cells #[x0, x1] t)) w.heap.size d v0 v1 :=
  ⟨h.size, by simp [go_sem], by simp [go_sem], by simp [go_sem], x0, x1, by simp [go_sem], by simp [go_sem], fun e => (hd e).elim⟩
theorem RoomV2.store {w0 w : World} {B : Nat} {d : Bool} {v0 v1 : Value} (u0 u1 : Value) (h : RoomV2 w0 w B d v0 v1) (d' : Bool) : RoomV2 w0 ((w.setCell ⟨B, 0, none⟩ u0).setCell ⟨B, 1, none⟩ u1) B d' u0 u1 := by
  obtain ⟨h1, h2, f0, f1, x0, x1, c0, c1, h7⟩ := h
  refine ⟨h1, by simpa using h2, by simpa using f0, by simpa using f1, u0, u1, ?_, ?_, fun _ => ⟨rfl, rfl⟩⟩
  · simp [go_sem, *]
  · simp [go_sem, *]
/-- digits that a call returned behind W, and a block that does not hold them -/
def DP (W v : World) (A : Option Addr) (n c z : Nat) (al : Bool) (E : Nat) : Prop := Dig v A n c z ∧ Fr W.heap.size A ∧ (al = true → ∀ a, A = some a → a.block ≠ E)
theorem DP.later {W v w' : World} {A : Option Addr} {n c z : Nat} {al : Bool} {E : Nat} (h : DP W v A n c z al E) (hb : Below v.heap.size v w') : DP W w' A n c z al E := ⟨h.1.below hb, h.2⟩
theorem DP.alloc {W v : World} {A : Option Addr} {n c z : Nat} {al : Bool} {E : Nat} (h : DP W v A n c z al E) (o : Obj) : DP W (v.alloc o) A n c z true v.heap.size :=
  ⟨h.1.below ((Below.refl _ _).alloc (Nat.le_refl _) o), h.2.1, fun _ a e => by have := h.1.lt a e; omega⟩
theorem DP.intro {W v w' : World} {A : Option Addr} {n c z : Nat} {al : Bool} {E : Nat} (hd : Dig w' A n c z) (hf : Fr v.heap.size A) (hW : W.heap.size ≤ v.heap.size) (hE : al = true → E < v.heap.size) : DP W w' A n c z al E :=
  ⟨hd, hf.le hW, fun t a e => by have := hE t; have := hf a e; omega⟩
theorem DP.store {W v : World} {A : Option Addr} {n c z : Nat} {E : Nat} (h : DP W v A n c z true E) (p : Addr) (u : Value) (hp : p.block = E) : DP W (v.setCell p u) A n c z true E :=
  ⟨h.1.store p u (fun a e => by rw [hp]; exact h.2.2 rfl a e), h.2⟩

def cmpI (x y : Int) : Int := if x < y then -1 else if x = y then 0 else 1
set_option maxRecDepth 100000 in
set_option maxHeartbeats 4000000 in
theorem compare02_any (A1 A2 : Option Addr) (n1 n2 c1 c2 : Nat) (x y : Int) (w : World) (h1 : Dig w A1 n1 c1 x.natAbs) (h2 : Dig w A2 n2 c2 y.natAbs) (hx : x.natAbs < pw 30) (hy : y.natAbs < pw 30) :
    Calls Try.prog 39 #[.agg #[.slice A1 n1 c1, .bool (decide (x < 0))], .agg #[.slice A2 n2 c2, .bool (decide (y < 0))]] w fun e w' => e = .returned (.int .i64 (cmpI x y)) ∧ Below w.heap.size w w' := by
  obtain ⟨b1, e1⟩ : ∃ b1, decide (x < 0) = b1 := ⟨_, rfl⟩
  obtain ⟨b2, e2⟩ : ∃ b2, decide (y < 0) = b2 := ⟨_, rfl⟩
  obtain ⟨b3, e3⟩ : ∃ b3, decide (-y < 0) = b3 := ⟨_, rfl⟩
  obtain ⟨b4, e4⟩ : ∃ b4, decide (x + -y < 0) = b4 := ⟨_, rfl⟩
  have MI := fun v (h : Below w.heap.size w v) => minus02_num A2 n2 c2 y v (h2.below h)
  have PL := fun v (h : Below w.heap.size w v) => plus02_num A1 A2 n1 n2 c1 c2 x (-y) v (h1.below h) (by rw [Int.natAbs_neg]; exact h2.below h) hx (by rw [Int.natAbs_neg]; exact hy)
  unfold NumRes at PL
  rw [e1, e3, e4] at PL
  rw [e2, e3] at MI
  rw [e1, e2]
  have C : Hid ((x + -y).natAbs = 0 → cmpI x y = 0) := by intro h; unfold cmpI; rw [if_neg (by omega), if_pos (by omega)]
  have C2 : Hid ((x + -y).natAbs ≠ 0 → b4 = true → cmpI x y = -1) := by intro h k; rw [k] at e4; have := of_decide_eq_true e4; unfold cmpI; rw [if_pos (by omega)]
  have C3 : Hid ((x + -y).natAbs ≠ 0 → b4 = false → cmpI x y = 1) := by intro h k; rw [k] at e4; have := of_decide_eq_false e4; unfold cmpI; rw [if_neg (by omega), if_neg (by omega)]
  generalize (x + -y).natAbs = Z at *
  replace MI := hidden MI
  replace PL := hidden PL
  clear e1 e2 e3 e4 h1 h2 hx hy
  go_enter Try.func39, Try.ntmps39
  go_wp2
  (refine name_below ?_; intro w' hb; (try replace hb := below_undrew hb); (try replace hb := below_undrewN hb); obtain ⟨hcell, hfroz⟩ := bcell hb; have hz := hb.size; (try simp at hz); (try (have z6 := Nat.lt_of_lt_of_le z7 hz)); (try (have z7 := Nat.lt_of_lt_of_le z8 hz)); (try (have z8 := Nat.lt_of_lt_of_le z9 hz)); (try (have z9 := Nat.lt_of_lt_of_le (Nat.lt_succ_self _) hz)); (try (have z0 : w.heap.size < w'.heap.size := by omega)); (try (have z1 : w.heap.size + 1 < w'.heap.size := by omega)); (try (have z2 : w.heap.size + 1 + 1 < w'.heap.size := by omega)); (try (have z3 : w.heap.size + 1 + 1 + 1 < w'.heap.size := by omega)); (try (have y1 : w1.heap.size < w'.heap.size := by omega)); (try (have y2 : w2.heap.size < w'.heap.size := by omega)); (try (have y3 : w3.heap.size < w'.heap.size := by omega)); (try (have y4 : w4.heap.size < w'.heap.size := by omega)); (try (have y5 : w5.heap.size < w'.heap.size := by omega)); (try (have y6 : w6.heap.size < w'.heap.size := by omega)); (try (have x1 : w1.heap.size + 1 < w'.heap.size := by omega)); (try (have x2 : w2.heap.size + 1 < w'.heap.size := by omega)); (try (have x3 : w3.heap.size + 1 < w'.heap.size := by omega)); (try (have x4 : w4.heap.size + 1 < w'.heap.size := by omega)); (try (have x5 : w5.heap.size + 1 < w'.heap.size := by omega)); (try (have x6 : w6.heap.size + 1 < w'.heap.size := by omega)); (try (have y7 : w7.heap.size < w'.heap.size := by omega)); (try (have y8 : w8.heap.size < w'.heap.size := by omega)); (try (have y9 : w9.heap.size < w'.heap.size := by omega)); (try (have z10 : w1.heap.size < w'.heap.size + 1 := by omega)); (try (have z20 : w2.heap.size < w'.heap.size + 1 := by omega)); (try (have z30 : w3.heap.size < w'.heap.size + 1 := by omega)); (try (have z40 : w4.heap.size < w'.heap.size + 1 := by omega)); (try (have z50 : w5.heap.size < w'.heap.size + 1 := by omega)); (try (have z60 : w6.heap.size < w'.heap.size + 1 := by omega)); (try (have z70 : w7.heap.size < w'.heap.size + 1 := by omega)); (try (have z80 : w8.heap.size < w'.heap.size + 1 := by omega)))
  have hw6 : Below w.heap.size w w' := by (repeat (first | (with_reducible exact Below.refl _ _) | (with_reducible refine Below.setCell ?_ (by (first | (simp; done) | (simp; omega) | omega)) _) | (with_reducible refine bl_alloc ?_ _) | (with_reducible refine bl_drewN ?_) | (with_reducible refine bl_drew ?_) | (with_reducible refine bl_step (by assumption) ?_)))
  have c0 : w'.cell? ⟨w.heap.size, 0, none⟩ = some (.slice A1 n1 c1) := by simp [go_sem, *]
  have c1x : w'.cell? ⟨w.heap.size, 1, none⟩ = some (.bool b1) := by simp [go_sem, *]
  have d0 : w'.cell? ⟨w.heap.size + 1, 0, none⟩ = some (.slice A2 n2 c2) := by simp [go_sem, *]
  have d1 : w'.cell? ⟨w.heap.size + 1, 1, none⟩ = some (.bool b2) := by simp [go_sem, *]
  clear hcell hfroz hz
  obtain ⟨w7, rfl⟩ : ∃ v, v = w' := ⟨_, rfl⟩
  refine wp_region_inv (fun a0 LL aa vv => ∃ (l0 l1 l2 l3 l4 l5 : Bool) (EE : Nat) (EA : Option Addr) (En : Nat) (Ec : Nat), LL = #[l0, l1, l2, l3, l4, l5] ∧ aa = { a0 with tmps := (((((a0.tmps.setIfInBounds 6 (cond l0 (.agg #[.slice A1 n1 c1, .bool b1]) (undef))).setIfInBounds 7 (cond l1 (.agg #[.slice A2 n2 c2, .bool b2]) (undef))).setIfInBounds 8 (cond l2 (.agg #[.slice A2 n2 c2, .bool b3]) (undef))).setIfInBounds 9 (cond l3 (.agg #[.slice EA En Ec, .bool b4]) (undef))).setIfInBounds 5 (cond l4 (.pointer (some ⟨EE, 0, none⟩)) (undef))) } ∧ Below w7.heap.size w7 vv ∧ (l5 = true → l4 = true) ∧ (l5 = true → l3 = true) ∧ (l3 = true → DP w7 vv EA En Ec Z l4 EE) ∧ (l4 = true → RoomV2 w7 vv EE l5 (.slice EA En Ec) (.bool b4))) (by kernel_rfl) (by kernel_rfl) ?h0 ?hsize ?hdone ?hstep
  case h0 =>
    refine ⟨false, false, false, false, false, false, 0, none, 0, 0, rfl, ?_, by (repeat (first | exact Below.refl _ _ | refine bl_drewN ?_ | refine bl_drew ?_ | refine bl_alloc ?_ _ | refine Below.setCell ?_ (by (first | (simp; done) | (simp; omega) | omega)) _ | refine bl_step (by assumption) ?_)), (fun h => by cases h), (fun h => by cases h), (fun h => by cases h), (fun h => by cases h)⟩
    simp only [cond_false, List.setIfInBounds_toArray, List.set_cons_zero, List.set_cons_succ]
  case hsize =>
    intro LL aa vv h
    obtain ⟨l0, l1, l2, l3, l4, l5, EE, EA, En, Ec, hL, _⟩ := h
    rw [hL]
    rfl
  case hstep =>
    intro LL aa vv h
    obtain ⟨l0, l1, l2, l3, l4, l5, EE, EA, En, Ec, hL, ha, hb0, hq, ho3_5, hx3, hr⟩ := h
    simp only [List.setIfInBounds_toArray, List.set_cons_zero, List.set_cons_succ] at ha
    subst hL
    subst ha
    refine ⟨?s0, ?s1, ?s2, ?s3, ?s4, ?s5, trivial⟩
    case s0 =>
      intro ff gg KK hK
      have f0 : l0 = false := ff
      clear ff gg
      subst f0
      simp only [cond_false]
      have k0 := cell_later hb0 c0
      have k1 := cell_later hb0 c1x
      go_simp
      exact hK _ _ ⟨true, l1, l2, l3, l4, l5, EE, EA, En, Ec, rfl, (by simp only [cond_true, List.setIfInBounds_toArray, List.set_cons_zero, List.set_cons_succ]), hb0, hq, ho3_5, hx3, hr⟩
    case s1 =>
      intro ff gg KK hK
      have f0 : l1 = false := ff
      clear ff gg
      subst f0
      simp only [cond_false]
      have k0 := cell_later hb0 d0
      have k1 := cell_later hb0 d1
      go_simp
      exact hK _ _ ⟨l0, true, l2, l3, l4, l5, EE, EA, En, Ec, rfl, (by simp only [cond_true, List.setIfInBounds_toArray, List.set_cons_zero, List.set_cons_succ]), hb0, hq, ho3_5, hx3, hr⟩
    case s2 =>
      intro ff gg KK hK
      have t1 : l1 = true := gg ⟨1, .data⟩ (by simp) (by rfl)
      have f0 : l2 = false := ff
      clear ff gg
      subst t1
      subst f0
      simp only [cond_true, cond_false]
      go_simp
      go_at_call 42
      with_reducible refine (MI.out _ (bl_step hb0 hw6)).mono ?_
      rintro e w' ⟨rfl, hb⟩
      exact hK _ _ ⟨l0, true, true, l3, l4, l5, EE, EA, En, Ec, rfl, (by simp only [cond_true, List.setIfInBounds_toArray, List.set_cons_zero, List.set_cons_succ]), bl_step hb hb0, hq, ho3_5, (fun t => (hx3 t).later hb), (fun t => (hr t).later hb)⟩
    case s3 =>
      intro ff gg KK hK
      have t0 : l0 = true := gg ⟨0, .data⟩ (by simp) (by rfl)
      have t2 : l2 = true := gg ⟨2, .data⟩ (by simp) (by rfl)
      have f0 : l3 = false := ff
      clear ff gg
      subst t0 t2
      subst f0
      have fq5 : l5 = false := by cases hq2 : l5; rfl; exact absurd (ho3_5 hq2) (by simp)
      subst fq5
      simp only [cond_true, cond_false]
      go_simp
      go_at_call 41
      with_reducible refine (PL.out _ (bl_step hb0 hw6)).mono ?_
      rintro e w' ⟨A', n', c', b', rfl, hd, rfl, hfr, hb⟩
      exact hK _ _ ⟨true, l1, true, true, l4, false, EE, A', n', c', rfl, (by simp only [cond_true, List.setIfInBounds_toArray, List.set_cons_zero, List.set_cons_succ]), bl_step hb hb0, (fun h => by cases h), (fun _ => rfl), (fun _ => DP.intro hd hfr hb0.size (fun t => (hr t).2.1)), (fun t => ((hr t).later hb).chg)⟩
    case s4 =>
      intro ff gg KK hK
      have f0 : l4 = false := ff
      clear ff gg
      subst f0
      have fs : l5 = false := by cases hq2 : l5; rfl; exact absurd (hq hq2) (by simp)
      subst fs
      simp only [cond_false]
      go_simp
      exact hK _ _ ⟨l0, l1, l2, l3, true, false, vv.heap.size, EA, En, Ec, rfl, (by simp only [cond_true, List.setIfInBounds_toArray, List.set_cons_zero, List.set_cons_succ]), by (repeat (first | exact Below.refl _ _ | refine bl_drewN ?_ | refine bl_drew ?_ | refine bl_alloc ?_ _ | refine Below.setCell ?_ (by (first | (simp; done) | (simp; omega) | omega)) _ | refine bl_step (by assumption) ?_)), (fun _ => rfl), ho3_5, (fun t => (hx3 t).alloc _), (fun _ => RoomV2.alloc hb0 _ _ _ _ _ _ (fun h => by cases h))⟩
    case s5 =>
      intro ff gg KK hK
      have t4 : l4 = true := gg ⟨4, .data⟩ (by simp) (by rfl)
      have t3 : l3 = true := gg ⟨3, .data⟩ (by simp) (by rfl)
      have f0 : l5 = false := ff
      clear ff gg
      subst t4 t3
      subst f0
      simp only [cond_true]
      have rr := hr rfl
      obtain ⟨m1, m2, fz0, fz1, y0, y1, cz0, cz1, m7⟩ := rr
      go_simp
      exact hK _ _ ⟨l0, l1, l2, true, true, true, EE, EA, En, Ec, rfl, (by simp only [cond_true, List.setIfInBounds_toArray, List.set_cons_zero, List.set_cons_succ]), ((hb0.setCell m1 _).setCell m1 _), (fun _ => rfl), (fun _ => rfl), (fun t => ((hx3 t).store _ _ rfl).store _ _ rfl), (fun _ => (hr rfl).store _ _ _)⟩
  case hdone =>
    intro LL aa vv h hd
    obtain ⟨l0, l1, l2, l3, l4, l5, EE, EA, En, Ec, hL, ha, hb0, hq, ho3_5, hx3, hr⟩ := h
    rw [hL] at hd
    have t0 : l0 = true := hd 0 (by decide)
    have t1 : l1 = true := hd 1 (by decide)
    have t2 : l2 = true := hd 2 (by decide)
    have t3 : l3 = true := hd 3 (by decide)
    have t4 : l4 = true := hd 4 (by decide)
    have t5 : l5 = true := hd 5 (by decide)
    clear hd hL hq ho3_5
    subst t0 t1 t2 t3 t4 t5
    simp only [cond_true, List.setIfInBounds_toArray, List.set_cons_zero, List.set_cons_succ] at ha
    subst ha
    obtain ⟨EEg, EEl, _, _, y0, y1, EEc0, EEc1, hy⟩ := hr rfl
    obtain ⟨rfl, rfl⟩ := hy rfl
    clear hr
    replace hx3 := hx3 rfl
    have DZ := hx3.1.pos
    replace hw6 : Below w.heap.size w vv := bl_step hb0 hw6
    clear hb0 hx3 MI PL
    by_cases z0 : Z = 0
    · obtain rfl : En = 0 := DZ.2 z0
      have R := hidden (C.out z0)
      clear C C2 C3 DZ z0
      go_wp2
      go_ret
      exact ⟨by rw [R.out]; rfl, hw6⟩
    · have ne : ((En : Int) == 0) = false := by simp; exact fun k => z0 (DZ.1 k)
      cases b4
      · have R := hidden (C3.out z0 rfl)
        clear C C2 C3 DZ z0
        go_wp2
        go_ret
        exact ⟨by rw [R.out]; rfl, hw6⟩
      · have R := hidden (C2.out z0 rfl)
        clear C C2 C3 DZ z0
        go_wp2
        go_ret
        exact ⟨by rw [R.out]; rfl, hw6⟩

end Go.Proofs.Ytoagcbamlnhkhaa
