/- Several small texts in one: XNo, XNp. -/
import Derived.Test.YtjceofmhodcefaaGreatNw
import Derived.Test.YtjceofmhodcefaaGreatNv
import Derived.Test.YtjceofmhodcefaaGreatInv
namespace Go.Proofs.YtjceofmhodcefaaGreat
open Go.RowKit

/-- a value that is a number -/
def NumV (w : World) (z : Int) (v : Value) : Prop := ∃ A n c, v = .agg #[.slice A n c, .bool (decide (z < 0))] ∧ Dig w A n c z.natAbs
theorem NumV.below {w w' : World} {z : Int} {v : Value} (h : NumV w z v) (hb : Below w.heap.size w w') : NumV w' z v := by
  obtain ⟨A, n, c, e, d⟩ := h
  exact ⟨A, n, c, e, d.below hb⟩
def NumR (w : World) (z : Int) (e : Ending) (w' : World) : Prop := ∃ v, e = .returned v ∧ NumV w' z v ∧ Below w.heap.size w w'
theorem numR_of {w w' : World} {z : Int} {e : Ending} (h : NumRes w z e w') : NumR w z e w' := by
  obtain ⟨A, n, c, b, rfl, d, rfl, _, hb⟩ := h
  exact ⟨_, rfl, ⟨A, n, c, rfl, d⟩, hb⟩
theorem ofint_v (n : Int) (w : World) (n0 : -9223372036854775808 ≤ n) (n1 : n ≤ 9223372036854775807) : Calls Tryz.prog 53 #[.int .i64 n] w (NumR w n) := by
  by_cases h : n < 0
  · exact (ofint02_neg n w h n0 n1).mono fun _ _ => numR_of
  · exact (ofint02_pos n w (by omega) n0 n1).mono fun _ _ => numR_of
theorem mul_v (u v : Value) (x y : Int) (w : World) (g : NumV w x u) (h : NumV w y v) (hx : x.natAbs < pw 30) (hy : y.natAbs < pw 30) : Calls Tryz.prog 52 #[u, v] w (NumR w (x * y)) := by
  obtain ⟨A, n, c, rfl, d⟩ := g
  obtain ⟨B, m, k, rfl, f⟩ := h
  exact (mul02_num A B n m c k x y w d f hx hy).mono fun _ _ => numR_of
theorem plus_v2 (u v : Value) (x y : Int) (w : World) (g : NumV w x u) (h : NumV w y v) (hx : x.natAbs < pw 30) (hy : y.natAbs < pw 30) : Calls Tryz.prog 51 #[u, v] w (NumR w (x + y)) := by
  obtain ⟨A, n, c, rfl, d⟩ := g
  obtain ⟨B, m, k, rfl, f⟩ := h
  exact (plus02_num A B n m c k x y w d f hx hy).mono fun _ _ => numR_of
theorem compare_v (u v : Value) (x y : Int) (w : World) (g : NumV w x u) (h : NumV w y v) (hx : x.natAbs < pw 30) (hy : y.natAbs < pw 30) : Calls Tryz.prog 81 #[u, v] w fun e w' => e = .returned (.int .i64 (cmpI x y)) ∧ Below w.heap.size w w' := by
  obtain ⟨A, n, c, rfl, d⟩ := g
  obtain ⟨B, m, k, rfl, f⟩ := h
  exact compare02_any A B n m c k x y w d f hx hy
theorem down_v (u v : Value) (x y : Int) (w : World) (g : NumV w x u) (h : NumV w y v) (h0 : 0 < y) (hx : x.natAbs < pw 29) (hy : y.natAbs < pw 30) : Calls Tryz.prog 56 #[u, v] w (NumR w (x / y)) := by
  obtain ⟨A, n, c, rfl, d⟩ := g
  obtain ⟨B, m, k, rfl, f⟩ := h
  exact (down02_any A B n m c k x y w d f h0 (d.few hx) (f.few hy)).mono fun _ _ => numR_of
/-- a number with the sign of another one -/
def sgx (b : Bool) (q : Nat) : Int := if b then -(q : Int) else q
theorem sgx_step (b : Bool) (x j : Nat) : sgx b (x / pw j) = sgx b (x / pw (j + 1)) * 268435456 + (if b then -dg x j else dg x j) := by
  have h := div_down x j
  have e : ((x / pw j : Nat) : Int) = (x / pw (j + 1) : Nat) * 268435456 + dg x j := by rw [← h]; simp
  cases b <;> simp only [sgx, if_true, if_false, Bool.false_eq_true] <;> omega
theorem sgx_bd (b : Bool) (q x : Nat) (h : q ≤ x) (h0 : x ≤ 9223372036854775808) (h1 : b = false → x ≤ 9223372036854775807) : -9223372036854775808 ≤ sgx b q ∧ sgx b q ≤ 9223372036854775807 := by
  cases b
  · have := h1 rfl; simp only [sgx, Bool.false_eq_true, if_false]; omega
  · simp only [sgx, if_true]; omega

set_option maxRecDepth 100000 in
set_option maxHeartbeats 4000000 in
theorem isint_walk (A : Option Addr) (n c : Nat) (b : Bool) (x : Int) (w : World) (hv : NumV w x (.agg #[.slice A n c, .bool b])) (x0 : -9223372036854775808 ≤ x) (x1 : x ≤ 9223372036854775807)
    (CM : Hid (∀ w (u v : Value), NumV w x u → NumV w (-9223372036854775808) v → Calls Tryz.prog 81 #[u, v] w fun e w' => e = .returned (.int .i64 (cmpI x (-9223372036854775808))) ∧ Below w.heap.size w w'))
    (CX : Hid (∀ w (u v : Value), NumV w x u → NumV w 9223372036854775807 v → Calls Tryz.prog 81 #[u, v] w fun e w' => e = .returned (.int .i64 (cmpI x 9223372036854775807)) ∧ Below w.heap.size w w')) :
    Calls Tryz.prog 55 #[.agg #[.slice A n c, .bool b]] w fun e w' => e = .returned (.tuple #[.int .i64 x, .bool true]) ∧ Below w.heap.size w w' := by
  obtain ⟨hb, hd⟩ : b = decide (x < 0) ∧ Dig w A n c x.natAbs := by
    obtain ⟨A', n', c', e, d⟩ := hv
    injection e with e
    simp at e
    obtain ⟨⟨rfl, rfl, rfl⟩, rfl⟩ := e
    exact ⟨rfl, d⟩
  have k1 : ¬ cmpI x (-9223372036854775808) < 0 := by unfold cmpI; rw [if_neg (by omega)]; split <;> omega
  have k2 : ¬ 0 < cmpI x 9223372036854775807 := by unfold cmpI; split; omega; rw [if_pos (by omega)]; decide
  obtain ⟨u1, e1⟩ : ∃ u, cmpI x (-9223372036854775808) = u := ⟨_, rfl⟩
  obtain ⟨u2, e2⟩ : ∃ u, cmpI x 9223372036854775807 = u := ⟨_, rfl⟩
  rw [e1] at k1 CM
  rw [e2] at k2 CX
  have kk1 : decide (u1 < 0) = false := decide_eq_false k1
  have kk2 : decide (0 < u2) = false := decide_eq_false k2
  have nl : n ≤ 3 := hd.few (Nat.lt_of_le_of_lt (by omega : x.natAbs ≤ 9223372036854775808) (by decide))
  have HN := hidden hv
  have HD := hidden hd
  have HB := hidden hb
  have X0 := hidden x0
  have X1 := hidden x1
  have O1 := hidden fun v => ofint_v (-9223372036854775808) v (by decide) (by decide)
  have O2 := hidden fun v => ofint_v 9223372036854775807 v (by decide) (by decide)
  clear hv hd hb e1 e2 x0 x1
  go_enter Tryz.func55, Tryz.ntmps55
  go_wp2
  refine name_code ?_
  intro w' hb
  have HN2 := hidden (HN.out.below (bl_step hb (by (repeat (first | (with_reducible exact Below.refl _ _) | (with_reducible refine Below.setCell ?_ (by (first | (simp; done) | (simp; omega) | omega)) _) | (with_reducible refine bl_alloc ?_ _) | (with_reducible refine bl_drewN ?_) | (with_reducible refine bl_drew ?_) | (with_reducible refine bl_step (by assumption) ?_))))))
  (try replace hb := below_undrew hb); (try replace hb := below_undrewN hb); obtain ⟨hcell, hfroz⟩ := bcell hb; have hz := hb.size; (try simp at hz); (try (have z6 := Nat.lt_of_lt_of_le z7 hz)); (try (have z7 := Nat.lt_of_lt_of_le z8 hz)); (try (have z8 := Nat.lt_of_lt_of_le z9 hz)); (try (have z9 := Nat.lt_of_lt_of_le (Nat.lt_succ_self _) hz)); (try (have z0 : w.heap.size < w'.heap.size := by omega)); (try (have z1 : w.heap.size + 1 < w'.heap.size := by omega)); (try (have z2 : w.heap.size + 1 + 1 < w'.heap.size := by omega)); (try (have z3 : w.heap.size + 1 + 1 + 1 < w'.heap.size := by omega))
  have hw : Below w.heap.size w w' := by (repeat (first | (with_reducible exact Below.refl _ _) | (with_reducible refine Below.setCell ?_ (by (first | (simp; done) | (simp; omega) | omega)) _) | (with_reducible refine bl_alloc ?_ _) | (with_reducible refine bl_drewN ?_) | (with_reducible refine bl_drew ?_) | (with_reducible refine bl_step (by assumption) ?_)))
  have a0 : w'.cell? ⟨w.heap.size, 0, none⟩ = some (.slice A n c) := by simp [go_sem, *]
  have a1 : w'.cell? ⟨w.heap.size, 1, none⟩ = some (.bool b) := by simp [go_sem, *]
  have az : w.heap.size < w'.heap.size := World.block_lt_of_cell? _ _ a0
  clear hcell hfroz hz hb HN
  obtain ⟨W1, rfl⟩ : ∃ v, v = w' := ⟨_, rfl⟩
  refine wp_region_inv (fun a0 LL aa vv => ∃ (l0 l1 l2 l3 l4 l5 l6 l7 l8 l9 : Bool) (uu : World) (v1 v6 : Value), LL = #[l0, l1, l2, l3, l4, l5, l6, l7, l8, l9] ∧ aa = { a0 with tmps := (a0.tmps.toList.take 7 ++ ([cond l0 (.agg #[.slice A n c, .bool b]) (undef), cond l1 (v1) (undef), cond l2 (.int .i64 u1) (undef), cond l3 (.bool false) (undef), cond l4 (.bool false) (undef), cond l5 (.agg #[.slice A n c, .bool b]) (undef), cond l6 (v6) (undef), cond l7 (.int .i64 u2) (undef), cond l8 (.bool false) (undef), cond l9 (.bool false) (undef)] ++ a0.tmps.toList.drop 17)).toArray } ∧ Below W1.heap.size W1 uu ∧ (l1 = true → NumV uu (-9223372036854775808) v1) ∧ (l6 = true → NumV uu 9223372036854775807 v6) ∧ vv = uu) (by kernel_rfl) (by kernel_rfl) ?h0 ?hsize ?hdone ?hstep
  case h0 =>
    refine ⟨false, false, false, false, false, false, false, false, false, false, _, undef, undef, rfl, ?_, by (repeat (first | exact Below.refl _ _ | refine bl_drewN ?_ | refine bl_drew ?_ | refine bl_alloc ?_ _ | refine Below.setCell ?_ (by (first | (simp; done) | (simp; omega) | omega)) _ | refine bl_step (by assumption) ?_)), (fun h => by cases h), (fun h => by cases h), rfl⟩
    kernel_rfl
  case hsize =>
    intro LL aa vv h
    obtain ⟨l0, h⟩ := h
    obtain ⟨l1, h⟩ := h
    obtain ⟨l2, h⟩ := h
    obtain ⟨l3, h⟩ := h
    obtain ⟨l4, h⟩ := h
    obtain ⟨l5, h⟩ := h
    obtain ⟨l6, h⟩ := h
    obtain ⟨l7, h⟩ := h
    obtain ⟨l8, h⟩ := h
    obtain ⟨l9, h⟩ := h
    obtain ⟨uu, h⟩ := h
    obtain ⟨v1, h⟩ := h
    obtain ⟨v6, h⟩ := h
    obtain ⟨hL, _⟩ := h
    rw [hL]
    rfl
  case hstep =>
    intro LL aa vv h
    obtain ⟨l0, h⟩ := h
    obtain ⟨l1, h⟩ := h
    obtain ⟨l2, h⟩ := h
    obtain ⟨l3, h⟩ := h
    obtain ⟨l4, h⟩ := h
    obtain ⟨l5, h⟩ := h
    obtain ⟨l6, h⟩ := h
    obtain ⟨l7, h⟩ := h
    obtain ⟨l8, h⟩ := h
    obtain ⟨l9, h⟩ := h
    obtain ⟨uu, h⟩ := h
    obtain ⟨v1, h⟩ := h
    obtain ⟨v6, h⟩ := h
    obtain ⟨hL, h⟩ := h
    obtain ⟨ha, h⟩ := h
    obtain ⟨hu, h⟩ := h
    obtain ⟨hx1, h⟩ := h
    obtain ⟨hx6, hv⟩ := h
    simp only [List.take_succ_cons, List.take_zero, List.cons_append, List.nil_append, List.drop_succ_cons, List.drop_zero] at ha
    subst hL
    subst ha
    refine ⟨?s0, ?s1, ?s2, ?s3, ?s4, ?s5, ?s6, ?s7, ?s8, ?s9, trivial⟩
    case s0 =>
      intro ff gg KK hK
      have f0 : l0 = false := ff
      subst hv
      clear ff gg
      subst f0
      simp only [cond_false]
      have j0 := cell_later hu a0
      have j1 := cell_later hu a1
      go_simp
      exact hK _ _ ⟨true, l1, l2, l3, l4, l5, l6, l7, l8, l9, _, v1, v6, rfl, (by kernel_rfl), hu, hx1, hx6, rfl⟩
    case s1 =>
      intro ff gg KK hK
      have f0 : l1 = false := ff
      subst hv
      clear ff gg
      subst f0
      simp only [cond_false]
      go_simp
      go_at_call 53
      with_reducible refine (O1.out _).mono ?_
      rintro e w' ⟨vn, rfl, hv, hb⟩
      exact hK _ _ ⟨l0, true, l2, l3, l4, l5, l6, l7, l8, l9, _, vn, v6, rfl, (by kernel_rfl), bl_step hb hu, (fun _ => hv), (fun t => (hx6 t).below hb), rfl⟩
    case s2 =>
      intro ff gg KK hK
      have f0 : l2 = false := ff
      subst hv
      have t0 : l0 = true := gg ⟨0, .data⟩ (by simp) (by rfl)
      have t1 : l1 = true := gg ⟨1, .data⟩ (by simp) (by rfl)
      clear ff gg
      subst t0 t1
      subst f0
      simp only [cond_true, cond_false]
      go_simp
      go_at_call 81
      with_reducible refine (CM.out _ _ _ (HN2.out.below hu) (hx1 rfl)).mono ?_
      rintro e w' ⟨rfl, hb⟩
      exact hK _ _ ⟨true, true, true, l3, l4, l5, l6, l7, l8, l9, _, v1, v6, rfl, (by kernel_rfl), bl_step hb hu, (fun t => (hx1 t).below hb), (fun t => (hx6 t).below hb), rfl⟩
    case s3 =>
      intro ff gg KK hK
      have f0 : l3 = false := ff
      subst hv
      have t2 : l2 = true := gg ⟨2, .data⟩ (by simp) (by rfl)
      clear ff gg
      subst t2
      subst f0
      simp only [cond_true, cond_false]
      go_simp
      exact hK _ _ ⟨l0, l1, true, true, l4, l5, l6, l7, l8, l9, _, v1, v6, rfl, (by first | (rw [kk1]; kernel_rfl) | kernel_rfl), hu, hx1, hx6, rfl⟩
    case s4 =>
      intro ff gg KK hK
      have f0 : l4 = false := ff
      subst hv
      have t3 : l3 = true := gg ⟨3, .data⟩ (by simp) (by rfl)
      clear ff gg
      subst t3
      subst f0
      simp only [cond_true, cond_false]
      go_simp
      exact hK _ _ ⟨l0, l1, l2, true, true, l5, l6, l7, l8, l9, _, v1, v6, rfl, (by kernel_rfl), hu, hx1, hx6, rfl⟩
    case s5 =>
      intro ff gg KK hK
      have f0 : l5 = false := ff
      subst hv
      have t4 : l4 = true := gg ⟨4, .guard⟩ (by simp) (by rfl)
      clear ff gg
      subst t4
      subst f0
      simp only [cond_true, cond_false]
      have j0 := cell_later hu a0
      have j1 := cell_later hu a1
      go_simp
      exact hK _ _ ⟨l0, l1, l2, l3, true, true, l6, l7, l8, l9, _, v1, v6, rfl, (by kernel_rfl), hu, hx1, hx6, rfl⟩
    case s6 =>
      intro ff gg KK hK
      have f0 : l6 = false := ff
      subst hv
      have t4 : l4 = true := gg ⟨4, .chain⟩ (by simp) (by rfl)
      clear ff gg
      subst t4
      subst f0
      simp only [cond_true, cond_false]
      go_simp
      go_at_call 53
      with_reducible refine (O2.out _).mono ?_
      rintro e w' ⟨vn, rfl, hv, hb⟩
      exact hK _ _ ⟨l0, l1, l2, l3, true, l5, true, l7, l8, l9, _, v1, vn, rfl, (by kernel_rfl), bl_step hb hu, (fun t => (hx1 t).below hb), (fun _ => hv), rfl⟩
    case s7 =>
      intro ff gg KK hK
      have f0 : l7 = false := ff
      subst hv
      have t5 : l5 = true := gg ⟨5, .data⟩ (by simp) (by rfl)
      have t6 : l6 = true := gg ⟨6, .data⟩ (by simp) (by rfl)
      have t4 : l4 = true := gg ⟨4, .guard⟩ (by simp) (by rfl)
      clear ff gg
      subst t5 t6 t4
      subst f0
      simp only [cond_true, cond_false]
      go_simp
      go_at_call 81
      with_reducible refine (CX.out _ _ _ (HN2.out.below hu) (hx6 rfl)).mono ?_
      rintro e w' ⟨rfl, hb⟩
      exact hK _ _ ⟨l0, l1, l2, l3, true, true, true, true, l8, l9, _, v1, v6, rfl, (by kernel_rfl), bl_step hb hu, (fun t => (hx1 t).below hb), (fun t => (hx6 t).below hb), rfl⟩
    case s8 =>
      intro ff gg KK hK
      have f0 : l8 = false := ff
      subst hv
      have t7 : l7 = true := gg ⟨7, .data⟩ (by simp) (by rfl)
      have t4 : l4 = true := gg ⟨4, .guard⟩ (by simp) (by rfl)
      clear ff gg
      subst t7 t4
      subst f0
      simp only [cond_true, cond_false]
      go_simp
      exact hK _ _ ⟨l0, l1, l2, l3, true, l5, l6, true, true, l9, _, v1, v6, rfl, (by first | (rw [kk2]; kernel_rfl) | kernel_rfl), hu, hx1, hx6, rfl⟩
    case s9 =>
      intro ff gg KK hK
      have f0 : l9 = false := ff
      subst hv
      have t4 : l4 = true := gg ⟨4, .data⟩ (by simp) (by rfl)
      have t8 : l8 = true := gg ⟨8, .data⟩ (by simp) (by rfl)
      clear ff gg
      subst t4 t8
      subst f0
      simp only [cond_true, cond_false]
      go_simp
      exact hK _ _ ⟨l0, l1, l2, l3, true, l5, l6, l7, true, true, _, v1, v6, rfl, (by kernel_rfl), hu, hx1, hx6, rfl⟩
  case hdone =>
    intro LL aa vv h hd
    obtain ⟨l0, h⟩ := h
    obtain ⟨l1, h⟩ := h
    obtain ⟨l2, h⟩ := h
    obtain ⟨l3, h⟩ := h
    obtain ⟨l4, h⟩ := h
    obtain ⟨l5, h⟩ := h
    obtain ⟨l6, h⟩ := h
    obtain ⟨l7, h⟩ := h
    obtain ⟨l8, h⟩ := h
    obtain ⟨l9, h⟩ := h
    obtain ⟨uu, h⟩ := h
    obtain ⟨v1, h⟩ := h
    obtain ⟨v6, h⟩ := h
    obtain ⟨hL, h⟩ := h
    obtain ⟨ha, h⟩ := h
    obtain ⟨hu, h⟩ := h
    obtain ⟨hx1, h⟩ := h
    obtain ⟨hx6, hv⟩ := h
    rw [hL] at hd
    have t0 : l0 = true := hd 0 (by decide)
    have t1 : l1 = true := hd 1 (by decide)
    have t2 : l2 = true := hd 2 (by decide)
    have t3 : l3 = true := hd 3 (by decide)
    have t4 : l4 = true := hd 4 (by decide)
    have t5 : l5 = true := hd 5 (by decide)
    have t6 : l6 = true := hd 6 (by decide)
    have t7 : l7 = true := hd 7 (by decide)
    have t8 : l8 = true := hd 8 (by decide)
    have t9 : l9 = true := hd 9 (by decide)
    clear hd hL
    subst t0 t1 t2 t3 t4 t5 t6 t7 t8 t9
    simp only [cond_true, List.take_succ_cons, List.take_zero, List.cons_append, List.nil_append, List.drop_succ_cons, List.drop_zero] at ha
    subst ha
    subst hv
    replace hx1 := hx1 rfl
    replace hx6 := hx6 rfl
    clear hx1 hx6
    have hw2 : Below w.heap.size w vv := bl_step hu hw
    replace a0 := cell_later hu a0
    replace a1 := cell_later hu a1
    replace az : w.heap.size < vv.heap.size := World.block_lt_of_cell? _ _ a0
    clear hu hw HN2
    have NB := hidden (show x.natAbs ≤ 9223372036854775808 ∧ (b = false → x.natAbs ≤ 9223372036854775807) from by have := X0.out; have := X1.out; refine ⟨by omega, fun h => ?_⟩; rw [HB.out] at h; have := of_decide_eq_false h; omega)
    obtain ⟨W2, rfl⟩ : ∃ v, v = vv := ⟨_, rfl⟩
    go_wp2
    go_loopw [4, 5] (fun nv iv wr => ∃ (i : Nat) (t N : Int), iv = .int .i64 t ∧ t = (i : Int) - 1 ∧ i ≤ n ∧ nv = .int .i64 N ∧ Hid (N = sgx b (x.natAbs / pw i)) ∧ Below W2.heap.size W2 wr) (fun _ iv _ => (intOf iv + 1).toNat)
    case atStart => exact ⟨n, _, 0, rfl, rfl, Nat.le_refl _, rfl, (by unfold Hid; rw [Nat.div_eq_of_lt HD.out.1.1]; cases b <;> rfl), Below.refl _ _⟩
    case round =>
      obtain ⟨i, t, N, rfl, ht, hi, rfl, hN, hb0⟩ := hrel
      by_cases i0 : i = 0
      · subst i0
        obtain rfl : t = -1 := by omega
        clear ht
        have e : N = x := by
          rw [hN.out, pw_zero, Nat.div_one, HB.out]
          have := X0.out
          by_cases h : x < 0
          · rw [decide_eq_true h]; simp only [sgx, if_true]; omega
          · rw [decide_eq_false h]; simp only [sgx, Bool.false_eq_true, if_false]; omega
        subst e
        go_wp2
        go_ret2
        exact ⟨rfl, bl_step hb0 hw2⟩
      · obtain ⟨j, rfl⟩ : ∃ j, i = j + 1 := ⟨i - 1, by omega⟩
        obtain rfl : t = (j : Int) := by omega
        clear ht
        obtain ⟨g1, rfl, hg1, _⟩ := HD.out.1.get (by omega)
        have x1 := HD.out.1.cell (bl_step hb0 hw2) (by omega : j < n)
        have s1 : g1 < wr.heap.size := Nat.lt_of_lt_of_le hg1 (bl_step hb0 hw2).size
        have p0 := cell_later hb0 a0
        have p1 := cell_later hb0 a1
        have pz : w.heap.size < wr.heap.size := World.block_lt_of_cell? _ _ p0
        have SS := sgx_step b x.natAbs j
        have B1 := sgx_bd b (x.natAbs / pw j) x.natAbs (Nat.div_le_self _ _) NB.out.1 NB.out.2
        have B2 := sgx_bd b (x.natAbs / pw (j + 1)) x.natAbs (Nat.div_le_self _ _) NB.out.1 NB.out.2
        have dd := dg_bd x.natAbs j
        rw [← hN.out] at SS B2
        obtain ⟨a, ea⟩ : ∃ a, dg x.natAbs j = a := ⟨_, rfl⟩
        rw [ea] at x1 dd SS
        obtain ⟨d0, d1⟩ := dd
        have sb : (b = true → N ≤ 0) ∧ (b = false → 0 ≤ N) := by rw [hN.out]; exact ⟨fun h => by subst h; simp only [sgx, if_true]; exact Int.neg_nonpos_of_nonneg (Int.natCast_nonneg _), fun h => by subst h; simp only [sgx, Bool.false_eq_true, if_false]; exact Int.natCast_nonneg _⟩
        have t3 : (0 : Int) ≤ j := by omega
        have t4 : (j : Int) < n := by omega
        cases b with
        | false =>
          simp only [Bool.false_eq_true, if_false] at SS
          have sp := sb.2 rfl
          have HS := hidden SS
          have wm1 : IntKind.i64.wrap (N * 268435456) = N * 268435456 := by rw [IntKind.wrap_i64]; omega
          have wm2 : IntKind.i64.wrap (N * 268435456 + a) = N * 268435456 + a := by rw [IntKind.wrap_i64]; omega
          clear SS hN ea sb B1
          go_wp2
          exact ⟨⟨j, (j : Int) - 1, N * 268435456 + a, rfl, rfl, by omega, rfl, HS.out.symm, hb0⟩, by first | (simp [intOf]; done) | (simp [intOf]; omega)⟩
        | true =>
          simp only [if_true] at SS
          have sp := sb.1 rfl
          have HS := hidden SS
          have wm1 : IntKind.i64.wrap (N * 268435456) = N * 268435456 := by rw [IntKind.wrap_i64]; omega
          have wm2 : IntKind.i64.wrap (N * 268435456 + -a) = N * 268435456 + -a := by rw [IntKind.wrap_i64]; omega
          clear SS hN ea sb B1
          go_wp2
          exact ⟨⟨j, (j : Int) - 1, N * 268435456 + -a, rfl, rfl, by omega, by first | rfl | go_num, HS.out.symm, hb0⟩, by first | (simp [intOf]; done) | (simp [intOf]; omega)⟩

end Go.Proofs.YtjceofmhodcefaaGreat

namespace Go.Proofs.YtjceofmhodcefaaGreat
open Go.RowKit

theorem pw30_of {x : Int} (h0 : -19342813113834066795298816 ≤ x) (h1 : x ≤ 19342813113834066795298816) : x.natAbs < pw 29 ∧ x.natAbs < pw 30 := by
  have e : pw 4 = 5192296858534827628530496329220096 := by decide
  have h : x.natAbs < pw 4 := by omega
  exact ⟨Nat.lt_of_lt_of_le h (pw_le (by decide)), Nat.lt_of_lt_of_le h (pw_le (by decide))⟩
theorem isint_v (u : Value) (x : Int) (w : World) (g : NumV w x u) (x0 : -9223372036854775808 ≤ x) (x1 : x ≤ 9223372036854775807) :
    Calls Tryz.prog 55 #[u] w fun e w' => e = .returned (.tuple #[.int .i64 x, .bool true]) ∧ Below w.heap.size w w' := by
  have h := g
  obtain ⟨A, n, c, rfl, _⟩ := h
  exact isint_walk A n c _ x w g x0 x1 (hidden fun w u v g h => compare_v u v x _ w g h (pw30_of (by omega) (by omega)).2 (pw30_of (by omega) (by omega)).2) (hidden fun w u v g h => compare_v u v x _ w g h (pw30_of (by omega) (by omega)).2 (pw30_of (by omega) (by omega)).2)
theorem minus_v2 (u : Value) (x : Int) (w : World) (g : NumV w x u) : Calls Tryz.prog 54 #[u] w (NumR w (-x)) := by
  obtain ⟨A, n, c, rfl, d⟩ := g
  exact (minus02_num A n c x w d).mono fun e w' h => ⟨_, h.1, ⟨A, n, c, rfl, by rw [Int.natAbs_neg]; exact d.below h.2⟩, h.2⟩
/-- a number, its cells by name -/
def NumX (w : World) (z : Int) (e : Ending) (w' : World) : Prop := ∃ A n c b, e = .returned (.agg #[.slice A n c, .bool b]) ∧ NumV w' z (.agg #[.slice A n c, .bool b]) ∧ Below w.heap.size w w'
theorem numX_of {w w' : World} {z : Int} {e : Ending} (h : NumR w z e w') : NumX w z e w' := by
  obtain ⟨v, rfl, ⟨A, n, c, rfl, d⟩, hb⟩ := h
  exact ⟨A, n, c, _, rfl, ⟨A, n, c, rfl, d⟩, hb⟩
set_option maxRecDepth 100000 in
set_option maxHeartbeats 4000000 in
theorem solved_walk (a b c d n q : Int) (r : Bool) (w : World) (hr : Hid ((decide (-2000000 ≤ q) && decide (q ≤ 2000000)) = r))
    (OA : Hid (∀ w, Calls Tryz.prog 53 #[.int .i64 (a)] w (NumR w (a))))
    (OB : Hid (∀ w, Calls Tryz.prog 53 #[.int .i64 (b)] w (NumR w (b))))
    (OC : Hid (∀ w, Calls Tryz.prog 53 #[.int .i64 (c)] w (NumR w (c))))
    (OD : Hid (∀ w, Calls Tryz.prog 53 #[.int .i64 (d)] w (NumR w (d))))
    (ON : Hid (∀ w, Calls Tryz.prog 53 #[.int .i64 (n)] w (NumR w (n))))
    (OE : Hid (∀ w, Calls Tryz.prog 53 #[.int .i64 (8192)] w (NumR w (8192))))
    (M1 : Hid (∀ w (u : Value) (v : Value), NumV w (a) u → NumV w (b) v → Calls Tryz.prog 52 #[u, v] w (NumR w (a * b))))
    (M2 : Hid (∀ w (u : Value) (v : Value), NumV w (c) u → NumV w (d) v → Calls Tryz.prog 52 #[u, v] w (NumR w (c * d))))
    (MI : Hid (∀ w (u : Value), NumV w (c * d) u → Calls Tryz.prog 54 #[u] w (NumR w (-(c * d)))))
    (PL : Hid (∀ w (u : Value) (v : Value), NumV w (a * b) u → NumV w (-(c * d)) v → Calls Tryz.prog 51 #[u, v] w (NumX w (a * b + -(c * d)))))
    (M3 : Hid (∀ w (u : Value) (v : Value), NumV w (a * b + -(c * d)) u → NumV w (8192) v → Calls Tryz.prog 52 #[u, v] w (NumR w ((a * b + -(c * d)) * 8192))))
    (DW : Hid (∀ w (u : Value) (v : Value), NumV w ((a * b + -(c * d)) * 8192) u → NumV w (n) v → Calls Tryz.prog 56 #[u, v] w (NumR w (q))))
    (IS : Hid (∀ w (u : Value), NumV w q u → Calls Tryz.prog 55 #[u] w fun e w' => e = .returned (.tuple #[.int .i64 q, .bool true]) ∧ Below w.heap.size w w')) :
    Calls Tryz.prog 26 #[.int .i64 a, .int .i64 b, .int .i64 c, .int .i64 d, .int .i64 n] w fun e w' => e = .returned (.tuple #[.int .i64 q, .bool r]) ∧ Below w.heap.size w w' := by
  go_enter Tryz.func26, Tryz.ntmps26
  go_wp2_with ((first | (go_at_call 53; ((with_reducible refine (OA.out _).mono ?_); rintro e w' ⟨VA, rfl, hv, hb⟩); have HVA := hidden hv; clear hv; have nm0 := trivial) | (go_at_call 53; ((with_reducible refine (OB.out _).mono ?_); rintro e w' ⟨VB, rfl, hv, hb⟩); have HVB := hidden hv; clear hv; have nm1 := trivial) | (go_at_call 53; ((with_reducible refine (OC.out _).mono ?_); rintro e w' ⟨VC, rfl, hv, hb⟩); have HVC := hidden hv; clear hv; have nm2 := trivial) | (go_at_call 53; ((with_reducible refine (OD.out _).mono ?_); rintro e w' ⟨VD, rfl, hv, hb⟩); have HVD := hidden hv; clear hv; have nm3 := trivial) | (go_at_call 52; ((with_reducible refine (M1.out _ _ _ (HVA.out.below ?b1) (HVB.out.below ?b2)).mono ?_); (case b1 => (repeat (first | (with_reducible exact Below.refl _ _) | (with_reducible refine Below.setCell ?_ (by (first | (simp; done) | (simp; omega) | omega)) _) | (with_reducible refine bl_alloc ?_ _) | (with_reducible refine bl_drewN ?_) | (with_reducible refine bl_drew ?_) | (with_reducible refine bl_step (by assumption) ?_))); done); (case b2 => (repeat (first | (with_reducible exact Below.refl _ _) | (with_reducible refine Below.setCell ?_ (by (first | (simp; done) | (simp; omega) | omega)) _) | (with_reducible refine bl_alloc ?_ _) | (with_reducible refine bl_drewN ?_) | (with_reducible refine bl_drew ?_) | (with_reducible refine bl_step (by assumption) ?_))); done); rintro e w' ⟨VAB, rfl, hv, hb⟩); have HVAB := hidden hv; clear hv; have nm4 := trivial) | (go_at_call 52; ((with_reducible refine (M2.out _ _ _ (HVC.out.below ?b1) (HVD.out.below ?b2)).mono ?_); (case b1 => (repeat (first | (with_reducible exact Below.refl _ _) | (with_reducible refine Below.setCell ?_ (by (first | (simp; done) | (simp; omega) | omega)) _) | (with_reducible refine bl_alloc ?_ _) | (with_reducible refine bl_drewN ?_) | (with_reducible refine bl_drew ?_) | (with_reducible refine bl_step (by assumption) ?_))); done); (case b2 => (repeat (first | (with_reducible exact Below.refl _ _) | (with_reducible refine Below.setCell ?_ (by (first | (simp; done) | (simp; omega) | omega)) _) | (with_reducible refine bl_alloc ?_ _) | (with_reducible refine bl_drewN ?_) | (with_reducible refine bl_drew ?_) | (with_reducible refine bl_step (by assumption) ?_))); done); rintro e w' ⟨VCD, rfl, hv, hb⟩); have HVCD := hidden hv; clear hv; have nm5 := trivial) | (go_at_call 54; ((with_reducible refine (MI.out _ _ (HVCD.out.below ?b1)).mono ?_); (case b1 => (repeat (first | (with_reducible exact Below.refl _ _) | (with_reducible refine Below.setCell ?_ (by (first | (simp; done) | (simp; omega) | omega)) _) | (with_reducible refine bl_alloc ?_ _) | (with_reducible refine bl_drewN ?_) | (with_reducible refine bl_drew ?_) | (with_reducible refine bl_step (by assumption) ?_))); done); rintro e w' ⟨VM, rfl, hv, hb⟩); have HVM := hidden hv; clear hv; have nm6 := trivial) | (go_at_call 51; ((with_reducible refine (PL.out _ _ _ (HVAB.out.below ?b1) (HVM.out.below ?b2)).mono ?_); (case b1 => (repeat (first | (with_reducible exact Below.refl _ _) | (with_reducible refine Below.setCell ?_ (by (first | (simp; done) | (simp; omega) | omega)) _) | (with_reducible refine bl_alloc ?_ _) | (with_reducible refine bl_drewN ?_) | (with_reducible refine bl_drew ?_) | (with_reducible refine bl_step (by assumption) ?_))); done); (case b2 => (repeat (first | (with_reducible exact Below.refl _ _) | (with_reducible refine Below.setCell ?_ (by (first | (simp; done) | (simp; omega) | omega)) _) | (with_reducible refine bl_alloc ?_ _) | (with_reducible refine bl_drewN ?_) | (with_reducible refine bl_drew ?_) | (with_reducible refine bl_step (by assumption) ?_))); done); rintro e w' ⟨PA, Pn, Pc, Pb, rfl, hv, hb⟩); have HP := hidden hv; clear hv; have nm7 := trivial)); (try replace hb := below_undrew hb); (try replace hb := below_undrewN hb); obtain ⟨hcell, hfroz⟩ := bcell hb; have hz := hb.size; (try simp at hz); (try (have z6 := Nat.lt_of_lt_of_le z7 hz)); (try (have z7 := Nat.lt_of_lt_of_le z8 hz)); (try (have z8 := Nat.lt_of_lt_of_le z9 hz)); (try (have z9 := Nat.lt_of_lt_of_le (Nat.lt_succ_self _) hz)); (try (have z0 : w.heap.size < w'.heap.size := by omega)); (try (have z1 : w.heap.size + 1 < w'.heap.size := by omega)); (try (have z2 : w.heap.size + 1 + 1 < w'.heap.size := by omega)); (try (have z3 : w.heap.size + 1 + 1 + 1 < w'.heap.size := by omega)); (try (have y1 : w1.heap.size < w'.heap.size := by omega)); (try (have y2 : w2.heap.size < w'.heap.size := by omega)); (try (have y3 : w3.heap.size < w'.heap.size := by omega)); (try (have y4 : w4.heap.size < w'.heap.size := by omega)); (try (have y5 : w5.heap.size < w'.heap.size := by omega)); (try (have y6 : w6.heap.size < w'.heap.size := by omega)); (first | (clear nm0; obtain ⟨w1, rfl⟩ : ∃ v, v = w' := ⟨_, rfl⟩) | (clear nm1; obtain ⟨w2, rfl⟩ : ∃ v, v = w' := ⟨_, rfl⟩) | (clear nm2; obtain ⟨w4, rfl⟩ : ∃ v, v = w' := ⟨_, rfl⟩) | (clear nm3; obtain ⟨w5, rfl⟩ : ∃ v, v = w' := ⟨_, rfl⟩) | (clear nm4; obtain ⟨w3, rfl⟩ : ∃ v, v = w' := ⟨_, rfl⟩) | (clear nm5; obtain ⟨w6, rfl⟩ : ∃ v, v = w' := ⟨_, rfl⟩) | (clear nm6; obtain ⟨w7, rfl⟩ : ∃ v, v = w' := ⟨_, rfl⟩) | (clear nm7; obtain ⟨w8, rfl⟩ : ∃ v, v = w' := ⟨_, rfl⟩)))
  refine name_code ?_
  intro w' hb
  have HP2 := hidden (HP.out.below (bl_step hb (by (repeat (first | (with_reducible exact Below.refl _ _) | (with_reducible refine Below.setCell ?_ (by (first | (simp; done) | (simp; omega) | omega)) _) | (with_reducible refine bl_alloc ?_ _) | (with_reducible refine bl_drewN ?_) | (with_reducible refine bl_drew ?_) | (with_reducible refine bl_step (by assumption) ?_))))))
  have hw9 : Below w.heap.size w w' := bl_step hb (by (repeat (first | (with_reducible exact Below.refl _ _) | (with_reducible refine Below.setCell ?_ (by (first | (simp; done) | (simp; omega) | omega)) _) | (with_reducible refine bl_alloc ?_ _) | (with_reducible refine bl_drewN ?_) | (with_reducible refine bl_drew ?_) | (with_reducible refine bl_step (by assumption) ?_))))
  (try replace hb := below_undrew hb); (try replace hb := below_undrewN hb); obtain ⟨hcell, hfroz⟩ := bcell hb; have hz := hb.size; (try simp at hz); (try (have z6 := Nat.lt_of_lt_of_le z7 hz)); (try (have z7 := Nat.lt_of_lt_of_le z8 hz)); (try (have z8 := Nat.lt_of_lt_of_le z9 hz)); (try (have z9 := Nat.lt_of_lt_of_le (Nat.lt_succ_self _) hz)); (try (have z0 : w.heap.size < w'.heap.size := by omega)); (try (have z1 : w.heap.size + 1 < w'.heap.size := by omega)); (try (have z2 : w.heap.size + 1 + 1 < w'.heap.size := by omega)); (try (have z3 : w.heap.size + 1 + 1 + 1 < w'.heap.size := by omega)); (try (have y1 : w1.heap.size < w'.heap.size := by omega)); (try (have y2 : w2.heap.size < w'.heap.size := by omega)); (try (have y3 : w3.heap.size < w'.heap.size := by omega)); (try (have y4 : w4.heap.size < w'.heap.size := by omega)); (try (have y5 : w5.heap.size < w'.heap.size := by omega)); (try (have y6 : w6.heap.size < w'.heap.size := by omega))
  have a0 : w'.cell? ⟨w8.heap.size, 0, none⟩ = some (.slice PA Pn Pc) := by simp [go_sem, *]
  have a1 : w'.cell? ⟨w8.heap.size, 1, none⟩ = some (.bool Pb) := by simp [go_sem, *]
  clear hcell hfroz hz HP HVA HVB HVC HVD HVAB HVCD HVM hb
  obtain ⟨W1, rfl⟩ : ∃ v, v = w' := ⟨_, rfl⟩
  refine wp_region_inv (fun a0 LL aa vv => ∃ (l0 l1 l2 l3 l4 l5 l6 l7 l8 l9 l10 l11 : Bool) (uu : World) (v1 v2 v4 v5 : Value), LL = #[l0, l1, l2, l3, l4, l5, l6, l7, l8, l9, l10, l11] ∧ aa = { a0 with tmps := ((((a0.tmps.toList.set 27 (cond l7 (.tuple #[.int .i64 q, .bool true]) (undef))).set 13 (cond l10 (.int .i64 q) (undef))).set 14 (cond l11 (.bool true) (undef))).take 28 ++ ([cond l0 (.agg #[.slice PA Pn Pc, .bool Pb]) (undef), cond l1 (v1) (undef), cond l2 (v2) (undef), cond l3 (.int .i64 n) (undef), cond l4 (v4) (undef), cond l5 (v5) (undef), cond l6 (.tuple #[.int .i64 q, .bool true]) (undef), cond l8 (.int .i64 q) (undef), cond l9 (.bool true) (undef)] ++ a0.tmps.toList.drop 37)).toArray } ∧ Below W1.heap.size W1 uu ∧ (l1 = true → NumV uu 8192 v1) ∧ (l2 = true → NumV uu ((a * b + -(c * d)) * 8192) v2) ∧ (l4 = true → NumV uu n v4) ∧ (l5 = true → NumV uu q v5) ∧ vv = uu) (by kernel_rfl) (by kernel_rfl) ?h0 ?hsize ?hdone ?hstep
  case h0 =>
    refine ⟨false, false, false, false, false, false, false, false, false, false, false, false, _, undef, undef, undef, undef, rfl, ?_, by (repeat (first | exact Below.refl _ _ | refine bl_drewN ?_ | refine bl_drew ?_ | refine bl_alloc ?_ _ | refine Below.setCell ?_ (by (first | (simp; done) | (simp; omega) | omega)) _ | refine bl_step (by assumption) ?_)), (fun h => by cases h), (fun h => by cases h), (fun h => by cases h), (fun h => by cases h), rfl⟩
    kernel_rfl
  case hsize =>
    intro LL aa vv h
    obtain ⟨l0, h⟩ := h
    obtain ⟨l1, h⟩ := h
    obtain ⟨l2, h⟩ := h
    obtain ⟨l3, h⟩ := h
    obtain ⟨l4, h⟩ := h
    obtain ⟨l5, h⟩ := h
    obtain ⟨l6, h⟩ := h
    obtain ⟨l7, h⟩ := h
    obtain ⟨l8, h⟩ := h
    obtain ⟨l9, h⟩ := h
    obtain ⟨l10, h⟩ := h
    obtain ⟨l11, h⟩ := h
    obtain ⟨uu, h⟩ := h
    obtain ⟨v1, h⟩ := h
    obtain ⟨v2, h⟩ := h
    obtain ⟨v4, h⟩ := h
    obtain ⟨v5, h⟩ := h
    obtain ⟨hL, _⟩ := h
    rw [hL]
    rfl
  case hstep =>
    intro LL aa vv h
    obtain ⟨l0, h⟩ := h
    obtain ⟨l1, h⟩ := h
    obtain ⟨l2, h⟩ := h
    obtain ⟨l3, h⟩ := h
    obtain ⟨l4, h⟩ := h
    obtain ⟨l5, h⟩ := h
    obtain ⟨l6, h⟩ := h
    obtain ⟨l7, h⟩ := h
    obtain ⟨l8, h⟩ := h
    obtain ⟨l9, h⟩ := h
    obtain ⟨l10, h⟩ := h
    obtain ⟨l11, h⟩ := h
    obtain ⟨uu, h⟩ := h
    obtain ⟨v1, h⟩ := h
    obtain ⟨v2, h⟩ := h
    obtain ⟨v4, h⟩ := h
    obtain ⟨v5, h⟩ := h
    obtain ⟨hL, h⟩ := h
    obtain ⟨ha, h⟩ := h
    obtain ⟨hu, h⟩ := h
    obtain ⟨hx1, h⟩ := h
    obtain ⟨hx2, h⟩ := h
    obtain ⟨hx4, h⟩ := h
    obtain ⟨hx5, hv⟩ := h
    simp only [List.take_succ_cons, List.take_zero, List.cons_append, List.nil_append, List.drop_succ_cons, List.drop_zero, List.set_cons_zero, List.set_cons_succ] at ha
    subst hL
    subst ha
    refine ⟨?s0, ?s1, ?s2, ?s3, ?s4, ?s5, ?s6, ?s7, ?s8, ?s9, ?s10, ?s11, trivial⟩
    case s0 =>
      intro ff gg KK hK
      have f0 : l0 = false := ff
      subst hv
      clear ff gg
      subst f0
      simp only [cond_false]
      have j0 := cell_later hu a0
      have j1 := cell_later hu a1
      go_simp
      exact hK _ _ ⟨true, l1, l2, l3, l4, l5, l6, l7, l8, l9, l10, l11, _, v1, v2, v4, v5, rfl, (by kernel_rfl), hu, hx1, hx2, hx4, hx5, rfl⟩
    case s1 =>
      intro ff gg KK hK
      have f0 : l1 = false := ff
      subst hv
      clear ff gg
      subst f0
      simp only [cond_false]
      go_simp
      go_at_call 53
      with_reducible refine (OE.out _).mono ?_
      rintro e w' ⟨vn, rfl, hv, hb⟩
      exact hK _ _ ⟨l0, true, l2, l3, l4, l5, l6, l7, l8, l9, l10, l11, _, vn, v2, v4, v5, rfl, (by kernel_rfl), bl_step hb hu, (fun _ => hv), (fun t => (hx2 t).below hb), (fun t => (hx4 t).below hb), (fun t => (hx5 t).below hb), rfl⟩
    case s2 =>
      intro ff gg KK hK
      have f0 : l2 = false := ff
      subst hv
      have t0 : l0 = true := gg ⟨0, .data⟩ (by simp) (by rfl)
      have t1 : l1 = true := gg ⟨1, .data⟩ (by simp) (by rfl)
      clear ff gg
      subst t0 t1
      subst f0
      simp only [cond_true, cond_false]
      go_simp
      go_at_call 52
      with_reducible refine (M3.out _ _ _ (HP2.out.below hu) (hx1 rfl)).mono ?_
      rintro e w' ⟨vn, rfl, hv, hb⟩
      exact hK _ _ ⟨true, true, true, l3, l4, l5, l6, l7, l8, l9, l10, l11, _, v1, vn, v4, v5, rfl, (by kernel_rfl), bl_step hb hu, (fun t => (hx1 t).below hb), (fun _ => hv), (fun t => (hx4 t).below hb), (fun t => (hx5 t).below hb), rfl⟩
    case s3 =>
      intro ff gg KK hK
      have f0 : l3 = false := ff
      subst hv
      clear ff gg
      subst f0
      simp only [cond_false]
      go_simp
      exact hK _ _ ⟨l0, l1, l2, true, l4, l5, l6, l7, l8, l9, l10, l11, _, v1, v2, v4, v5, rfl, (by kernel_rfl), hu, hx1, hx2, hx4, hx5, rfl⟩
    case s4 =>
      intro ff gg KK hK
      have f0 : l4 = false := ff
      subst hv
      have t3 : l3 = true := gg ⟨3, .data⟩ (by simp) (by rfl)
      have t2 : l2 = true := gg ⟨2, .chain⟩ (by simp) (by rfl)
      clear ff gg
      subst t3 t2
      subst f0
      simp only [cond_true, cond_false]
      go_simp
      go_at_call 53
      with_reducible refine (ON.out _).mono ?_
      rintro e w' ⟨vn, rfl, hv, hb⟩
      exact hK _ _ ⟨l0, l1, true, true, true, l5, l6, l7, l8, l9, l10, l11, _, v1, v2, vn, v5, rfl, (by kernel_rfl), bl_step hb hu, (fun t => (hx1 t).below hb), (fun t => (hx2 t).below hb), (fun _ => hv), (fun t => (hx5 t).below hb), rfl⟩
    case s5 =>
      intro ff gg KK hK
      have f0 : l5 = false := ff
      subst hv
      have t2 : l2 = true := gg ⟨2, .data⟩ (by simp) (by rfl)
      have t4 : l4 = true := gg ⟨4, .data⟩ (by simp) (by rfl)
      clear ff gg
      subst t2 t4
      subst f0
      simp only [cond_true, cond_false]
      go_simp
      go_at_call 56
      with_reducible refine (DW.out _ _ _ (hx2 rfl) (hx4 rfl)).mono ?_
      rintro e w' ⟨vn, rfl, hv, hb⟩
      exact hK _ _ ⟨l0, l1, true, l3, true, true, l6, l7, l8, l9, l10, l11, _, v1, v2, v4, vn, rfl, (by kernel_rfl), bl_step hb hu, (fun t => (hx1 t).below hb), (fun t => (hx2 t).below hb), (fun t => (hx4 t).below hb), (fun _ => hv), rfl⟩
    case s6 =>
      intro ff gg KK hK
      have f0 : l6 = false := ff
      subst hv
      have t5 : l5 = true := gg ⟨5, .data⟩ (by simp) (by rfl)
      clear ff gg
      subst t5
      subst f0
      simp only [cond_true, cond_false]
      go_simp
      go_at_call 55
      with_reducible refine (IS.out _ _ (hx5 rfl)).mono ?_
      rintro e w' ⟨rfl, hb⟩
      exact hK _ _ ⟨l0, l1, l2, l3, l4, true, true, l7, l8, l9, l10, l11, _, v1, v2, v4, v5, rfl, (by kernel_rfl), bl_step hb hu, (fun t => (hx1 t).below hb), (fun t => (hx2 t).below hb), (fun t => (hx4 t).below hb), (fun t => (hx5 t).below hb), rfl⟩
    case s7 =>
      intro ff gg KK hK
      have f0 : l7 = false := ff
      subst hv
      have t6 : l6 = true := gg ⟨6, .data⟩ (by simp) (by rfl)
      clear ff gg
      subst t6
      subst f0
      simp only [cond_true, cond_false]
      go_simp
      exact hK _ _ ⟨l0, l1, l2, l3, l4, l5, true, true, l8, l9, l10, l11, _, v1, v2, v4, v5, rfl, (by kernel_rfl), hu, hx1, hx2, hx4, hx5, rfl⟩
    case s8 =>
      intro ff gg KK hK
      have f0 : l8 = false := ff
      subst hv
      have t7 : l7 = true := gg ⟨7, .data⟩ (by simp) (by rfl)
      clear ff gg
      subst t7
      subst f0
      simp only [cond_true, cond_false]
      go_simp
      exact hK _ _ ⟨l0, l1, l2, l3, l4, l5, l6, true, true, l9, l10, l11, _, v1, v2, v4, v5, rfl, (by kernel_rfl), hu, hx1, hx2, hx4, hx5, rfl⟩
    case s9 =>
      intro ff gg KK hK
      have f0 : l9 = false := ff
      subst hv
      have t7 : l7 = true := gg ⟨7, .data⟩ (by simp) (by rfl)
      clear ff gg
      subst t7
      subst f0
      simp only [cond_true, cond_false]
      go_simp
      exact hK _ _ ⟨l0, l1, l2, l3, l4, l5, l6, true, l8, true, l10, l11, _, v1, v2, v4, v5, rfl, (by kernel_rfl), hu, hx1, hx2, hx4, hx5, rfl⟩
    case s10 =>
      intro ff gg KK hK
      have f0 : l10 = false := ff
      subst hv
      have t8 : l8 = true := gg ⟨8, .data⟩ (by simp) (by rfl)
      clear ff gg
      subst t8
      subst f0
      simp only [cond_true, cond_false]
      go_simp
      exact hK _ _ ⟨l0, l1, l2, l3, l4, l5, l6, l7, true, l9, true, l11, _, v1, v2, v4, v5, rfl, (by kernel_rfl), hu, hx1, hx2, hx4, hx5, rfl⟩
    case s11 =>
      intro ff gg KK hK
      have f0 : l11 = false := ff
      subst hv
      have t9 : l9 = true := gg ⟨9, .data⟩ (by simp) (by rfl)
      clear ff gg
      subst t9
      subst f0
      simp only [cond_true, cond_false]
      go_simp
      exact hK _ _ ⟨l0, l1, l2, l3, l4, l5, l6, l7, l8, true, l10, true, _, v1, v2, v4, v5, rfl, (by kernel_rfl), hu, hx1, hx2, hx4, hx5, rfl⟩
  case hdone =>
    intro LL aa vv h hd
    obtain ⟨l0, h⟩ := h
    obtain ⟨l1, h⟩ := h
    obtain ⟨l2, h⟩ := h
    obtain ⟨l3, h⟩ := h
    obtain ⟨l4, h⟩ := h
    obtain ⟨l5, h⟩ := h
    obtain ⟨l6, h⟩ := h
    obtain ⟨l7, h⟩ := h
    obtain ⟨l8, h⟩ := h
    obtain ⟨l9, h⟩ := h
    obtain ⟨l10, h⟩ := h
    obtain ⟨l11, h⟩ := h
    obtain ⟨uu, h⟩ := h
    obtain ⟨v1, h⟩ := h
    obtain ⟨v2, h⟩ := h
    obtain ⟨v4, h⟩ := h
    obtain ⟨v5, h⟩ := h
    obtain ⟨hL, h⟩ := h
    obtain ⟨ha, h⟩ := h
    obtain ⟨hu, h⟩ := h
    obtain ⟨hx1, h⟩ := h
    obtain ⟨hx2, h⟩ := h
    obtain ⟨hx4, h⟩ := h
    obtain ⟨hx5, hv⟩ := h
    rw [hL] at hd
    have t0 : l0 = true := hd 0 (by decide)
    have t1 : l1 = true := hd 1 (by decide)
    have t2 : l2 = true := hd 2 (by decide)
    have t3 : l3 = true := hd 3 (by decide)
    have t4 : l4 = true := hd 4 (by decide)
    have t5 : l5 = true := hd 5 (by decide)
    have t6 : l6 = true := hd 6 (by decide)
    have t7 : l7 = true := hd 7 (by decide)
    have t8 : l8 = true := hd 8 (by decide)
    have t9 : l9 = true := hd 9 (by decide)
    have t10 : l10 = true := hd 10 (by decide)
    have t11 : l11 = true := hd 11 (by decide)
    clear hd hL
    subst t0 t1 t2 t3 t4 t5 t6 t7 t8 t9 t10 t11
    simp only [cond_true, List.take_succ_cons, List.take_zero, List.cons_append, List.nil_append, List.drop_succ_cons, List.drop_zero, List.set_cons_zero, List.set_cons_succ] at ha
    subst ha
    subst hv
    replace hx1 := hx1 rfl
    replace hx2 := hx2 rfl
    replace hx4 := hx4 rfl
    replace hx5 := hx5 rfl
    clear hx1 hx2 hx4 hx5
    have hw10 : Below w.heap.size w vv := bl_step hu hw9
    by_cases g1 : -2000000 ≤ q
    · by_cases g2 : q ≤ 2000000
      · obtain rfl : r = true := by rw [← hr.out]; simp; omega
        go_wp2
        go_ret2
        exact ⟨rfl, by (repeat (first | (with_reducible exact Below.refl _ _) | (with_reducible refine Below.setCell ?_ (by (first | (simp; done) | (simp; omega) | omega)) _) | (with_reducible refine bl_alloc ?_ _) | (with_reducible refine bl_drewN ?_) | (with_reducible refine bl_drew ?_) | (with_reducible refine bl_step (by assumption) ?_)))⟩
      · obtain rfl : r = false := by rw [← hr.out]; simp; omega
        go_wp2
        go_ret2
        exact ⟨rfl, by (repeat (first | (with_reducible exact Below.refl _ _) | (with_reducible refine Below.setCell ?_ (by (first | (simp; done) | (simp; omega) | omega)) _) | (with_reducible refine bl_alloc ?_ _) | (with_reducible refine bl_drewN ?_) | (with_reducible refine bl_drew ?_) | (with_reducible refine bl_step (by assumption) ?_)))⟩
    · obtain rfl : r = false := by rw [← hr.out]; simp; omega
      go_wp2
      go_ret2
      exact ⟨rfl, by (repeat (first | (with_reducible exact Below.refl _ _) | (with_reducible refine Below.setCell ?_ (by (first | (simp; done) | (simp; omega) | omega)) _) | (with_reducible refine bl_alloc ?_ _) | (with_reducible refine bl_drewN ?_) | (with_reducible refine bl_drew ?_) | (with_reducible refine bl_step (by assumption) ?_)))⟩

theorem abs_mul2 {a b M N : Int} (h0 : -M ≤ a) (h1 : a ≤ M) (h2 : -N ≤ b) (h3 : b ≤ N) : -(M * N) ≤ a * b ∧ a * b ≤ M * N := by
  have e := Int.natAbs_mul a b
  have h : a.natAbs * b.natAbs ≤ M.natAbs * N.natAbs := Nat.mul_le_mul (by omega) (by omega)
  rw [← e, ← Int.natAbs_mul] at h
  have p : 0 ≤ M * N := Int.mul_nonneg (by omega) (by omega)
  omega
theorem solved_any (a b c d n q : Int) (w : World) (a0 : -137438953472 ≤ a) (a1 : a ≤ 137438953472) (b0 : -2147483648 ≤ b) (b1 : b ≤ 2147483648) (c0 : -137438953472 ≤ c) (c1 : c ≤ 137438953472) (d0 : -2147483648 ≤ d) (d1 : d ≤ 2147483648) (n0 : 0 < n) (n1 : n ≤ 9223372036854775807)
    (hq : (a * b + -(c * d)) * 8192 / n = q) (q0 : -9223372036854775808 ≤ q) (q1 : q ≤ 9223372036854775807) :
    Calls Tryz.prog 26 #[.int .i64 a, .int .i64 b, .int .i64 c, .int .i64 d, .int .i64 n] w fun e w' => e = .returned (.tuple #[.int .i64 q, .bool (decide (-2000000 ≤ q) && decide (q ≤ 2000000))]) ∧ Below w.heap.size w w' := by
  have m1 := abs_mul2 a0 a1 b0 b1
  have m2 := abs_mul2 c0 c1 d0 d1
  refine solved_walk a b c d n q _ w (hidden rfl) (hidden fun w => ofint_v a w (by omega) (by omega)) (hidden fun w => ofint_v b w (by omega) (by omega)) (hidden fun w => ofint_v c w (by omega) (by omega)) (hidden fun w => ofint_v d w (by omega) (by omega)) (hidden fun w => ofint_v n w (by omega) (by omega)) (hidden fun w => ofint_v 8192 w (by omega) (by omega))
    (hidden fun w u v g h => mul_v u v a b w g h (pw30_of (by omega) (by omega)).2 (pw30_of (by omega) (by omega)).2) (hidden fun w u v g h => mul_v u v c d w g h (pw30_of (by omega) (by omega)).2 (pw30_of (by omega) (by omega)).2) (hidden fun w u g => minus_v2 u (c * d) w g)
    (hidden fun w u v g h => (plus_v2 u v _ _ w g h (pw30_of (by omega) (by omega)).2 (pw30_of (by omega) (by omega)).2).mono fun _ _ => numX_of)
    (hidden fun w u v g h => mul_v u v _ _ w g h (pw30_of (by omega) (by omega)).2 (pw30_of (by omega) (by omega)).2)
    (hidden fun w u v g h => by have k := down_v u v _ n w g h n0 (pw30_of (by omega) (by omega)).1 (pw30_of (by omega) (by omega)).2; rw [hq] at k; exact k) (hidden fun w u g => isint_v u q w g q0 q1)

end Go.Proofs.YtjceofmhodcefaaGreat
