/- OfInt of the reference of layer 2. -/
import Derived.Test.YtoagcbamlnhkhaaNb
import Derived.OwnWalk
namespace Go.Proofs.Ytoagcbamlnhkhaa
open Go.RowKit

/-- a number: its digits and its sign -/
def NumRes (w : World) (z : Int) (e : Ending) (w' : World) : Prop := ∃ A n c b, e = .returned (.agg #[.slice A n c, .bool b]) ∧ Dig w' A n c z.natAbs ∧ b = decide (z < 0) ∧ Fr w.heap.size A ∧ Below w.heap.size w w'
theorem tdiv_digit (m : Int) (N k : Nat) (h : m.natAbs = N / pw k) : (m.tmod 268435456).natAbs = (dg N k).natAbs ∧ (m.tdiv 268435456).natAbs = N / pw (k + 1) := by
  have e : N / pw (k + 1) = N / pw k / 268435456 := by rw [pw_succ, Nat.div_div_eq_div_mul]
  rw [e, ← h, Int.natAbs_tdiv, Int.natAbs_tmod]
  unfold dg
  rw [← h]
  exact ⟨by simp; omega, rfl⟩
theorem tdiv_sign (m : Int) : (0 ≤ m → 0 ≤ m.tdiv 268435456 ∧ m.tdiv 268435456 ≤ m ∧ 0 ≤ m.tmod 268435456) ∧ (m ≤ 0 → m ≤ m.tdiv 268435456 ∧ m.tdiv 268435456 ≤ 0 ∧ m.tmod 268435456 ≤ 0) := by
  constructor
  · intro h
    rw [Int.tdiv_eq_ediv_of_nonneg h, Int.tmod_eq_emod_of_nonneg h]
    omega
  · intro h
    have e : m = -(-m) := by omega
    rw [e, Int.neg_tdiv, Int.neg_tmod, Int.tdiv_eq_ediv_of_nonneg (by omega), Int.tmod_eq_emod_of_nonneg (by omega)]
    omega
theorem grown_keep {W w1 : World} {row : Option Nat} (hg : W.grownBy w1 row) {b : Nat} (hb : b < W.heap.size) (hn : some b ≠ row) :
    (∀ o, w1.cell? ⟨b, o, none⟩ = W.cell? ⟨b, o, none⟩) ∧ (∀ o, w1.frozen? ⟨b, o, none⟩ = W.frozen? ⟨b, o, none⟩) := by
  have h := hg.block b hb hn
  exact ⟨fun o => World.cell?_of_block (a := ⟨b, o, none⟩) h, fun o => by simp [World.frozen?, h]⟩
theorem own_form {w : World} {base n : Nat} {e : TypeId} {v : Value} {xs : List Value} (h : w.ownsRow base e 1 v n xs) : ∃ A c, v = .slice A n c := by
  rcases h.2 with ⟨rfl, rfl⟩ | ⟨g, cap, cur, rfl, _⟩
  · exact ⟨none, 0, rfl⟩
  · exact ⟨_, _, rfl⟩
/-- the two blocks that hold numbers, while the first one is filled -/
def OI (w wr : World) (A : Option Addr) (c k N : Nat) (b : Bool) : Prop :=
  wr.cell? ⟨w.heap.size + 1, 0, none⟩ = some (.slice A k c) ∧ wr.cell? ⟨w.heap.size + 1, 1, none⟩ = some (.bool b) ∧ (∀ o, wr.frozen? ⟨w.heap.size + 1, o, none⟩ = false) ∧
  wr.cell? ⟨w.heap.size, 0, none⟩ = some (.slice none 0 0) ∧ wr.cell? ⟨w.heap.size, 1, none⟩ = some (.bool false) ∧ (∀ o, wr.frozen? ⟨w.heap.size, o, none⟩ = false) ∧
  wr.ownsRow (w.heap.size + 2) 3 1 (.slice A k c) k (dgs k N) ∧ Below w.heap.size w wr ∧ w.heap.size + 2 ≤ wr.heap.size
theorem oi_app {w wr w1 : World} {A : Option Addr} {c k N : Nat} {b : Bool} {v' : Value} {u : Int} {o : Obj} (h : OI w wr A c k N b)
    (hown' : w1.ownsRow (w.heap.size + 2) 3 1 v' (k + 1) (dgs k N ++ [.int .i64 u])) (hg : (wr.alloc o).grownBy w1 (Value.slice A k c).ownBlock) (hu : u = dg N k) :
    ∃ A' c', v' = .slice A' (k + 1) c' ∧ w1.cell? ⟨w.heap.size + 1, 0, none⟩ = some (.slice A k c) ∧ (∀ o, w1.frozen? ⟨w.heap.size + 1, o, none⟩ = false) ∧ OI w (w1.setCell ⟨w.heap.size + 1, 0, none⟩ (.slice A' (k + 1) c')) A' c' (k + 1) N b := by
  obtain ⟨h0, h1, h2, h3, h4, h5, h6, h7, h8⟩ := h
  have s : (wr.alloc o).heap.size = wr.heap.size + 1 := by simp
  have n1 : some (w.heap.size + 1) ≠ (Value.slice A k c).ownBlock := fun e => by have := (h6.lt _ e.symm).1; omega
  have n0 : some w.heap.size ≠ (Value.slice A k c).ownBlock := fun e => by have := (h6.lt _ e.symm).1; omega
  have K1 := grown_keep hg (b := w.heap.size + 1) (by omega) n1
  have K0 := grown_keep hg (b := w.heap.size) (by omega) n0
  have z1 : w.heap.size + 1 < wr.heap.size := by omega
  have z0 : w.heap.size < wr.heap.size := by omega
  obtain ⟨A', c', rfl⟩ := own_form hown'
  have g0 := (K1.1 0).trans ((World.cell?_alloc_lt wr o ⟨w.heap.size + 1, 0, none⟩ z1).trans h0)
  have g1 := (K1.1 1).trans ((World.cell?_alloc_lt wr o ⟨w.heap.size + 1, 1, none⟩ z1).trans h1)
  have g3 := (K0.1 0).trans ((World.cell?_alloc_lt wr o ⟨w.heap.size, 0, none⟩ z0).trans h3)
  have g4 := (K0.1 1).trans ((World.cell?_alloc_lt wr o ⟨w.heap.size, 1, none⟩ z0).trans h4)
  have g2 : ∀ o, w1.frozen? ⟨w.heap.size + 1, o, none⟩ = false := fun p => (K1.2 p).trans (((((Below.refl wr.heap.size wr).alloc (Nat.le_refl _) o).frozen (p := ⟨w.heap.size + 1, p, none⟩) z1)).trans (h2 p))
  have g5 : ∀ o, w1.frozen? ⟨w.heap.size, o, none⟩ = false := fun p => (K0.2 p).trans (((((Below.refl wr.heap.size wr).alloc (Nat.le_refl _) o).frozen (p := ⟨w.heap.size, p, none⟩) z0)).trans (h5 p))
  have sz := hg.size
  refine ⟨A', c', rfl, g0, g2, by simp [go_sem, g0], by simp [go_sem, g1], fun p => by simpa using g2 p, by simp [go_sem, g3], by simp [go_sem, g4], fun p => by simpa using g5 p, ?_, ?_, by simp; omega⟩
  · rw [dgs_succ, ← hu]
    exact ownsRow_setCell_below hown' (by simp) _
  · exact (Below.grown (bl_alloc h7 o) hg (bl_alloc h7 o).size (fun j hj => by have := (h6.lt j hj).1; omega)).setCell (by simp) _

set_option maxRecDepth 100000 in
set_option maxHeartbeats 4000000 in
theorem ofint02_pos (n : Int) (w : World) (hs : 0 ≤ n) (_n0 : -9223372036854775808 ≤ n) (n1 : n ≤ 9223372036854775807) :
    Calls Try.prog 52 #[.int .i64 n] w (NumRes w n) := by
  obtain ⟨i0, hi, hz0, hz1, hz2⟩ := info_parts infoInt
  have big : Hid (n.natAbs < pw 3) := by
    unfold Hid
    rw [show pw 3 = 19342813113834066795298816 by decide]
    omega
  obtain ⟨N, eN⟩ : ∃ N, n.natAbs = N := ⟨_, rfl⟩
  have hN := hidden eN
  have bd : decide (n < 0) = false := by simp; omega
  have st : n.natAbs = N / pw 0 := by rw [pw_zero, Nat.div_one]; exact eN
  rw [eN] at big
  clear eN
  have ST := hidden st
  clear st
  go_enter Try.func52, Try.ntmps52
  go_wp2
  go_loopw [0] (fun nv wr => ∃ (k : Nat) (m : Int) (A : Option Addr) (c : Nat), nv = .int .i64 m ∧ 0 ≤ m ∧ m ≤ 9223372036854775807 ∧ Hid (m.natAbs = N / pw k) ∧ Hid (k = 0 ∨ pw (k - 1) ≤ N) ∧ k ≤ 3 ∧ OI w wr A c k N false) (fun nv _ => (intOf nv).natAbs)
  case atStart =>
    exact ⟨0, n, none, 0, rfl, by omega, by omega, ST.out, .inl rfl, by omega, by simp [go_sem], by simp [go_sem], fun o => by simp [go_sem], by simp [go_sem], by simp [go_sem], fun o => by simp [go_sem], World.ownsRow_nil _ _ _ _, by (repeat (first | exact Below.refl _ _ | refine bl_drewN ?_ | refine bl_drew ?_ | refine bl_alloc ?_ _ | refine Below.setCell ?_ (by (first | (simp; done) | (simp; omega) | omega)) _ | refine bl_step (by assumption) ?_)), by simp⟩
  case round =>
    clear ST
    obtain ⟨k, m, A, c, rfl, m0, m1, hm, hn, hk, hoi⟩ := hrel
    have OIH := hidden hoi
    obtain ⟨h0, h1, h2, h3, h4, h5, h6, h7, h8⟩ := hoi
    by_cases z : m = 0
    · subst z
      have R : Hid (N < pw k) := by
        have a := hm.out
        have p := pw_pos k
        rcases Nat.lt_or_ge N (pw k) with q | q
        · exact q
        · have := Nat.div_pos q p; simp at a; omega
      clear hm big
      go_wp2
      exact bodyPost_ret (v := .agg #[.slice A k c, .bool false]) (by first | (simp only [results, Try.results52]; go_simp; done) | simp [results, Try.results52, go_sem, *]) rfl ⟨A, k, c, _, rfl, by rw [hN.out]; exact ⟨own_dig (ownsRow_setCell_below (ownsRow_setCell_below h6 (by simp) _) (by simp) _) R.out, fun h => hn.out.resolve_left (by omega)⟩, by rw [bd], (own_fresh h6).le (by omega), by (repeat (first | exact Below.refl _ _ | refine bl_drewN ?_ | refine bl_drew ?_ | refine bl_alloc ?_ _ | refine Below.setCell ?_ (by (first | (simp; done) | (simp; omega) | omega)) _ | refine bl_step (by assumption) ?_))⟩
    · have td := tdiv_digit m N k hm.out
      have ts := tdiv_sign m
      have big2 : Hid (pw k ≤ N) := by
        have a := hm.out
        rcases Nat.lt_or_ge N (pw k) with q | q
        · rw [Nat.div_eq_of_lt q] at a; omega
        · exact q
      have k2 : k ≤ 2 := by
        have := pw_lt (m := k) (n := 3) (by have := big.out; have := big2.out; omega)
        omega
      have db := dg_bd N k
      obtain ⟨t, et⟩ : ∃ t, m.tmod 268435456 = t := ⟨_, rfl⟩
      obtain ⟨q, eq⟩ : ∃ q, m.tdiv 268435456 = q := ⟨_, rfl⟩
      have qm : q.natAbs < m.natAbs := by rw [← eq, Int.natAbs_tdiv]; exact Nat.div_lt_self (by omega) (by decide)
      rw [et, eq] at td ts
      obtain ⟨a, ea⟩ : ∃ a, dg N k = a := ⟨_, rfl⟩
      rw [ea] at td db
      have ts1 := ts.1 (by omega)
      obtain ⟨ts2, ts3, ts4⟩ := ts1
      have ta : t = a := by omega
      have am : a ≤ 9223372036854775807 := by omega
      have TD := hidden td.2
      have EA := hidden ea
      have nz : (m != 0) = true := by simpa using z
      clear td ts db ea hm hn z
      subst ta
      have et2 : m % 268435456 = t := by rw [← et, Int.tmod_eq_emod_of_nonneg m0]
      have eq2 : m / 268435456 = q := by rw [← eq, Int.tdiv_eq_ediv_of_nonneg m0]
      clear et eq
      go_wp2_with (at_builtin; refine wpList_append_own _ rfl (.tmp 17) (.tmp 19) _ rfl (w.heap.size + 2) 3 i0 (.int .i64 0) 1 8 Try.underlying34 hi hz0 hz1 hz2 rfl (by decide) (.slice A k c) k (dgs k N) rfl (h6.alloc _) ⟨wr.heap.size, 0, none⟩ 1 1 [.int .i64 t] rfl rfl (one_new _ _ _) (one_cell _) (by unfold maxLen; omega) (by omega) (by simp; omega) ?_; intro v' w1 hown' hgrow _; obtain ⟨A', c', rfl, y0, y2, hoi2⟩ := oi_app OIH.out hown' hgrow EA.out.symm; replace hoi2 := hidden hoi2; clear hown' hgrow)
      go_wp2
      go_roundw
      case rel => exact ⟨k + 1, q, A', c', by first | rfl | rw [eq2], by omega, by omega, TD.out, .inr big2.out, by omega, hoi2.out⟩
      case measure => first | (simpa [intOf] using qm) | (rw [← eq2] at qm; simpa [intOf] using qm)
set_option maxRecDepth 100000 in
set_option maxHeartbeats 4000000 in
theorem ofint02_neg (n : Int) (w : World) (hs : n < 0) (n0 : -9223372036854775808 ≤ n) (_n1 : n ≤ 9223372036854775807) :
    Calls Try.prog 52 #[.int .i64 n] w (NumRes w n) := by
  obtain ⟨i0, hi, hz0, hz1, hz2⟩ := info_parts infoInt
  have big : Hid (n.natAbs < pw 3) := by
    unfold Hid
    rw [show pw 3 = 19342813113834066795298816 by decide]
    omega
  obtain ⟨N, eN⟩ : ∃ N, n.natAbs = N := ⟨_, rfl⟩
  have hN := hidden eN
  have bd : decide (n < 0) = true := by simp; omega
  have st : n.natAbs = N / pw 0 := by rw [pw_zero, Nat.div_one]; exact eN
  rw [eN] at big
  clear eN
  have ST := hidden st
  clear st
  go_enter Try.func52, Try.ntmps52
  go_wp2
  go_loopw [0] (fun nv wr => ∃ (k : Nat) (m : Int) (A : Option Addr) (c : Nat), nv = .int .i64 m ∧ -9223372036854775808 ≤ m ∧ m ≤ 0 ∧ Hid (m.natAbs = N / pw k) ∧ Hid (k = 0 ∨ pw (k - 1) ≤ N) ∧ k ≤ 3 ∧ OI w wr A c k N true) (fun nv _ => (intOf nv).natAbs)
  case atStart =>
    exact ⟨0, n, none, 0, rfl, by omega, by omega, ST.out, .inl rfl, by omega, by simp [go_sem], by simp [go_sem], fun o => by simp [go_sem], by simp [go_sem], by simp [go_sem], fun o => by simp [go_sem], World.ownsRow_nil _ _ _ _, by (repeat (first | exact Below.refl _ _ | refine bl_drewN ?_ | refine bl_drew ?_ | refine bl_alloc ?_ _ | refine Below.setCell ?_ (by (first | (simp; done) | (simp; omega) | omega)) _ | refine bl_step (by assumption) ?_)), by simp⟩
  case round =>
    clear ST
    obtain ⟨k, m, A, c, rfl, m0, m1, hm, hn, hk, hoi⟩ := hrel
    have OIH := hidden hoi
    obtain ⟨h0, h1, h2, h3, h4, h5, h6, h7, h8⟩ := hoi
    by_cases z : m = 0
    · subst z
      have R : Hid (N < pw k) := by
        have a := hm.out
        have p := pw_pos k
        rcases Nat.lt_or_ge N (pw k) with q | q
        · exact q
        · have := Nat.div_pos q p; simp at a; omega
      clear hm big
      go_wp2
      exact bodyPost_ret (v := .agg #[.slice A k c, .bool true]) (by first | (simp only [results, Try.results52]; go_simp; done) | simp [results, Try.results52, go_sem, *]) rfl ⟨A, k, c, _, rfl, by rw [hN.out]; exact ⟨own_dig (ownsRow_setCell_below (ownsRow_setCell_below h6 (by simp) _) (by simp) _) R.out, fun h => hn.out.resolve_left (by omega)⟩, by rw [bd], (own_fresh h6).le (by omega), by (repeat (first | exact Below.refl _ _ | refine bl_drewN ?_ | refine bl_drew ?_ | refine bl_alloc ?_ _ | refine Below.setCell ?_ (by (first | (simp; done) | (simp; omega) | omega)) _ | refine bl_step (by assumption) ?_))⟩
    · have td := tdiv_digit m N k hm.out
      have ts := tdiv_sign m
      have big2 : Hid (pw k ≤ N) := by
        have a := hm.out
        rcases Nat.lt_or_ge N (pw k) with q | q
        · rw [Nat.div_eq_of_lt q] at a; omega
        · exact q
      have k2 : k ≤ 2 := by
        have := pw_lt (m := k) (n := 3) (by have := big.out; have := big2.out; omega)
        omega
      have db := dg_bd N k
      obtain ⟨t, et⟩ : ∃ t, m.tmod 268435456 = t := ⟨_, rfl⟩
      obtain ⟨q, eq⟩ : ∃ q, m.tdiv 268435456 = q := ⟨_, rfl⟩
      have qm : q.natAbs < m.natAbs := by rw [← eq, Int.natAbs_tdiv]; exact Nat.div_lt_self (by omega) (by decide)
      rw [et, eq] at td ts
      obtain ⟨a, ea⟩ : ∃ a, dg N k = a := ⟨_, rfl⟩
      rw [ea] at td db
      have ts1 := ts.2 (by omega)
      obtain ⟨ts2, ts3, ts4⟩ := ts1
      have ta : -t = a := by omega
      have am : a ≤ 9223372036854775807 := by omega
      have TD := hidden td.2
      have EA := hidden ea
      have nz : (m != 0) = true := by simpa using z
      clear td ts db ea hm hn z
      have ta2 : t = -a := by omega
      have ta0 : 0 ≤ a := by omega
      subst ta2
      clear ta
      by_cases az : a = 0
      · subst az
        go_wp2_with (at_builtin; refine wpList_append_own _ rfl (.tmp 17) (.tmp 19) _ rfl (w.heap.size + 2) 3 i0 (.int .i64 0) 1 8 Try.underlying34 hi hz0 hz1 hz2 rfl (by decide) (.slice A k c) k (dgs k N) rfl (h6.alloc _) ⟨wr.heap.size, 0, none⟩ 1 1 [.int .i64 0] rfl rfl (one_new _ _ _) (one_cell _) (by unfold maxLen; omega) (by omega) (by simp; omega) ?_; intro v' w1 hown' hgrow _; obtain ⟨A', c', rfl, y0, y2, hoi2⟩ := oi_app OIH.out hown' hgrow EA.out.symm; replace hoi2 := hidden hoi2; clear hown' hgrow)
        go_wp2
        go_roundw
        case rel => exact ⟨k + 1, q, A', c', by first | rfl | rw [eq2], by omega, by omega, TD.out, .inr big2.out, by omega, hoi2.out⟩
        case measure => first | (simpa [intOf] using qm) | (rw [← eq2] at qm; simpa [intOf] using qm)
      · have an : -a < 0 := by omega
        go_wp2_with (at_builtin; refine wpList_append_own _ rfl (.tmp 17) (.tmp 19) _ rfl (w.heap.size + 2) 3 i0 (.int .i64 0) 1 8 Try.underlying34 hi hz0 hz1 hz2 rfl (by decide) (.slice A k c) k (dgs k N) rfl (h6.alloc _) ⟨wr.heap.size, 0, none⟩ 1 1 [.int .i64 a] rfl rfl (one_new _ _ _) (one_cell _) (by unfold maxLen; omega) (by omega) (by simp; omega) ?_; intro v' w1 hown' hgrow _; obtain ⟨A', c', rfl, y0, y2, hoi2⟩ := oi_app OIH.out hown' hgrow EA.out.symm; replace hoi2 := hidden hoi2; clear hown' hgrow)
        go_wp2
        go_roundw
        case rel => exact ⟨k + 1, q, A', c', by first | rfl | rw [eq2], by omega, by omega, TD.out, .inr big2.out, by omega, hoi2.out⟩
        case measure => first | (simpa [intOf] using qm) | (rw [← eq2] at qm; simpa [intOf] using qm)

end Go.Proofs.Ytoagcbamlnhkhaa
