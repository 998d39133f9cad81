/- Several small texts in one: XLtF, XLtB, XLtG. -/
import Derived.Test.YtjceofmhodcefaaGreatLs1
import Derived.Lib.QuietBelow
import Derived.BigQuiet
import Derived.Test.YtjceofmhodcefaaGreatLinA
import Derived.Test.YtjceofmhodcefaaGreatLi8
import Derived.Test.YtjceofmhodcefaaGreatLtE
import Derived.Test.YtjceofmhodcefaaGreatNy
import Derived.Test.YtjceofmhodcefaaGreatLe
namespace Go.Proofs.YtjceofmhodcefaaGreat
open Go.RowKit

/-- a list of residuals -/
def OutS (w : World) (v : Value) (m : Nat) (r : Nat → Int) : Prop := (m = 0 ∧ v = .slice none 0 0) ∨ ∃ g cap : Nat, v = .slice (some ⟨g, 0, none⟩) m cap ∧ ∀ i, i < m → w.cell? ⟨g, i, none⟩ = some (.int .i64 (r i))
theorem OutS.later {w w' : World} {v : Value} {m : Nat} {r : Nat → Int} (h : OutS w v m r) (hb : Below w.heap.size w w') : OutS w' v m r := by
  rcases h with h | ⟨g, cap, h1, h2⟩
  · exact .inl h
  · exact .inr ⟨g, cap, h1, fun i hi => cell_later hb (h2 i hi)⟩
/-- what a Least returns -/
def LstRes (w : World) (P1 P2 E : Int) (m : Nat) (r : Nat → Int) (e : Ending) (w' : World) : Prop := ∃ v, e = .returned (.tuple #[.agg #[.int .i64 P1, .int .i64 P2], v, .int .i64 E]) ∧ OutS w' v m r ∧ Below w.heap.size w w'

set_option maxRecDepth 100000 in
set_option maxHeartbeats 2000000 in
theorem equal_same (u v : Value) (m : Nat) (r : Nat → Int) (w : World) (h1 : OutS w u m r) (h2 : OutS w v m r) (m20 : m ≤ 20) :
    Calls Tryz.prog 7 #[u, v] w fun e w' => e = .returned (.bool true) ∧ Below w.heap.size w w' := by
  rcases h1 with ⟨rfl, rfl⟩ | ⟨g, cap, rfl, hg⟩
  · rcases h2 with ⟨_, rfl⟩ | ⟨g2, cap2, rfl, hg2⟩
    · go_enter Tryz.func7, Tryz.ntmps7
      go_wp2
      refine wp_loop_rounds 1 ?_
      rw [rounds_succ]
      go_wp2
      go_ret
      exact ⟨rfl, by (repeat (first | (with_reducible exact Below.refl _ _) | (with_reducible refine Below.setCell ?_ (by (first | (simp; done) | (simp; omega) | omega)) _) | (with_reducible refine bl_alloc ?_ _) | (with_reducible refine bl_drewN ?_) | (with_reducible refine bl_drew ?_) | (with_reducible refine bl_step (by assumption) ?_)))⟩
    · go_enter Tryz.func7, Tryz.ntmps7
      go_wp2
      refine wp_loop_rounds 1 ?_
      rw [rounds_succ]
      go_wp2
      go_ret
      exact ⟨rfl, by (repeat (first | (with_reducible exact Below.refl _ _) | (with_reducible refine Below.setCell ?_ (by (first | (simp; done) | (simp; omega) | omega)) _) | (with_reducible refine bl_alloc ?_ _) | (with_reducible refine bl_drewN ?_) | (with_reducible refine bl_drew ?_) | (with_reducible refine bl_step (by assumption) ?_)))⟩
  · rcases h2 with ⟨rfl, rfl⟩ | ⟨g2, cap2, rfl, hg2⟩
    · go_enter Tryz.func7, Tryz.ntmps7
      go_wp2
      refine wp_loop_rounds 1 ?_
      rw [rounds_succ]
      go_wp2
      go_ret
      exact ⟨rfl, by (repeat (first | (with_reducible exact Below.refl _ _) | (with_reducible refine Below.setCell ?_ (by (first | (simp; done) | (simp; omega) | omega)) _) | (with_reducible refine bl_alloc ?_ _) | (with_reducible refine bl_drewN ?_) | (with_reducible refine bl_drew ?_) | (with_reducible refine bl_step (by assumption) ?_)))⟩
    · have HG := hidden hg
      have HG2 := hidden hg2
      clear hg hg2
      have qn : ((m : Int) != (m : Int)) = false := by simp
      go_enter Tryz.func7, Tryz.ntmps7
      go_wp2
      go_loopw [13] (fun iv wr => ∃ k : Nat, iv = .int .i64 k ∧ k ≤ m ∧ Below w.heap.size w wr) (fun iv _ => 40 - (intOf iv).toNat)
      case atStart => exact ⟨0, rfl, Nat.zero_le _, Below.refl _ _⟩
      case round =>
        obtain ⟨k, rfl, hk, hV⟩ := hrel
        have hzV := hV.size
        by_cases hkn : k < m
        · have q1 : decide (k < m) = true := by simp; omega
          have c0 := cell_later hV (HG.out k hkn)
          have c1 := cell_later hV (HG2.out k hkn)
          have b0 : g < wr.heap.size := World.block_lt_of_cell? _ _ c0
          have b1 : g2 < wr.heap.size := World.block_lt_of_cell? _ _ c1
          go_wp2
          go_quiet (fail)
          go_wp2
          exact ⟨⟨k + 1, by go_num, by omega, by (repeat (first | exact Below.refl _ _ | refine bl_drewN ?_ | refine bl_drew ?_ | refine bl_alloc ?_ _ | refine Below.setCell ?_ (by (first | (simp; done) | (simp; omega) | omega)) _ | refine bl_step (by assumption) ?_))⟩, by simp [intOf]; omega⟩
        · have q1 : decide (k < m) = false := by simp; omega
          go_wp2
          go_ret
          exact ⟨rfl, by (repeat (first | (with_reducible exact Below.refl _ _) | (with_reducible refine Below.setCell ?_ (by (first | (simp; done) | (simp; omega) | omega)) _) | (with_reducible refine bl_alloc ?_ _) | (with_reducible refine bl_drewN ?_) | (with_reducible refine bl_drew ?_) | (with_reducible refine bl_step (by assumption) ?_)))⟩

set_option maxRecDepth 100000 in
set_option maxHeartbeats 4000000 in
theorem lfits_walk (a : Option Addr) (n c : Nat) (P1 P2 E : Int) (m : Nat) (r : Nat → Int) (w : World) (m20 : m ≤ 20)
    (AW : Hid (∀ w, Calls Tryz.prog 4 #[] w fun e w' => e = .returned (.bool true) ∧ Below w.heap.size w w'))
    (L1 : Hid (∀ w', Below w.heap.size w w' → Calls Tryz.prog 5 #[.slice a n c] w' (LstRes w' P1 P2 E m r)))
    (L2 : Hid (∀ w', Below w.heap.size w w' → Calls Tryz.prog 6 #[.slice a n c] w' (LstRes w' P1 P2 E m r))) :
    Calls Tryz.prog 3 #[.slice a n c] w fun e w' => e = .returned (.bool true) ∧ Below w.heap.size w w' := by
  by_cases hn : 20 < n
  · have qn : decide (20 < n) = true := by simp; omega
    go_enter Tryz.func3, Tryz.ntmps3
    go_wp2_with (go_at_call 4; ((with_reducible refine (AW.out _).mono ?_); rintro e w' ⟨rfl, hb⟩); (try replace hb := below_undrew hb); (try replace hb := below_undrewN hb); obtain ⟨hcell, hfroz⟩ := bcell hb; have hz := hb.size; (try simp at hz); (try (have z6 := Nat.lt_of_lt_of_le z7 hz)); (try (have z7 := Nat.lt_of_lt_of_le z8 hz)); (try (have z8 := Nat.lt_of_lt_of_le z9 hz)); (try (have z9 := Nat.lt_of_lt_of_le (Nat.lt_succ_self _) hz)); (try (have z0 : w.heap.size < w'.heap.size := by omega)); (try (have z1 : w.heap.size + 1 < w'.heap.size := by omega)); (try (have z2 : w.heap.size + 1 + 1 < w'.heap.size := by omega)); (try (have z3 : w.heap.size + 1 + 1 + 1 < w'.heap.size := by omega)); obtain ⟨w1, rfl⟩ : ∃ v, v = w' := ⟨_, rfl⟩)
    go_ret
    exact ⟨rfl, by (repeat (first | (with_reducible exact Below.refl _ _) | (with_reducible refine Below.setCell ?_ (by (first | (simp; done) | (simp; omega) | omega)) _) | (with_reducible refine bl_alloc ?_ _) | (with_reducible refine bl_drewN ?_) | (with_reducible refine bl_drew ?_) | (with_reducible refine bl_step (by assumption) ?_)))⟩
  · have qn : decide (20 < n) = false := by simp; omega
    go_enter Tryz.func3, Tryz.ntmps3
    go_wp2_with ((first | (go_at_call 4; ((with_reducible refine (AW.out _).mono ?_); rintro e w' ⟨rfl, hb⟩); have nm0 := trivial) | (go_at_call 5; ((with_reducible refine (L1.out _ ?b1).mono ?_); (case b1 => (repeat (first | (with_reducible exact Below.refl _ _) | (with_reducible refine Below.setCell ?_ (by (first | (simp; done) | (simp; omega) | omega)) _) | (with_reducible refine bl_alloc ?_ _) | (with_reducible refine bl_drewN ?_) | (with_reducible refine bl_drew ?_) | (with_reducible refine bl_step (by assumption) ?_))); done); rintro e w' ⟨v1, rfl, hv, hb⟩); have HV1 := hidden hv; clear hv; have nm1 := trivial) | (go_at_call 6; ((with_reducible refine (L2.out _ ?b1).mono ?_); (case b1 => (repeat (first | (with_reducible exact Below.refl _ _) | (with_reducible refine Below.setCell ?_ (by (first | (simp; done) | (simp; omega) | omega)) _) | (with_reducible refine bl_alloc ?_ _) | (with_reducible refine bl_drewN ?_) | (with_reducible refine bl_drew ?_) | (with_reducible refine bl_step (by assumption) ?_))); done); rintro e w' ⟨v2, rfl, hv, hb⟩); have HV2 := hidden hv; clear hv; have nm2 := trivial) | (go_at_call 7; ((with_reducible refine (equal_same _ _ m r _ (HV1.out.later ?b1) (HV2.out.later ?b2) m20).mono ?_); (case b1 => (repeat (first | (with_reducible exact Below.refl _ _) | (with_reducible refine Below.setCell ?_ (by (first | (simp; done) | (simp; omega) | omega)) _) | (with_reducible refine bl_alloc ?_ _) | (with_reducible refine bl_drewN ?_) | (with_reducible refine bl_drew ?_) | (with_reducible refine bl_step (by assumption) ?_))); done); (case b2 => (repeat (first | (with_reducible exact Below.refl _ _) | (with_reducible refine Below.setCell ?_ (by (first | (simp; done) | (simp; omega) | omega)) _) | (with_reducible refine bl_alloc ?_ _) | (with_reducible refine bl_drewN ?_) | (with_reducible refine bl_drew ?_) | (with_reducible refine bl_step (by assumption) ?_))); done); rintro e w' ⟨rfl, hb⟩); have nm3 := trivial)); (try replace hb := below_undrew hb); (try replace hb := below_undrewN hb); obtain ⟨hcell, hfroz⟩ := bcell hb; have hz := hb.size; (try simp at hz); (try (have z6 := Nat.lt_of_lt_of_le z7 hz)); (try (have z7 := Nat.lt_of_lt_of_le z8 hz)); (try (have z8 := Nat.lt_of_lt_of_le z9 hz)); (try (have z9 := Nat.lt_of_lt_of_le (Nat.lt_succ_self _) hz)); (try (have z0 : w.heap.size < w'.heap.size := by omega)); (try (have z1 : w.heap.size + 1 < w'.heap.size := by omega)); (try (have z2 : w.heap.size + 1 + 1 < w'.heap.size := by omega)); (try (have z3 : w.heap.size + 1 + 1 + 1 < w'.heap.size := by omega)); (try (have y1 : w1.heap.size < w'.heap.size := by omega)); (try (have y2 : w2.heap.size < w'.heap.size := by omega)); (try (have y3 : w3.heap.size < w'.heap.size := by omega)); (try (have x1 : w1.heap.size + 1 < w'.heap.size := by omega)); (try (have x2 : w2.heap.size + 1 < w'.heap.size := by omega)); (try (have x3 : w3.heap.size + 1 < w'.heap.size := by omega)); (try (have z10 : w1.heap.size < w'.heap.size + 1 := by omega)); (try (have z20 : w2.heap.size < w'.heap.size + 1 := by omega)); (try (have z30 : w3.heap.size < w'.heap.size + 1 := by omega)); (first | (clear nm0; obtain ⟨w1, rfl⟩ : ∃ v, v = w' := ⟨_, rfl⟩) | (clear nm1; obtain ⟨w2, rfl⟩ : ∃ v, v = w' := ⟨_, rfl⟩) | (clear nm2; obtain ⟨w3, rfl⟩ : ∃ v, v = w' := ⟨_, rfl⟩) | (clear nm3)))
    go_ret
    exact ⟨rfl, by (repeat (first | (with_reducible exact Below.refl _ _) | (with_reducible refine Below.setCell ?_ (by (first | (simp; done) | (simp; omega) | omega)) _) | (with_reducible refine bl_alloc ?_ _) | (with_reducible refine bl_drewN ?_) | (with_reducible refine bl_drew ?_) | (with_reducible refine bl_step (by assumption) ?_)))⟩

end Go.Proofs.YtjceofmhodcefaaGreat

namespace Go.Proofs.YtjceofmhodcefaaGreat
open Go.RowKit

def exF (i j : Nat) : Int := if i = 0 then (if j < 4 then 0 else 5000) else (if j < 2 then 0 else if j < 4 then 5400000 else 3000)
theorem ex_nums : detL exF 2 = 4503599627370496 ∧ xL exF 2 = 3000 ∧ yL exF 2 = 5000 ∧ lonL exF 2 = 3000 ∧ rL exF 2 0 = 0 ∧ rL exF 2 1 = 0 := by decide +kernel
theorem ex_least2 (B1 : Nat) (w : World) (c0 : w.cell? ⟨B1, 0, none⟩ = some (.int .i64 0)) (c1 : w.cell? ⟨B1, 1, none⟩ = some (.int .i64 0)) (c2 : w.cell? ⟨B1, 2, none⟩ = some (.int .i64 0)) (c3 : w.cell? ⟨B1, 3, none⟩ = some (.int .i64 0)) (c4 : w.cell? ⟨B1, 4, none⟩ = some (.int .i64 5000)) (c5 : w.cell? ⟨B1, 5, none⟩ = some (.int .i64 5000)) (c6 : w.cell? ⟨B1, 6, none⟩ = some (.int .i64 0)) (c7 : w.cell? ⟨B1, 7, none⟩ = some (.int .i64 0)) (c8 : w.cell? ⟨B1, 8, none⟩ = some (.int .i64 5400000)) (c9 : w.cell? ⟨B1, 9, none⟩ = some (.int .i64 5400000)) (c10 : w.cell? ⟨B1, 10, none⟩ = some (.int .i64 3000)) (c11 : w.cell? ⟨B1, 11, none⟩ = some (.int .i64 3000)) :
    Calls Tryz.prog 5 #[.slice (some ⟨B1, 0, none⟩) 2 2] w fun e w' => (∃ g cap : Nat, e = .returned (.tuple #[.agg #[.int .i64 (5000), .int .i64 (3000)], .slice (some ⟨g, 0, none⟩) 2 cap, .int .i64 0]) ∧ w'.cell? ⟨g, 0, none⟩ = some (.int .i64 0) ∧ w'.cell? ⟨g, 1, none⟩ = some (.int .i64 0)) ∧ Below w.heap.size w w' := by
  have hl : LnS w B1 0 2 exF := by
    intro i j hi hj
    have h : i = 0 ∨ i = 1 := by omega
    have k : j = 0 ∨ j = 1 ∨ j = 2 ∨ j = 3 ∨ j = 4 ∨ j = 5 := by omega
    rcases h with rfl | rfl <;> rcases k with rfl | rfl | rfl | rfl | rfl | rfl <;> assumption
  have hv : ∀ i, i < 2 → lineB (exF i 0) (exF i 1) (exF i 2) (exF i 3) (exF i 4) (exF i 5) = true := by
    intro i hi
    have h : i = 0 ∨ i = 1 := by omega
    rcases h with rfl | rfl <;> decide
  have hs : ∀ i, i < 2 → exF i 0 = exF 0 0 ∧ exF i 1 = exF 0 1 := by
    intro i hi
    have h : i = 0 ∨ i = 1 := by omega
    rcases h with rfl | rfl <;> decide
  obtain ⟨n0, n1, n2, n3, n4, n5⟩ := ex_nums
  refine (least_main37 B1 0 2 2 exF w hl (by decide) (by decide) hv hs).mono fun e w' h => ?_
  obtain ⟨g, cap, he, hc⟩ := h.2.2.2 (by omega) (by rw [n1, n2]; exact ⟨⟨by decide, by decide⟩, ⟨by decide, by decide⟩, by decide, by decide⟩)
  rw [n2, n3] at he
  have r0 := hc 0 (by decide)
  have r1 := hc 1 (by decide)
  rw [n4] at r0
  rw [n5] at r1
  exact ⟨⟨g, cap, he, r0, r1⟩, h.1⟩
theorem awake37_is2 (w : World) : Calls Tryz.prog 4 #[] w fun e w' => e = .returned (.bool true) ∧ Below w.heap.size w w' :=
  awake37_walk w (hidden ex_cross) (hidden ex_least2) (hidden ex_move)

end Go.Proofs.YtjceofmhodcefaaGreat

namespace Go.Proofs.YtjceofmhodcefaaGreat
open Go.RowKit

theorem lst_err {w w' : World} {e : Ending} {E : Int} {r : Nat → Int} (h : e = .returned (.tuple #[.agg #[.int .i64 0, .int .i64 0], .slice none 0 0, .int .i64 E]) ∧ Below w.heap.size w w') : LstRes w 0 0 E 0 r e w' := ⟨_, h.1, .inl ⟨rfl, rfl⟩, h.2⟩
theorem lst_zero {w w' : World} {n : Nat} {D x y l F2 : Int} {r r0 : Nat → Int} {e : Ending} (h : LeastR w n D x y l F2 r e w') (hd : D < 1099511627776) : LstRes w 0 0 16 0 r0 e w' := ⟨_, h.2.1 hd, .inl ⟨rfl, rfl⟩, h.1⟩
theorem lst_far {w w' : World} {n : Nat} {D x y l F2 : Int} {r r0 : Nat → Int} {e : Ending} (h : LeastR w n D x y l F2 r e w') (hd : 1099511627776 ≤ D) (hf : ¬ Fit x y l) : LstRes w 0 0 25 0 r0 e w' := ⟨_, h.2.2.1 hd hf, .inl ⟨rfl, rfl⟩, h.1⟩
theorem lst_fit {w w' : World} {n : Nat} {D x y l F2 : Int} {r : Nat → Int} {e : Ending} (h : LeastR w n D x y l F2 r e w') (hd : 1099511627776 ≤ D) (hf : Fit x y l) : LstRes w (l + y) F2 0 n r e w' := by
  obtain ⟨g, cap, he, hc⟩ := h.2.2.2 hd hf
  exact ⟨_, he, .inr ⟨g, cap, rfl, hc⟩, h.1⟩

theorem lfits_size (a : Option Addr) (n c : Nat) (w : World) (hn : n < 2 ∨ 16 < n) :
    Calls Tryz.prog 3 #[.slice a n c] w fun e w' => e = .returned (.bool true) ∧ Below w.heap.size w w' :=
  lfits_walk a n c 0 0 3 0 (fun _ => 0) w (by omega) (hidden awake37_is2) (hidden fun w' _ => (least_size37 a n c w' hn).mono fun _ _ => lst_err) (hidden fun w' _ => (rleast_size a n c w' hn).mono fun _ _ => lst_err)

theorem lfits_lines (B oo n c : Nat) (f : Nat → Nat → Int) (w : World) (hl : LnS w B oo n f) :
    Calls Tryz.prog 3 #[.slice (some ⟨B, oo, none⟩) n c] w fun e w' => e = .returned (.bool true) ∧ Below w.heap.size w w' := by
  by_cases hn : n < 2 ∨ 16 < n
  · exact lfits_size _ n c w hn
  have n2 : 2 ≤ n := by omega
  have n16 : n ≤ 16 := by omega
  by_cases hv : ∀ i, i < n → lineB (f i 0) (f i 1) (f i 2) (f i 3) (f i 4) (f i 5) = true
  · by_cases hs : ∀ i, i < n → f i 0 = f 0 0 ∧ f i 1 = f 0 1
    · have M1 := fun w' (hb : Below w.heap.size w w') => least_main37 B oo n c f w' (hl.later hb) n2 n16 hv hs
      have M2 := fun w' (hb : Below w.heap.size w w') => (rleast_main B oo n c f w' (hl.later hb) n2 n16 hv fun c d a b p q w => v37_any c d a b p q w).mono fun _ _ h => h.2.2 hs
      by_cases hd : detL f n < 1099511627776
      · exact lfits_walk _ n c 0 0 16 0 (fun _ => 0) w (by omega) (hidden awake37_is2) (hidden fun w' hb => (M1 w' hb).mono fun _ _ h => lst_zero h hd) (hidden fun w' hb => (M2 w' hb).mono fun _ _ h => lst_zero h hd)
      · have hd2 := Int.not_lt.1 hd
        by_cases hf : Fit (xL f n) (yL f n) (f 0 0)
        · exact lfits_walk _ n c _ _ 0 n (rL f n) w (by omega) (hidden awake37_is2) (hidden fun w' hb => (M1 w' hb).mono fun _ _ h => lst_fit h hd2 hf) (hidden fun w' hb => (M2 w' hb).mono fun _ _ h => lst_fit h hd2 hf)
        · exact lfits_walk _ n c 0 0 25 0 (fun _ => 0) w (by omega) (hidden awake37_is2) (hidden fun w' hb => (M1 w' hb).mono fun _ _ h => lst_far h hd2 hf) (hidden fun w' hb => (M2 w' hb).mono fun _ _ h => lst_far h hd2 hf)
    · refine lfits_walk _ n c 0 0 26 0 (fun _ => 0) w (by omega) (hidden awake37_is2) (hidden fun w' hb => (least_bad37 B oo n c f 26 w' (hl.later hb) n2 n16 (hidden fun w h => ?gv) (by decide)).mono fun _ _ => lst_err)
        (hidden fun w' hb => (rleast_main B oo n c f w' (hl.later hb) n2 n16 hv fun c d a b p q w => v37_any c d a b p q w).mono fun _ _ h => lst_err ⟨h.2.1 hs, h.1⟩)
      exact given_walk B oo n c f (fun _ => true) 26 w h (by omega) (hidden fun i hi w => by have := lvalid_any (f i 0) (f i 1) (f i 2) (f i 3) (f i 4) (f i 5) w; rw [hv i hi] at this; exact this) (hidden fun _ _ h => by cases h) (hidden fun _ _ _ _ => rfl) (hidden fun _ h => absurd h hs)
  · let g : Nat → Bool := fun i => lineB (f i 0) (f i 1) (f i 2) (f i 3) (f i 4) (f i 5)
    refine lfits_walk _ n c 0 0 1 0 (fun _ => 0) w (by omega) (hidden awake37_is2) (hidden fun w' hb => (least_bad37 B oo n c f 1 w' (hl.later hb) n2 n16 (hidden fun w h => ?gv2) (by decide)).mono fun _ _ => lst_err)
      (hidden fun w' hb => (rleast_bad B oo n c f g w' (hl.later hb) n2 n16 (hidden fun i _ w => v37_any _ _ _ _ _ _ w) (hidden hv)).mono fun _ _ => lst_err)
    exact given_walk B oo n c f g 1 w h (by omega) (hidden fun i hi w => lvalid_any _ _ _ _ _ _ w) (hidden fun _ _ _ => rfl) (hidden fun h => absurd h hv) (hidden fun h => absurd h hv)

theorem lfits_all (a : Option Addr) (n c : Nat) (w : World) (h : n = 0 ∨ ∃ (B oo : Nat) (f : Nat → Nat → Int), a = some ⟨B, oo, none⟩ ∧ ∀ i j, i < n → j < 6 → w.cell? ⟨B, oo + i * 6 + j, none⟩ = some (.int .i64 (f i j))) :
    Calls Tryz.prog 3 #[.slice a n c] w fun e w' => e = .returned (.bool true) ∧ Below w.heap.size w w' := by
  rcases h with h | ⟨B, oo, f, rfl, h⟩
  · exact lfits_size a n c w (by omega)
  · exact lfits_lines B oo n c f w h

end Go.Proofs.YtjceofmhodcefaaGreat
