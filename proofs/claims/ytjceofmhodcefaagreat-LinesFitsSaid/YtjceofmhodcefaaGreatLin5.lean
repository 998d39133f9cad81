/- Cross of package lines, for two lines whose azimuths are no enclosures of each other, as a walk. -/
import Derived.Test.YtjceofmhodcefaaGreatLb
namespace Go.Proofs.YtjceofmhodcefaaGreat
open Go.RowKit

theorem held5_start {w wN : World} {S0 : Nat} (h : Below w.heap.size w wN) : Below w.heap.size w wN.drew ∧ (∀ b o, b ≠ S0 → b < wN.heap.size → wN.drew.cell? ⟨b, o, none⟩ = wN.cell? ⟨b, o, none⟩) ∧ (∀ b o, b < wN.heap.size → wN.drew.frozen? ⟨b, o, none⟩ = wN.frozen? ⟨b, o, none⟩) :=
  ⟨h.drew, fun _ _ _ _ => by simp, fun _ _ _ => by simp⟩
theorem held5_of {w wN v : World} {S0 : Nat} (h : Below w.heap.size w wN) (hv : Below wN.heap.size wN v) : Below w.heap.size w v ∧ (∀ b o, b ≠ S0 → b < wN.heap.size → v.cell? ⟨b, o, none⟩ = wN.cell? ⟨b, o, none⟩) ∧ (∀ b o, b < wN.heap.size → v.frozen? ⟨b, o, none⟩ = wN.frozen? ⟨b, o, none⟩) :=
  ⟨bl_step hv h, fun b o _ hb => (bcell hv).1 b o hb, fun b o hb => (bcell hv).2 b o hb⟩
theorem held5_store4 {w wN v : World} {S0 : Nat} (h : Below w.heap.size w wN) (hv : Below wN.heap.size wN v) (hS : w.heap.size ≤ S0) (x0 x1 x2 x3 : Value) :
    Below w.heap.size w ((((v.setCell ⟨S0, 0, none⟩ x0).setCell ⟨S0, 1, none⟩ x1).setCell ⟨S0, 2, none⟩ x2).setCell ⟨S0, 3, none⟩ x3) ∧
    (∀ b o, b ≠ S0 → b < wN.heap.size → ((((v.setCell ⟨S0, 0, none⟩ x0).setCell ⟨S0, 1, none⟩ x1).setCell ⟨S0, 2, none⟩ x2).setCell ⟨S0, 3, none⟩ x3).cell? ⟨b, o, none⟩ = wN.cell? ⟨b, o, none⟩) ∧
    (∀ b o, b < wN.heap.size → ((((v.setCell ⟨S0, 0, none⟩ x0).setCell ⟨S0, 1, none⟩ x1).setCell ⟨S0, 2, none⟩ x2).setCell ⟨S0, 3, none⟩ x3).frozen? ⟨b, o, none⟩ = wN.frozen? ⟨b, o, none⟩) := by
  refine ⟨((((bl_step hv h).setCell hS _).setCell hS _).setCell hS _).setCell hS _, fun b o hb hN => ?_, fun b o hN => ?_⟩
  · have ne : ∀ p, (⟨S0, p, none⟩ : Addr) ≠ ⟨b, o, none⟩ := fun p e => by injection e with e; exact hb e.symm
    rw [World.cell?_setCell_other _ _ _ _ (ne 3), World.cell?_setCell_other _ _ _ _ (ne 2), World.cell?_setCell_other _ _ _ _ (ne 1), World.cell?_setCell_other _ _ _ _ (ne 0)]
    exact (bcell hv).1 b o hN
  · simp; exact (bcell hv).2 b o hN

set_option maxRecDepth 100000 in
set_option maxHeartbeats 16000000 in
theorem cross_walk (c d a b p q e f r s x y m n k1 k2 k3 k4 k5 k6 t1 t2 t3 t4 t5 t6 t7 t8 u1 u2 u3 u4 g1 g2 g3 g4 X1 X2 Y1 Y2 N1 N2 E1 E2 M1 M2 R1 R2 : Int) (w : World) (h1 : lineB c d a b p q = true) (h2 : lineB c d e f r s = true) (hm : m < 0) (hn : n < 0)
    (S : Hid (∀ w, Calls Tryz.prog 29 #[.agg #[.int .i64 (a), .int .i64 (b)], .agg #[.int .i64 (e), .int .i64 (f)]] w fun e w' => e = .returned (.tuple #[.agg #[.int .i64 (x), .int .i64 (y)], .int .i64 0]) ∧ Below w.heap.size w w'))
    (SD : Hid (∀ B w, okAt w B → Calls Tryz.prog 15 #[.pointer (some ⟨B, 0, none⟩), .agg #[.int .i64 (x), .int .i64 (y)]] w fun e w' => e = .returned (.agg #[.int .i64 (m), .int .i64 (n)]) ∧ Below w.heap.size w w'))
    (CB : Hid (∀ B w, okAt w B → Calls Tryz.prog 16 #[.pointer (some ⟨B, 0, none⟩), .agg #[.int .i64 (e), .int .i64 (f)]] w fun e w' => e = .returned (.agg #[.int .i64 (k1), .int .i64 (k2)]) ∧ Below w.heap.size w w'))
    (T1 : Hid (∀ B w, okAt w B → Calls Tryz.prog 33 #[.pointer (some ⟨B, 0, none⟩), .agg #[.int .i64 (p), .int .i64 (q)], .agg #[.int .i64 (k1), .int .i64 (k2)]] w fun e w' => e = .returned (.agg #[.int .i64 (t1), .int .i64 (t2)]) ∧ Below w.heap.size w w'))
    (CA : Hid (∀ B w, okAt w B → Calls Tryz.prog 16 #[.pointer (some ⟨B, 0, none⟩), .agg #[.int .i64 (a), .int .i64 (b)]] w fun e w' => e = .returned (.agg #[.int .i64 (k3), .int .i64 (k4)]) ∧ Below w.heap.size w w'))
    (T2 : Hid (∀ B w, okAt w B → Calls Tryz.prog 33 #[.pointer (some ⟨B, 0, none⟩), .agg #[.int .i64 (r), .int .i64 (s)], .agg #[.int .i64 (k3), .int .i64 (k4)]] w fun e w' => e = .returned (.agg #[.int .i64 (t3), .int .i64 (t4)]) ∧ Below w.heap.size w w'))
    (U1 : Hid (∀ w, Calls Tryz.prog 32 #[.agg #[.int .i64 (t1), .int .i64 (t2)], .agg #[.int .i64 (t3), .int .i64 (t4)]] w fun e w' => e = .returned (.agg #[.int .i64 (u1), .int .i64 (u2)]) ∧ Below w.heap.size w w'))
    (O1 : Hid (∀ B w, okAt w B → Calls Tryz.prog 31 #[.pointer (some ⟨B, 0, none⟩), .agg #[.int .i64 (u1), .int .i64 (u2)], .agg #[.int .i64 (m), .int .i64 (n)]] w fun e w' => e = .returned (.agg #[.int .i64 (X1), .int .i64 (X2)]) ∧ Below w.heap.size w w'))
    (SA : Hid (∀ B w, okAt w B → Calls Tryz.prog 15 #[.pointer (some ⟨B, 0, none⟩), .agg #[.int .i64 (a), .int .i64 (b)]] w fun e w' => e = .returned (.agg #[.int .i64 (g1), .int .i64 (g2)]) ∧ Below w.heap.size w w'))
    (T3 : Hid (∀ B w, okAt w B → Calls Tryz.prog 33 #[.pointer (some ⟨B, 0, none⟩), .agg #[.int .i64 (r), .int .i64 (s)], .agg #[.int .i64 (g1), .int .i64 (g2)]] w fun e w' => e = .returned (.agg #[.int .i64 (t5), .int .i64 (t6)]) ∧ Below w.heap.size w w'))
    (SB : Hid (∀ B w, okAt w B → Calls Tryz.prog 15 #[.pointer (some ⟨B, 0, none⟩), .agg #[.int .i64 (e), .int .i64 (f)]] w fun e w' => e = .returned (.agg #[.int .i64 (g3), .int .i64 (g4)]) ∧ Below w.heap.size w w'))
    (T4 : Hid (∀ B w, okAt w B → Calls Tryz.prog 33 #[.pointer (some ⟨B, 0, none⟩), .agg #[.int .i64 (p), .int .i64 (q)], .agg #[.int .i64 (g3), .int .i64 (g4)]] w fun e w' => e = .returned (.agg #[.int .i64 (t7), .int .i64 (t8)]) ∧ Below w.heap.size w w'))
    (U2 : Hid (∀ w, Calls Tryz.prog 32 #[.agg #[.int .i64 (t5), .int .i64 (t6)], .agg #[.int .i64 (t7), .int .i64 (t8)]] w fun e w' => e = .returned (.agg #[.int .i64 (u3), .int .i64 (u4)]) ∧ Below w.heap.size w w'))
    (O2 : Hid (∀ B w, okAt w B → Calls Tryz.prog 31 #[.pointer (some ⟨B, 0, none⟩), .agg #[.int .i64 (u3), .int .i64 (u4)], .agg #[.int .i64 (m), .int .i64 (n)]] w fun e w' => e = .returned (.agg #[.int .i64 (Y1), .int .i64 (Y2)]) ∧ Below w.heap.size w w'))
    (W1 : Hid (∀ w, Calls Tryz.prog 18 #[.agg #[.int .i64 (X1), .int .i64 (X2)], .int .i64 2000000] w fun e w' => e = .returned (.bool true) ∧ Below w.heap.size w w'))
    (W2 : Hid (∀ w, Calls Tryz.prog 18 #[.agg #[.int .i64 (Y1), .int .i64 (Y2)], .int .i64 2000000] w fun e w' => e = .returned (.bool true) ∧ Below w.heap.size w w'))
    (AT1 : Hid (∀ w, Calls Tryz.prog 12 #[.int .i64 c] w fun e w' => e = .returned (.agg #[.int .i64 (c), .int .i64 (c)]) ∧ Below w.heap.size w w'))
    (AD1 : Hid (∀ w, Calls Tryz.prog 34 #[.agg #[.int .i64 (c), .int .i64 (c)], .agg #[.int .i64 (Y1), .int .i64 (Y2)]] w fun e w' => e = .returned (.agg #[.int .i64 (N1), .int .i64 (N2)]) ∧ Below w.heap.size w w'))
    (AL : Hid (∀ w, Calls Tryz.prog 35 #[.agg #[.int .i64 (N1), .int .i64 (N2)]] w fun e w' => e = .returned (.bool true) ∧ Below w.heap.size w w'))
    (AT2 : Hid (∀ w, Calls Tryz.prog 12 #[.int .i64 d] w fun e w' => e = .returned (.agg #[.int .i64 (d), .int .i64 (d)]) ∧ Below w.heap.size w w'))
    (CC : Hid (∀ B w, okAt w B → Calls Tryz.prog 16 #[.pointer (some ⟨B, 0, none⟩), .agg #[.int .i64 (c), .int .i64 (c)]] w fun e w' => e = .returned (.agg #[.int .i64 (k5), .int .i64 (k6)]) ∧ Below w.heap.size w w'))
    (O3 : Hid (∀ B w, okAt w B → Calls Tryz.prog 31 #[.pointer (some ⟨B, 0, none⟩), .agg #[.int .i64 (X1), .int .i64 (X2)], .agg #[.int .i64 (k5), .int .i64 (k6)]] w fun e w' => e = .returned (.agg #[.int .i64 (E1), .int .i64 (E2)]) ∧ Below w.heap.size w w'))
    (AD2 : Hid (∀ w, Calls Tryz.prog 34 #[.agg #[.int .i64 (d), .int .i64 (d)], .agg #[.int .i64 (E1), .int .i64 (E2)]] w fun e w' => e = .returned (.agg #[.int .i64 (M1), .int .i64 (M2)]) ∧ Below w.heap.size w w'))
    (LG : Hid (∀ w, Calls Tryz.prog 36 #[.agg #[.int .i64 (M1), .int .i64 (M2)]] w fun e w' => e = .returned (.agg #[.int .i64 (R1), .int .i64 (R2)]) ∧ Below w.heap.size w w'))
    :
    Calls Tryz.prog 9 #[.agg #[.int .i64 (c), .int .i64 (d), .int .i64 (a), .int .i64 (b), .int .i64 (p), .int .i64 (q)], .agg #[.int .i64 (c), .int .i64 (d), .int .i64 (e), .int .i64 (f), .int .i64 (r), .int .i64 (s)]] w fun e w' => e = .returned (.tuple #[.agg #[.int .i64 (N1), .int .i64 (N2), .int .i64 (R1), .int .i64 (R2)], .int .i64 0]) ∧ Below w.heap.size w w' := by
  go_enter Tryz.func9, Tryz.ntmps9
  go_wp2_with (first | ((first | (go_at_call 11; ((with_reducible refine (given2_ok _ _ _ _ _ _ _ _ _ _ _ _ ?q0 ?q1 ?q2 ?q3 ?q4 ?q5 ?q6 ?q7 ?q8 ?q9 ?q10 ?q11 h1 h2).mono ?_); (case q0 => (simp [go_sem, *]; done)); (case q1 => (simp [go_sem, *]; done)); (case q2 => (simp [go_sem, *]; done)); (case q3 => (simp [go_sem, *]; done)); (case q4 => (simp [go_sem, *]; done)); (case q5 => (simp [go_sem, *]; done)); (case q6 => (simp [go_sem, *]; done)); (case q7 => (simp [go_sem, *]; done)); (case q8 => (simp [go_sem, *]; done)); (case q9 => (simp [go_sem, *]; done)); (case q10 => (simp [go_sem, *]; done)); (case q11 => (simp [go_sem, *]; done)); rintro e w' ⟨rfl, hb⟩); have nm0 := trivial) | (go_at_call 29; ((with_reducible refine (S.out _).mono ?_); rintro e w' ⟨rfl, hb⟩); have nm1 := trivial) | (go_at_call 15; ((with_reducible refine (SD.out _ _ ?ok).mono ?_); (case ok => exact ⟨(by simp [go_sem, *]; done), (by simp [go_sem, *]; done)⟩); rintro e w' ⟨rfl, hb⟩); have nm2 := trivial)); (try replace hb := below_undrew hb); (try replace hb := below_undrewN hb); obtain ⟨hcell, hfroz⟩ := bcell hb; have hz := hb.size; (try simp at hz); (try (have z6 := Nat.lt_of_lt_of_le z7 hz)); (try (have z7 := Nat.lt_of_lt_of_le z8 hz)); (try (have z8 := Nat.lt_of_lt_of_le z9 hz)); (try (have z9 := Nat.lt_of_lt_of_le (Nat.lt_succ_self _) hz)); (try (have z0 : w.heap.size < w'.heap.size := by omega)); (try (have z1 : w.heap.size + 1 < w'.heap.size := by omega)); (try (have z2 : w.heap.size + 1 + 1 < w'.heap.size := by omega)); (try (have z3 : w.heap.size + 1 + 1 + 1 < w'.heap.size := by omega)); (try (have y1 : w1.heap.size < w'.heap.size := by omega)); (try (have y2 : w2.heap.size < w'.heap.size := by omega)); (try (have x1 : w1.heap.size + 1 < w'.heap.size := by omega)); (try (have x2 : w2.heap.size + 1 < w'.heap.size := by omega)); (try (have z10 : w1.heap.size < w'.heap.size + 1 := by omega)); (try (have z20 : w2.heap.size < w'.heap.size + 1 := by omega)); (first | (clear nm0; obtain ⟨w1, rfl⟩ : ∃ v, v = w' := ⟨_, rfl⟩) | (clear nm1; obtain ⟨w2, rfl⟩ : ∃ v, v = w' := ⟨_, rfl⟩) | (clear nm2; obtain ⟨w4, rfl⟩ : ∃ v, v = w' := ⟨_, rfl⟩))) | (go_at_call 30; ((with_reducible refine (keep_any _ _ ?hc ?hf).mono ?_); (case hc => (simp [go_sem, *]; done)); (case hf => (simp [go_sem, *]; done)); rintro e w' ⟨rfl, rfl⟩)))
  (refine name_below ?_; intro w' hb; (try replace hb := below_undrew hb); (try replace hb := below_undrewN hb); obtain ⟨hcell, hfroz⟩ := bcell hb; have hz := hb.size; (try simp at hz); (try (have z6 := Nat.lt_of_lt_of_le z7 hz)); (try (have z7 := Nat.lt_of_lt_of_le z8 hz)); (try (have z8 := Nat.lt_of_lt_of_le z9 hz)); (try (have z9 := Nat.lt_of_lt_of_le (Nat.lt_succ_self _) hz)); (try (have z0 : w.heap.size < w'.heap.size := by omega)); (try (have z1 : w.heap.size + 1 < w'.heap.size := by omega)); (try (have z2 : w.heap.size + 1 + 1 < w'.heap.size := by omega)); (try (have z3 : w.heap.size + 1 + 1 + 1 < w'.heap.size := by omega)); (try (have y1 : w1.heap.size < w'.heap.size := by omega)); (try (have y2 : w2.heap.size < w'.heap.size := by omega)); (try (have y4 : w4.heap.size < w'.heap.size := by omega)); (try (have y5 : w5.heap.size < w'.heap.size := by omega)); (try (have y6 : w6.heap.size < w'.heap.size := by omega)); (try (have x1 : w1.heap.size + 1 < w'.heap.size := by omega)); (try (have x2 : w2.heap.size + 1 < w'.heap.size := by omega)); (try (have x4 : w4.heap.size + 1 < w'.heap.size := by omega)); (try (have x5 : w5.heap.size + 1 < w'.heap.size := by omega)); (try (have x6 : w6.heap.size + 1 < w'.heap.size := by omega)); (try (have y7 : w7.heap.size < w'.heap.size := by omega)); (try (have z10 : w1.heap.size < w'.heap.size + 1 := by omega)); (try (have z20 : w2.heap.size < w'.heap.size + 1 := by omega)); (try (have z40 : w4.heap.size < w'.heap.size + 1 := by omega)); (try (have z50 : w5.heap.size < w'.heap.size + 1 := by omega)); (try (have z60 : w6.heap.size < w'.heap.size + 1 := by omega)); (try (have z70 : w7.heap.size < w'.heap.size + 1 := by omega)))
  have hw : Below w.heap.size w w' := by (repeat (first | exact Below.refl _ _ | refine bl_drewN ?_ | refine bl_drew ?_ | refine bl_alloc ?_ _ | refine Below.setCell ?_ (by (first | (simp; done) | (simp; omega) | omega)) _ | refine bl_step (by assumption) ?_))
  have ca0 : w'.cell? ⟨w.heap.size, 0, none⟩ = some (.int .i64 c) := by simp [go_sem, *]
  have ca1 : w'.cell? ⟨w.heap.size, 1, none⟩ = some (.int .i64 d) := by simp [go_sem, *]
  have ca2 : w'.cell? ⟨w.heap.size, 2, none⟩ = some (.int .i64 a) := by simp [go_sem, *]
  have ca3 : w'.cell? ⟨w.heap.size, 3, none⟩ = some (.int .i64 b) := by simp [go_sem, *]
  have ca4 : w'.cell? ⟨w.heap.size, 4, none⟩ = some (.int .i64 p) := by simp [go_sem, *]
  have ca5 : w'.cell? ⟨w.heap.size, 5, none⟩ = some (.int .i64 q) := by simp [go_sem, *]
  have cb0 : w'.cell? ⟨w.heap.size + 1, 0, none⟩ = some (.int .i64 c) := by simp [go_sem, *]
  have cb1 : w'.cell? ⟨w.heap.size + 1, 1, none⟩ = some (.int .i64 d) := by simp [go_sem, *]
  have cb2 : w'.cell? ⟨w.heap.size + 1, 2, none⟩ = some (.int .i64 e) := by simp [go_sem, *]
  have cb3 : w'.cell? ⟨w.heap.size + 1, 3, none⟩ = some (.int .i64 f) := by simp [go_sem, *]
  have cb4 : w'.cell? ⟨w.heap.size + 1, 4, none⟩ = some (.int .i64 r) := by simp [go_sem, *]
  have cb5 : w'.cell? ⟨w.heap.size + 1, 5, none⟩ = some (.int .i64 s) := by simp [go_sem, *]
  have cr0 : w'.cell? ⟨w.heap.size + 1 + 1, 0, none⟩ = some (.int .i64 0) := by simp [go_sem, *]
  have cr1 : w'.cell? ⟨w.heap.size + 1 + 1, 1, none⟩ = some (.int .i64 0) := by simp [go_sem, *]
  have cr2 : w'.cell? ⟨w.heap.size + 1 + 1, 2, none⟩ = some (.int .i64 0) := by simp [go_sem, *]
  have cr3 : w'.cell? ⟨w.heap.size + 1 + 1, 3, none⟩ = some (.int .i64 0) := by simp [go_sem, *]
  have cm0 : w'.cell? ⟨w4.heap.size, 0, none⟩ = some (.int .i64 m) := by simp [go_sem, *]
  have cm1 : w'.cell? ⟨w4.heap.size, 1, none⟩ = some (.int .i64 n) := by simp [go_sem, *]
  have cg : ∀ o, w'.frozen? ⟨w.heap.size + 1 + 1, o, none⟩ = false := by intro o; simp [go_sem, *]
  have ok : okAt w' w1.heap.size := ⟨by simp [go_sem, *], by simp [go_sem, *]⟩
  have lr : w.heap.size + 1 + 1 < w'.heap.size := World.block_lt_of_cell? _ _ cr0
  clear hcell hfroz hz
  obtain ⟨v9, rfl⟩ : ∃ v, v = w' := ⟨_, rfl⟩
  (try clear z0); (try clear z1); (try clear z2); (try clear z9); (try clear z8); (try clear z7); (try clear z6)
  refine wp_region_inv (fun a0 LL aa v10 => ∃ (l0 l1 l2 l3 l4 l5 l6 l7 l8 l9 l10 l11 l12 l13 l14 l15 l16 l17 l18 l19 l20 l21 : Bool) (E10 : Nat), LL = #[l0, l1, l2, l3, l4, l5, l6, l7, l8, l9, l10, l11, l12, l13, l14, l15, l16, l17, l18, l19, l20, l21] ∧ aa = { a0 with tmps := (((((((((((((((((((((a0.tmps.setIfInBounds 55 (cond l0 (.pointer (some ⟨w1.heap.size, 0, none⟩)) undef)).setIfInBounds 56 (cond l1 (.pointer (some ⟨w1.heap.size, 0, none⟩)) undef)).setIfInBounds 57 (cond l2 (.pointer (some ⟨w.heap.size, 4, none⟩)) undef)).setIfInBounds 58 (cond l3 (.agg #[.int .i64 (p), .int .i64 (q)]) undef)).setIfInBounds 59 (cond l4 (.pointer (some ⟨w1.heap.size, 0, none⟩)) undef)).setIfInBounds 60 (cond l5 (.pointer (some ⟨w.heap.size + 1, 2, none⟩)) undef)).setIfInBounds 61 (cond l6 (.agg #[.int .i64 (e), .int .i64 (f)]) undef)).setIfInBounds 62 (cond l7 (.agg #[.int .i64 (k1), .int .i64 (k2)]) undef)).setIfInBounds 63 (cond l8 (.agg #[.int .i64 (t1), .int .i64 (t2)]) undef)).setIfInBounds 64 (cond l9 (.pointer (some ⟨w1.heap.size, 0, none⟩)) undef)).setIfInBounds 65 (cond l10 (.pointer (some ⟨w.heap.size + 1, 4, none⟩)) undef)).setIfInBounds 66 (cond l11 (.agg #[.int .i64 (r), .int .i64 (s)]) undef)).setIfInBounds 67 (cond l12 (.pointer (some ⟨w1.heap.size, 0, none⟩)) undef)).setIfInBounds 68 (cond l13 (.pointer (some ⟨w.heap.size, 2, none⟩)) undef)).setIfInBounds 69 (cond l14 (.agg #[.int .i64 (a), .int .i64 (b)]) undef)).setIfInBounds 70 (cond l15 (.agg #[.int .i64 (k3), .int .i64 (k4)]) undef)).setIfInBounds 71 (cond l16 (.agg #[.int .i64 (t3), .int .i64 (t4)]) undef)).setIfInBounds 72 (cond l17 (.agg #[.int .i64 (u1), .int .i64 (u2)]) undef)).setIfInBounds 73 (cond l18 (.agg #[.int .i64 (m), .int .i64 (n)]) undef)).setIfInBounds 74 (cond l19 (.agg #[.int .i64 (X1), .int .i64 (X2)]) undef)).setIfInBounds 11 (cond l20 (.pointer (some ⟨E10, 0, none⟩)) undef)) } ∧ Below v9.heap.size v9 v10 ∧ (l21 = true → l20 = true) ∧ (l20 = true → Room2 v9 v10 E10 l21 (X1) (X2))) (by kernel_rfl) (by kernel_rfl) ?h0 ?hsize ?hdone ?hstep
  case h0 =>
    refine ⟨false, false, false, false, false, false, false, false, false, false, false, false, false, false, false, false, false, false, false, false, false, false, 0, rfl, ?_, by (repeat (first | exact Below.refl _ _ | refine bl_drewN ?_ | refine bl_drew ?_ | refine bl_alloc ?_ _ | refine Below.setCell ?_ (by (first | (simp; done) | (simp; omega) | omega)) _ | refine bl_step (by assumption) ?_)), (fun h => by cases h), (fun h => by cases h)⟩
    simp only [cond_false, List.setIfInBounds_toArray, List.set_cons_zero, List.set_cons_succ]
  case hsize =>
    intro LL aa v10 h
    obtain ⟨l0, l1, l2, l3, l4, l5, l6, l7, l8, l9, l10, l11, l12, l13, l14, l15, l16, l17, l18, l19, l20, l21, E10, hL, _⟩ := h
    rw [hL]
    rfl
  case hstep =>
    intro LL aa v10 h
    obtain ⟨l0, l1, l2, l3, l4, l5, l6, l7, l8, l9, l10, l11, l12, l13, l14, l15, l16, l17, l18, l19, l20, l21, E10, hL, ha, hb0, hq, hr⟩ := h
    simp only [List.setIfInBounds_toArray, List.set_cons_zero, List.set_cons_succ] at ha
    subst hL
    subst ha
    refine ⟨?s0, ?s1, ?s2, ?s3, ?s4, ?s5, ?s6, ?s7, ?s8, ?s9, ?s10, ?s11, ?s12, ?s13, ?s14, ?s15, ?s16, ?s17, ?s18, ?s19, ?s20, ?s21, trivial⟩
    case s0 =>
      intro ff gg KK hK
      have f0 : l0 = false := ff
      clear ff gg
      subst f0
      simp only [cond_false]
      go_simp
      exact hK _ _ ⟨true, l1, l2, l3, l4, l5, l6, l7, l8, l9, l10, l11, l12, l13, l14, l15, l16, l17, l18, l19, l20, l21, E10, rfl, (by simp only [cond_true, List.setIfInBounds_toArray, List.set_cons_zero, List.set_cons_succ]), hb0, hq, hr⟩
    case s1 =>
      intro ff gg KK hK
      have f0 : l1 = false := ff
      clear ff gg
      subst f0
      simp only [cond_false]
      go_simp
      exact hK _ _ ⟨l0, true, l2, l3, l4, l5, l6, l7, l8, l9, l10, l11, l12, l13, l14, l15, l16, l17, l18, l19, l20, l21, E10, rfl, (by simp only [cond_true, List.setIfInBounds_toArray, List.set_cons_zero, List.set_cons_succ]), hb0, hq, hr⟩
    case s2 =>
      intro ff gg KK hK
      have f0 : l2 = false := ff
      clear ff gg
      subst f0
      simp only [cond_false]
      go_simp
      exact hK _ _ ⟨l0, l1, true, l3, l4, l5, l6, l7, l8, l9, l10, l11, l12, l13, l14, l15, l16, l17, l18, l19, l20, l21, E10, rfl, (by simp only [cond_true, List.setIfInBounds_toArray, List.set_cons_zero, List.set_cons_succ]), hb0, hq, hr⟩
    case s3 =>
      intro ff gg KK hK
      have t2 : l2 = true := gg ⟨2, .data⟩ (by simp) (by rfl)
      have f0 : l3 = false := ff
      clear ff gg
      subst t2
      subst f0
      simp only [cond_true, cond_false]
      have j0 := cell_later hb0 ca4
      have j1 := cell_later hb0 ca5
      go_simp
      exact hK _ _ ⟨l0, l1, true, true, l4, l5, l6, l7, l8, l9, l10, l11, l12, l13, l14, l15, l16, l17, l18, l19, l20, l21, E10, rfl, (by simp only [cond_true, List.setIfInBounds_toArray, List.set_cons_zero, List.set_cons_succ]), hb0, hq, hr⟩
    case s4 =>
      intro ff gg KK hK
      have f0 : l4 = false := ff
      clear ff gg
      subst f0
      simp only [cond_false]
      go_simp
      exact hK _ _ ⟨l0, l1, l2, l3, true, l5, l6, l7, l8, l9, l10, l11, l12, l13, l14, l15, l16, l17, l18, l19, l20, l21, E10, rfl, (by simp only [cond_true, List.setIfInBounds_toArray, List.set_cons_zero, List.set_cons_succ]), hb0, hq, hr⟩
    case s5 =>
      intro ff gg KK hK
      have f0 : l5 = false := ff
      clear ff gg
      subst f0
      simp only [cond_false]
      go_simp
      exact hK _ _ ⟨l0, l1, l2, l3, l4, true, l6, l7, l8, l9, l10, l11, l12, l13, l14, l15, l16, l17, l18, l19, l20, l21, E10, rfl, (by simp only [cond_true, List.setIfInBounds_toArray, List.set_cons_zero, List.set_cons_succ]), hb0, hq, hr⟩
    case s6 =>
      intro ff gg KK hK
      have t5 : l5 = true := gg ⟨5, .data⟩ (by simp) (by rfl)
      have f0 : l6 = false := ff
      clear ff gg
      subst t5
      subst f0
      simp only [cond_true, cond_false]
      have j0 := cell_later hb0 cb2
      have j1 := cell_later hb0 cb3
      go_simp
      exact hK _ _ ⟨l0, l1, l2, l3, l4, true, true, l7, l8, l9, l10, l11, l12, l13, l14, l15, l16, l17, l18, l19, l20, l21, E10, rfl, (by simp only [cond_true, List.setIfInBounds_toArray, List.set_cons_zero, List.set_cons_succ]), hb0, hq, hr⟩
    case s7 =>
      intro ff gg KK hK
      have t4 : l4 = true := gg ⟨4, .data⟩ (by simp) (by rfl)
      have t6 : l6 = true := gg ⟨6, .data⟩ (by simp) (by rfl)
      have f0 : l7 = false := ff
      clear ff gg
      subst t4 t6
      subst f0
      simp only [cond_true, cond_false]
      go_simp
      go_at_call 16
      with_reducible refine (CB.out _ _ (okAt_later hb0 ok)).mono ?_
      rintro e w' ⟨rfl, hb⟩
      exact hK _ _ ⟨l0, l1, l2, l3, true, l5, true, true, l8, l9, l10, l11, l12, l13, l14, l15, l16, l17, l18, l19, l20, l21, E10, rfl, (by simp only [cond_true, List.setIfInBounds_toArray, List.set_cons_zero, List.set_cons_succ]), bl_step hb hb0, hq, (fun t => (hr t).later hb)⟩
    case s8 =>
      intro ff gg KK hK
      have t1 : l1 = true := gg ⟨1, .data⟩ (by simp) (by rfl)
      have t3 : l3 = true := gg ⟨3, .data⟩ (by simp) (by rfl)
      have t7 : l7 = true := gg ⟨7, .data⟩ (by simp) (by rfl)
      have f0 : l8 = false := ff
      clear ff gg
      subst t1 t3 t7
      subst f0
      simp only [cond_true, cond_false]
      go_simp
      go_at_call 33
      with_reducible refine (T1.out _ _ (okAt_later hb0 ok)).mono ?_
      rintro e w' ⟨rfl, hb⟩
      exact hK _ _ ⟨l0, true, l2, true, l4, l5, l6, true, true, l9, l10, l11, l12, l13, l14, l15, l16, l17, l18, l19, l20, l21, E10, rfl, (by simp only [cond_true, List.setIfInBounds_toArray, List.set_cons_zero, List.set_cons_succ]), bl_step hb hb0, hq, (fun t => (hr t).later hb)⟩
    case s9 =>
      intro ff gg KK hK
      have f0 : l9 = false := ff
      clear ff gg
      subst f0
      simp only [cond_false]
      go_simp
      exact hK _ _ ⟨l0, l1, l2, l3, l4, l5, l6, l7, l8, true, l10, l11, l12, l13, l14, l15, l16, l17, l18, l19, l20, l21, E10, rfl, (by simp only [cond_true, List.setIfInBounds_toArray, List.set_cons_zero, List.set_cons_succ]), hb0, hq, hr⟩
    case s10 =>
      intro ff gg KK hK
      have f0 : l10 = false := ff
      clear ff gg
      subst f0
      simp only [cond_false]
      go_simp
      exact hK _ _ ⟨l0, l1, l2, l3, l4, l5, l6, l7, l8, l9, true, l11, l12, l13, l14, l15, l16, l17, l18, l19, l20, l21, E10, rfl, (by simp only [cond_true, List.setIfInBounds_toArray, List.set_cons_zero, List.set_cons_succ]), hb0, hq, hr⟩
    case s11 =>
      intro ff gg KK hK
      have t10 : l10 = true := gg ⟨10, .data⟩ (by simp) (by rfl)
      have f0 : l11 = false := ff
      clear ff gg
      subst t10
      subst f0
      simp only [cond_true, cond_false]
      have j0 := cell_later hb0 cb4
      have j1 := cell_later hb0 cb5
      go_simp
      exact hK _ _ ⟨l0, l1, l2, l3, l4, l5, l6, l7, l8, l9, true, true, l12, l13, l14, l15, l16, l17, l18, l19, l20, l21, E10, rfl, (by simp only [cond_true, List.setIfInBounds_toArray, List.set_cons_zero, List.set_cons_succ]), hb0, hq, hr⟩
    case s12 =>
      intro ff gg KK hK
      have f0 : l12 = false := ff
      clear ff gg
      subst f0
      simp only [cond_false]
      go_simp
      exact hK _ _ ⟨l0, l1, l2, l3, l4, l5, l6, l7, l8, l9, l10, l11, true, l13, l14, l15, l16, l17, l18, l19, l20, l21, E10, rfl, (by simp only [cond_true, List.setIfInBounds_toArray, List.set_cons_zero, List.set_cons_succ]), hb0, hq, hr⟩
    case s13 =>
      intro ff gg KK hK
      have f0 : l13 = false := ff
      clear ff gg
      subst f0
      simp only [cond_false]
      go_simp
      exact hK _ _ ⟨l0, l1, l2, l3, l4, l5, l6, l7, l8, l9, l10, l11, l12, true, l14, l15, l16, l17, l18, l19, l20, l21, E10, rfl, (by simp only [cond_true, List.setIfInBounds_toArray, List.set_cons_zero, List.set_cons_succ]), hb0, hq, hr⟩
    case s14 =>
      intro ff gg KK hK
      have t13 : l13 = true := gg ⟨13, .data⟩ (by simp) (by rfl)
      have f0 : l14 = false := ff
      clear ff gg
      subst t13
      subst f0
      simp only [cond_true, cond_false]
      have j0 := cell_later hb0 ca2
      have j1 := cell_later hb0 ca3
      go_simp
      exact hK _ _ ⟨l0, l1, l2, l3, l4, l5, l6, l7, l8, l9, l10, l11, l12, true, true, l15, l16, l17, l18, l19, l20, l21, E10, rfl, (by simp only [cond_true, List.setIfInBounds_toArray, List.set_cons_zero, List.set_cons_succ]), hb0, hq, hr⟩
    case s15 =>
      intro ff gg KK hK
      have t12 : l12 = true := gg ⟨12, .data⟩ (by simp) (by rfl)
      have t14 : l14 = true := gg ⟨14, .data⟩ (by simp) (by rfl)
      have t8 : l8 = true := gg ⟨8, .chain⟩ (by simp) (by rfl)
      have f0 : l15 = false := ff
      clear ff gg
      subst t12 t14 t8
      subst f0
      simp only [cond_true, cond_false]
      go_simp
      go_at_call 16
      with_reducible refine (CA.out _ _ (okAt_later hb0 ok)).mono ?_
      rintro e w' ⟨rfl, hb⟩
      exact hK _ _ ⟨l0, l1, l2, l3, l4, l5, l6, l7, true, l9, l10, l11, true, l13, true, true, l16, l17, l18, l19, l20, l21, E10, rfl, (by simp only [cond_true, List.setIfInBounds_toArray, List.set_cons_zero, List.set_cons_succ]), bl_step hb hb0, hq, (fun t => (hr t).later hb)⟩
    case s16 =>
      intro ff gg KK hK
      have t9 : l9 = true := gg ⟨9, .data⟩ (by simp) (by rfl)
      have t11 : l11 = true := gg ⟨11, .data⟩ (by simp) (by rfl)
      have t15 : l15 = true := gg ⟨15, .data⟩ (by simp) (by rfl)
      have f0 : l16 = false := ff
      clear ff gg
      subst t9 t11 t15
      subst f0
      simp only [cond_true, cond_false]
      go_simp
      go_at_call 33
      with_reducible refine (T2.out _ _ (okAt_later hb0 ok)).mono ?_
      rintro e w' ⟨rfl, hb⟩
      exact hK _ _ ⟨l0, l1, l2, l3, l4, l5, l6, l7, l8, true, l10, true, l12, l13, l14, true, true, l17, l18, l19, l20, l21, E10, rfl, (by simp only [cond_true, List.setIfInBounds_toArray, List.set_cons_zero, List.set_cons_succ]), bl_step hb hb0, hq, (fun t => (hr t).later hb)⟩
    case s17 =>
      intro ff gg KK hK
      have t8 : l8 = true := gg ⟨8, .data⟩ (by simp) (by rfl)
      have t16 : l16 = true := gg ⟨16, .data⟩ (by simp) (by rfl)
      have f0 : l17 = false := ff
      clear ff gg
      subst t8 t16
      subst f0
      simp only [cond_true, cond_false]
      go_simp
      go_at_call 32
      with_reducible refine (U1.out _).mono ?_
      rintro e w' ⟨rfl, hb⟩
      exact hK _ _ ⟨l0, l1, l2, l3, l4, l5, l6, l7, true, l9, l10, l11, l12, l13, l14, l15, true, true, l18, l19, l20, l21, E10, rfl, (by simp only [cond_true, List.setIfInBounds_toArray, List.set_cons_zero, List.set_cons_succ]), bl_step hb hb0, hq, (fun t => (hr t).later hb)⟩
    case s18 =>
      intro ff gg KK hK
      have f0 : l18 = false := ff
      clear ff gg
      subst f0
      simp only [cond_false]
      have j0 := cell_later hb0 cm0
      have j1 := cell_later hb0 cm1
      go_simp
      exact hK _ _ ⟨l0, l1, l2, l3, l4, l5, l6, l7, l8, l9, l10, l11, l12, l13, l14, l15, l16, l17, true, l19, l20, l21, E10, rfl, (by simp only [cond_true, List.setIfInBounds_toArray, List.set_cons_zero, List.set_cons_succ]), hb0, hq, hr⟩
    case s19 =>
      intro ff gg KK hK
      have t0 : l0 = true := gg ⟨0, .data⟩ (by simp) (by rfl)
      have t17 : l17 = true := gg ⟨17, .data⟩ (by simp) (by rfl)
      have t18 : l18 = true := gg ⟨18, .data⟩ (by simp) (by rfl)
      have f0 : l19 = false := ff
      clear ff gg
      subst t0 t17 t18
      subst f0
      simp only [cond_true, cond_false]
      go_simp
      go_at_call 31
      with_reducible refine (O1.out _ _ (okAt_later hb0 ok)).mono ?_
      rintro e w' ⟨rfl, hb⟩
      exact hK _ _ ⟨true, l1, l2, l3, l4, l5, l6, l7, l8, l9, l10, l11, l12, l13, l14, l15, l16, true, true, true, l20, l21, E10, rfl, (by simp only [cond_true, List.setIfInBounds_toArray, List.set_cons_zero, List.set_cons_succ]), bl_step hb hb0, hq, (fun t => (hr t).later hb)⟩
    case s20 =>
      intro ff gg KK hK
      have f0 : l20 = false := ff
      clear ff gg
      subst f0
      simp only [cond_false]
      go_simp
      exact hK _ _ ⟨l0, l1, l2, l3, l4, l5, l6, l7, l8, l9, l10, l11, l12, l13, l14, l15, l16, l17, l18, l19, true, l21, v10.heap.size, rfl, (by simp only [cond_true, List.setIfInBounds_toArray, List.set_cons_zero, List.set_cons_succ]), by (repeat (first | exact Below.refl _ _ | refine bl_drewN ?_ | refine bl_drew ?_ | refine bl_alloc ?_ _ | refine Below.setCell ?_ (by (first | (simp; done) | (simp; omega) | omega)) _ | refine bl_step (by assumption) ?_)), (fun _ => rfl), (fun _ => Room2.alloc hb0 _ _ _ _ _ _ hq)⟩
    case s21 =>
      intro ff gg KK hK
      have t20 : l20 = true := gg ⟨20, .data⟩ (by simp) (by rfl)
      have t19 : l19 = true := gg ⟨19, .data⟩ (by simp) (by rfl)
      have f0 : l21 = false := ff
      clear ff gg
      subst t20 t19
      subst f0
      simp only [cond_true]
      have rr := hr rfl
      obtain ⟨m1, m2, fz0, fz1, y0, y1, cz0, cz1, m7⟩ := rr
      go_simp
      exact hK _ _ ⟨l0, l1, l2, l3, l4, l5, l6, l7, l8, l9, l10, l11, l12, l13, l14, l15, l16, l17, l18, true, true, true, E10, rfl, (by simp only [cond_true, List.setIfInBounds_toArray, List.set_cons_zero, List.set_cons_succ]), ((hb0.setCell m1 _).setCell m1 _), (fun _ => rfl), (fun _ => (hr rfl).store _ _ _)⟩
  case hdone =>
    intro LL aa v10 h hd
    obtain ⟨l0, l1, l2, l3, l4, l5, l6, l7, l8, l9, l10, l11, l12, l13, l14, l15, l16, l17, l18, l19, l20, l21, E10, hL, ha, hb0, hq, hr⟩ := h
    rw [hL] at hd
    have t0 : l0 = true := hd 0 (by decide)
    have t1 : l1 = true := hd 1 (by decide)
    have t2 : l2 = true := hd 2 (by decide)
    have t3 : l3 = true := hd 3 (by decide)
    have t4 : l4 = true := hd 4 (by decide)
    have t5 : l5 = true := hd 5 (by decide)
    have t6 : l6 = true := hd 6 (by decide)
    have t7 : l7 = true := hd 7 (by decide)
    have t8 : l8 = true := hd 8 (by decide)
    have t9 : l9 = true := hd 9 (by decide)
    have t10 : l10 = true := hd 10 (by decide)
    have t11 : l11 = true := hd 11 (by decide)
    have t12 : l12 = true := hd 12 (by decide)
    have t13 : l13 = true := hd 13 (by decide)
    have t14 : l14 = true := hd 14 (by decide)
    have t15 : l15 = true := hd 15 (by decide)
    have t16 : l16 = true := hd 16 (by decide)
    have t17 : l17 = true := hd 17 (by decide)
    have t18 : l18 = true := hd 18 (by decide)
    have t19 : l19 = true := hd 19 (by decide)
    have t20 : l20 = true := hd 20 (by decide)
    have t21 : l21 = true := hd 21 (by decide)
    clear hd hL hq
    subst t0 t1 t2 t3 t4 t5 t6 t7 t8 t9 t10 t11 t12 t13 t14 t15 t16 t17 t18 t19 t20 t21
    simp only [cond_true, List.setIfInBounds_toArray, List.set_cons_zero, List.set_cons_succ] at ha
    subst ha
    obtain ⟨E10g, E10l, _, _, y0, y1, E10c0, E10c1, hy⟩ := hr rfl
    obtain ⟨rfl, rfl⟩ := hy rfl
    clear hr
    replace ca0 := cell_later hb0 ca0
    replace ca1 := cell_later hb0 ca1
    replace ca2 := cell_later hb0 ca2
    replace ca3 := cell_later hb0 ca3
    replace ca4 := cell_later hb0 ca4
    replace ca5 := cell_later hb0 ca5
    replace cb0 := cell_later hb0 cb0
    replace cb1 := cell_later hb0 cb1
    replace cb2 := cell_later hb0 cb2
    replace cb3 := cell_later hb0 cb3
    replace cb4 := cell_later hb0 cb4
    replace cb5 := cell_later hb0 cb5
    replace cr0 := cell_later hb0 cr0
    replace cr1 := cell_later hb0 cr1
    replace cr2 := cell_later hb0 cr2
    replace cr3 := cell_later hb0 cr3
    replace cm0 := cell_later hb0 cm0
    replace cm1 := cell_later hb0 cm1
    replace ok := okAt_later hb0 ok
    replace cg : ∀ o, v10.frozen? ⟨w.heap.size + 1 + 1, o, none⟩ = false := fun o => (hb0.frozen (p := ⟨w.heap.size + 1 + 1, o, none⟩) lr).trans (cg o)
    replace lr : w.heap.size + 1 + 1 < v10.heap.size := Nat.lt_of_lt_of_le lr hb0.size
    replace hw : Below w.heap.size w v10 := bl_step hb0 hw
    clear hb0 E10g
    go_wp2
    refine wp_region_inv (fun a0 LL aa v11 => ∃ (l0 l1 l2 l3 l4 l5 l6 l7 l8 l9 l10 l11 l12 l13 l14 l15 l16 l17 l18 l19 l20 l21 : Bool) (E11 : Nat), LL = #[l0, l1, l2, l3, l4, l5, l6, l7, l8, l9, l10, l11, l12, l13, l14, l15, l16, l17, l18, l19, l20, l21] ∧ aa = { a0 with tmps := (((((((((((((((((((((a0.tmps.setIfInBounds 75 (cond l0 (.pointer (some ⟨w1.heap.size, 0, none⟩)) undef)).setIfInBounds 76 (cond l1 (.pointer (some ⟨w1.heap.size, 0, none⟩)) undef)).setIfInBounds 77 (cond l2 (.pointer (some ⟨w.heap.size + 1, 4, none⟩)) undef)).setIfInBounds 78 (cond l3 (.agg #[.int .i64 (r), .int .i64 (s)]) undef)).setIfInBounds 79 (cond l4 (.pointer (some ⟨w1.heap.size, 0, none⟩)) undef)).setIfInBounds 80 (cond l5 (.pointer (some ⟨w.heap.size, 2, none⟩)) undef)).setIfInBounds 81 (cond l6 (.agg #[.int .i64 (a), .int .i64 (b)]) undef)).setIfInBounds 82 (cond l7 (.agg #[.int .i64 (g1), .int .i64 (g2)]) undef)).setIfInBounds 83 (cond l8 (.agg #[.int .i64 (t5), .int .i64 (t6)]) undef)).setIfInBounds 84 (cond l9 (.pointer (some ⟨w1.heap.size, 0, none⟩)) undef)).setIfInBounds 85 (cond l10 (.pointer (some ⟨w.heap.size, 4, none⟩)) undef)).setIfInBounds 86 (cond l11 (.agg #[.int .i64 (p), .int .i64 (q)]) undef)).setIfInBounds 87 (cond l12 (.pointer (some ⟨w1.heap.size, 0, none⟩)) undef)).setIfInBounds 88 (cond l13 (.pointer (some ⟨w.heap.size + 1, 2, none⟩)) undef)).setIfInBounds 89 (cond l14 (.agg #[.int .i64 (e), .int .i64 (f)]) undef)).setIfInBounds 90 (cond l15 (.agg #[.int .i64 (g3), .int .i64 (g4)]) undef)).setIfInBounds 91 (cond l16 (.agg #[.int .i64 (t7), .int .i64 (t8)]) undef)).setIfInBounds 92 (cond l17 (.agg #[.int .i64 (u3), .int .i64 (u4)]) undef)).setIfInBounds 93 (cond l18 (.agg #[.int .i64 (m), .int .i64 (n)]) undef)).setIfInBounds 94 (cond l19 (.agg #[.int .i64 (Y1), .int .i64 (Y2)]) undef)).setIfInBounds 12 (cond l20 (.pointer (some ⟨E11, 0, none⟩)) undef)) } ∧ Below v10.heap.size v10 v11 ∧ (l21 = true → l20 = true) ∧ (l20 = true → Room2 v10 v11 E11 l21 (Y1) (Y2))) (by kernel_rfl) (by kernel_rfl) ?h0 ?hsize ?hdone ?hstep
    case h0 =>
      refine ⟨false, false, false, false, false, false, false, false, false, false, false, false, false, false, false, false, false, false, false, false, false, false, 0, rfl, ?_, by (repeat (first | exact Below.refl _ _ | refine bl_drewN ?_ | refine bl_drew ?_ | refine bl_alloc ?_ _ | refine Below.setCell ?_ (by (first | (simp; done) | (simp; omega) | omega)) _ | refine bl_step (by assumption) ?_)), (fun h => by cases h), (fun h => by cases h)⟩
      simp only [cond_false, List.setIfInBounds_toArray, List.set_cons_zero, List.set_cons_succ]
    case hsize =>
      intro LL aa v11 h
      obtain ⟨l0, l1, l2, l3, l4, l5, l6, l7, l8, l9, l10, l11, l12, l13, l14, l15, l16, l17, l18, l19, l20, l21, E11, hL, _⟩ := h
      rw [hL]
      rfl
    case hstep =>
      intro LL aa v11 h
      obtain ⟨l0, l1, l2, l3, l4, l5, l6, l7, l8, l9, l10, l11, l12, l13, l14, l15, l16, l17, l18, l19, l20, l21, E11, hL, ha, hb0, hq, hr⟩ := h
      simp only [List.setIfInBounds_toArray, List.set_cons_zero, List.set_cons_succ] at ha
      subst hL
      subst ha
      refine ⟨?s0, ?s1, ?s2, ?s3, ?s4, ?s5, ?s6, ?s7, ?s8, ?s9, ?s10, ?s11, ?s12, ?s13, ?s14, ?s15, ?s16, ?s17, ?s18, ?s19, ?s20, ?s21, trivial⟩
      case s0 =>
        intro ff gg KK hK
        have f0 : l0 = false := ff
        clear ff gg
        subst f0
        simp only [cond_false]
        go_simp
        exact hK _ _ ⟨true, l1, l2, l3, l4, l5, l6, l7, l8, l9, l10, l11, l12, l13, l14, l15, l16, l17, l18, l19, l20, l21, E11, rfl, (by simp only [cond_true, List.setIfInBounds_toArray, List.set_cons_zero, List.set_cons_succ]), hb0, hq, hr⟩
      case s1 =>
        intro ff gg KK hK
        have f0 : l1 = false := ff
        clear ff gg
        subst f0
        simp only [cond_false]
        go_simp
        exact hK _ _ ⟨l0, true, l2, l3, l4, l5, l6, l7, l8, l9, l10, l11, l12, l13, l14, l15, l16, l17, l18, l19, l20, l21, E11, rfl, (by simp only [cond_true, List.setIfInBounds_toArray, List.set_cons_zero, List.set_cons_succ]), hb0, hq, hr⟩
      case s2 =>
        intro ff gg KK hK
        have f0 : l2 = false := ff
        clear ff gg
        subst f0
        simp only [cond_false]
        go_simp
        exact hK _ _ ⟨l0, l1, true, l3, l4, l5, l6, l7, l8, l9, l10, l11, l12, l13, l14, l15, l16, l17, l18, l19, l20, l21, E11, rfl, (by simp only [cond_true, List.setIfInBounds_toArray, List.set_cons_zero, List.set_cons_succ]), hb0, hq, hr⟩
      case s3 =>
        intro ff gg KK hK
        have t2 : l2 = true := gg ⟨2, .data⟩ (by simp) (by rfl)
        have f0 : l3 = false := ff
        clear ff gg
        subst t2
        subst f0
        simp only [cond_true, cond_false]
        have j0 := cell_later hb0 cb4
        have j1 := cell_later hb0 cb5
        go_simp
        exact hK _ _ ⟨l0, l1, true, true, l4, l5, l6, l7, l8, l9, l10, l11, l12, l13, l14, l15, l16, l17, l18, l19, l20, l21, E11, rfl, (by simp only [cond_true, List.setIfInBounds_toArray, List.set_cons_zero, List.set_cons_succ]), hb0, hq, hr⟩
      case s4 =>
        intro ff gg KK hK
        have f0 : l4 = false := ff
        clear ff gg
        subst f0
        simp only [cond_false]
        go_simp
        exact hK _ _ ⟨l0, l1, l2, l3, true, l5, l6, l7, l8, l9, l10, l11, l12, l13, l14, l15, l16, l17, l18, l19, l20, l21, E11, rfl, (by simp only [cond_true, List.setIfInBounds_toArray, List.set_cons_zero, List.set_cons_succ]), hb0, hq, hr⟩
      case s5 =>
        intro ff gg KK hK
        have f0 : l5 = false := ff
        clear ff gg
        subst f0
        simp only [cond_false]
        go_simp
        exact hK _ _ ⟨l0, l1, l2, l3, l4, true, l6, l7, l8, l9, l10, l11, l12, l13, l14, l15, l16, l17, l18, l19, l20, l21, E11, rfl, (by simp only [cond_true, List.setIfInBounds_toArray, List.set_cons_zero, List.set_cons_succ]), hb0, hq, hr⟩
      case s6 =>
        intro ff gg KK hK
        have t5 : l5 = true := gg ⟨5, .data⟩ (by simp) (by rfl)
        have f0 : l6 = false := ff
        clear ff gg
        subst t5
        subst f0
        simp only [cond_true, cond_false]
        have j0 := cell_later hb0 ca2
        have j1 := cell_later hb0 ca3
        go_simp
        exact hK _ _ ⟨l0, l1, l2, l3, l4, true, true, l7, l8, l9, l10, l11, l12, l13, l14, l15, l16, l17, l18, l19, l20, l21, E11, rfl, (by simp only [cond_true, List.setIfInBounds_toArray, List.set_cons_zero, List.set_cons_succ]), hb0, hq, hr⟩
      case s7 =>
        intro ff gg KK hK
        have t4 : l4 = true := gg ⟨4, .data⟩ (by simp) (by rfl)
        have t6 : l6 = true := gg ⟨6, .data⟩ (by simp) (by rfl)
        have f0 : l7 = false := ff
        clear ff gg
        subst t4 t6
        subst f0
        simp only [cond_true, cond_false]
        go_simp
        go_at_call 15
        with_reducible refine (SA.out _ _ (okAt_later hb0 ok)).mono ?_
        rintro e w' ⟨rfl, hb⟩
        exact hK _ _ ⟨l0, l1, l2, l3, true, l5, true, true, l8, l9, l10, l11, l12, l13, l14, l15, l16, l17, l18, l19, l20, l21, E11, rfl, (by simp only [cond_true, List.setIfInBounds_toArray, List.set_cons_zero, List.set_cons_succ]), bl_step hb hb0, hq, (fun t => (hr t).later hb)⟩
      case s8 =>
        intro ff gg KK hK
        have t1 : l1 = true := gg ⟨1, .data⟩ (by simp) (by rfl)
        have t3 : l3 = true := gg ⟨3, .data⟩ (by simp) (by rfl)
        have t7 : l7 = true := gg ⟨7, .data⟩ (by simp) (by rfl)
        have f0 : l8 = false := ff
        clear ff gg
        subst t1 t3 t7
        subst f0
        simp only [cond_true, cond_false]
        go_simp
        go_at_call 33
        with_reducible refine (T3.out _ _ (okAt_later hb0 ok)).mono ?_
        rintro e w' ⟨rfl, hb⟩
        exact hK _ _ ⟨l0, true, l2, true, l4, l5, l6, true, true, l9, l10, l11, l12, l13, l14, l15, l16, l17, l18, l19, l20, l21, E11, rfl, (by simp only [cond_true, List.setIfInBounds_toArray, List.set_cons_zero, List.set_cons_succ]), bl_step hb hb0, hq, (fun t => (hr t).later hb)⟩
      case s9 =>
        intro ff gg KK hK
        have f0 : l9 = false := ff
        clear ff gg
        subst f0
        simp only [cond_false]
        go_simp
        exact hK _ _ ⟨l0, l1, l2, l3, l4, l5, l6, l7, l8, true, l10, l11, l12, l13, l14, l15, l16, l17, l18, l19, l20, l21, E11, rfl, (by simp only [cond_true, List.setIfInBounds_toArray, List.set_cons_zero, List.set_cons_succ]), hb0, hq, hr⟩
      case s10 =>
        intro ff gg KK hK
        have f0 : l10 = false := ff
        clear ff gg
        subst f0
        simp only [cond_false]
        go_simp
        exact hK _ _ ⟨l0, l1, l2, l3, l4, l5, l6, l7, l8, l9, true, l11, l12, l13, l14, l15, l16, l17, l18, l19, l20, l21, E11, rfl, (by simp only [cond_true, List.setIfInBounds_toArray, List.set_cons_zero, List.set_cons_succ]), hb0, hq, hr⟩
      case s11 =>
        intro ff gg KK hK
        have t10 : l10 = true := gg ⟨10, .data⟩ (by simp) (by rfl)
        have f0 : l11 = false := ff
        clear ff gg
        subst t10
        subst f0
        simp only [cond_true, cond_false]
        have j0 := cell_later hb0 ca4
        have j1 := cell_later hb0 ca5
        go_simp
        exact hK _ _ ⟨l0, l1, l2, l3, l4, l5, l6, l7, l8, l9, true, true, l12, l13, l14, l15, l16, l17, l18, l19, l20, l21, E11, rfl, (by simp only [cond_true, List.setIfInBounds_toArray, List.set_cons_zero, List.set_cons_succ]), hb0, hq, hr⟩
      case s12 =>
        intro ff gg KK hK
        have f0 : l12 = false := ff
        clear ff gg
        subst f0
        simp only [cond_false]
        go_simp
        exact hK _ _ ⟨l0, l1, l2, l3, l4, l5, l6, l7, l8, l9, l10, l11, true, l13, l14, l15, l16, l17, l18, l19, l20, l21, E11, rfl, (by simp only [cond_true, List.setIfInBounds_toArray, List.set_cons_zero, List.set_cons_succ]), hb0, hq, hr⟩
      case s13 =>
        intro ff gg KK hK
        have f0 : l13 = false := ff
        clear ff gg
        subst f0
        simp only [cond_false]
        go_simp
        exact hK _ _ ⟨l0, l1, l2, l3, l4, l5, l6, l7, l8, l9, l10, l11, l12, true, l14, l15, l16, l17, l18, l19, l20, l21, E11, rfl, (by simp only [cond_true, List.setIfInBounds_toArray, List.set_cons_zero, List.set_cons_succ]), hb0, hq, hr⟩
      case s14 =>
        intro ff gg KK hK
        have t13 : l13 = true := gg ⟨13, .data⟩ (by simp) (by rfl)
        have f0 : l14 = false := ff
        clear ff gg
        subst t13
        subst f0
        simp only [cond_true, cond_false]
        have j0 := cell_later hb0 cb2
        have j1 := cell_later hb0 cb3
        go_simp
        exact hK _ _ ⟨l0, l1, l2, l3, l4, l5, l6, l7, l8, l9, l10, l11, l12, true, true, l15, l16, l17, l18, l19, l20, l21, E11, rfl, (by simp only [cond_true, List.setIfInBounds_toArray, List.set_cons_zero, List.set_cons_succ]), hb0, hq, hr⟩
      case s15 =>
        intro ff gg KK hK
        have t12 : l12 = true := gg ⟨12, .data⟩ (by simp) (by rfl)
        have t14 : l14 = true := gg ⟨14, .data⟩ (by simp) (by rfl)
        have t8 : l8 = true := gg ⟨8, .chain⟩ (by simp) (by rfl)
        have f0 : l15 = false := ff
        clear ff gg
        subst t12 t14 t8
        subst f0
        simp only [cond_true, cond_false]
        go_simp
        go_at_call 15
        with_reducible refine (SB.out _ _ (okAt_later hb0 ok)).mono ?_
        rintro e w' ⟨rfl, hb⟩
        exact hK _ _ ⟨l0, l1, l2, l3, l4, l5, l6, l7, true, l9, l10, l11, true, l13, true, true, l16, l17, l18, l19, l20, l21, E11, rfl, (by simp only [cond_true, List.setIfInBounds_toArray, List.set_cons_zero, List.set_cons_succ]), bl_step hb hb0, hq, (fun t => (hr t).later hb)⟩
      case s16 =>
        intro ff gg KK hK
        have t9 : l9 = true := gg ⟨9, .data⟩ (by simp) (by rfl)
        have t11 : l11 = true := gg ⟨11, .data⟩ (by simp) (by rfl)
        have t15 : l15 = true := gg ⟨15, .data⟩ (by simp) (by rfl)
        have f0 : l16 = false := ff
        clear ff gg
        subst t9 t11 t15
        subst f0
        simp only [cond_true, cond_false]
        go_simp
        go_at_call 33
        with_reducible refine (T4.out _ _ (okAt_later hb0 ok)).mono ?_
        rintro e w' ⟨rfl, hb⟩
        exact hK _ _ ⟨l0, l1, l2, l3, l4, l5, l6, l7, l8, true, l10, true, l12, l13, l14, true, true, l17, l18, l19, l20, l21, E11, rfl, (by simp only [cond_true, List.setIfInBounds_toArray, List.set_cons_zero, List.set_cons_succ]), bl_step hb hb0, hq, (fun t => (hr t).later hb)⟩
      case s17 =>
        intro ff gg KK hK
        have t8 : l8 = true := gg ⟨8, .data⟩ (by simp) (by rfl)
        have t16 : l16 = true := gg ⟨16, .data⟩ (by simp) (by rfl)
        have f0 : l17 = false := ff
        clear ff gg
        subst t8 t16
        subst f0
        simp only [cond_true, cond_false]
        go_simp
        go_at_call 32
        with_reducible refine (U2.out _).mono ?_
        rintro e w' ⟨rfl, hb⟩
        exact hK _ _ ⟨l0, l1, l2, l3, l4, l5, l6, l7, true, l9, l10, l11, l12, l13, l14, l15, true, true, l18, l19, l20, l21, E11, rfl, (by simp only [cond_true, List.setIfInBounds_toArray, List.set_cons_zero, List.set_cons_succ]), bl_step hb hb0, hq, (fun t => (hr t).later hb)⟩
      case s18 =>
        intro ff gg KK hK
        have f0 : l18 = false := ff
        clear ff gg
        subst f0
        simp only [cond_false]
        have j0 := cell_later hb0 cm0
        have j1 := cell_later hb0 cm1
        go_simp
        exact hK _ _ ⟨l0, l1, l2, l3, l4, l5, l6, l7, l8, l9, l10, l11, l12, l13, l14, l15, l16, l17, true, l19, l20, l21, E11, rfl, (by simp only [cond_true, List.setIfInBounds_toArray, List.set_cons_zero, List.set_cons_succ]), hb0, hq, hr⟩
      case s19 =>
        intro ff gg KK hK
        have t0 : l0 = true := gg ⟨0, .data⟩ (by simp) (by rfl)
        have t17 : l17 = true := gg ⟨17, .data⟩ (by simp) (by rfl)
        have t18 : l18 = true := gg ⟨18, .data⟩ (by simp) (by rfl)
        have f0 : l19 = false := ff
        clear ff gg
        subst t0 t17 t18
        subst f0
        simp only [cond_true, cond_false]
        go_simp
        go_at_call 31
        with_reducible refine (O2.out _ _ (okAt_later hb0 ok)).mono ?_
        rintro e w' ⟨rfl, hb⟩
        exact hK _ _ ⟨true, l1, l2, l3, l4, l5, l6, l7, l8, l9, l10, l11, l12, l13, l14, l15, l16, true, true, true, l20, l21, E11, rfl, (by simp only [cond_true, List.setIfInBounds_toArray, List.set_cons_zero, List.set_cons_succ]), bl_step hb hb0, hq, (fun t => (hr t).later hb)⟩
      case s20 =>
        intro ff gg KK hK
        have f0 : l20 = false := ff
        clear ff gg
        subst f0
        simp only [cond_false]
        go_simp
        exact hK _ _ ⟨l0, l1, l2, l3, l4, l5, l6, l7, l8, l9, l10, l11, l12, l13, l14, l15, l16, l17, l18, l19, true, l21, v11.heap.size, rfl, (by simp only [cond_true, List.setIfInBounds_toArray, List.set_cons_zero, List.set_cons_succ]), by (repeat (first | exact Below.refl _ _ | refine bl_drewN ?_ | refine bl_drew ?_ | refine bl_alloc ?_ _ | refine Below.setCell ?_ (by (first | (simp; done) | (simp; omega) | omega)) _ | refine bl_step (by assumption) ?_)), (fun _ => rfl), (fun _ => Room2.alloc hb0 _ _ _ _ _ _ hq)⟩
      case s21 =>
        intro ff gg KK hK
        have t20 : l20 = true := gg ⟨20, .data⟩ (by simp) (by rfl)
        have t19 : l19 = true := gg ⟨19, .data⟩ (by simp) (by rfl)
        have f0 : l21 = false := ff
        clear ff gg
        subst t20 t19
        subst f0
        simp only [cond_true]
        have rr := hr rfl
        obtain ⟨m1, m2, fz0, fz1, y0, y1, cz0, cz1, m7⟩ := rr
        go_simp
        exact hK _ _ ⟨l0, l1, l2, l3, l4, l5, l6, l7, l8, l9, l10, l11, l12, l13, l14, l15, l16, l17, l18, true, true, true, E11, rfl, (by simp only [cond_true, List.setIfInBounds_toArray, List.set_cons_zero, List.set_cons_succ]), ((hb0.setCell m1 _).setCell m1 _), (fun _ => rfl), (fun _ => (hr rfl).store _ _ _)⟩
    case hdone =>
      intro LL aa v11 h hd
      obtain ⟨l0, l1, l2, l3, l4, l5, l6, l7, l8, l9, l10, l11, l12, l13, l14, l15, l16, l17, l18, l19, l20, l21, E11, hL, ha, hb0, hq, hr⟩ := h
      rw [hL] at hd
      have t0 : l0 = true := hd 0 (by decide)
      have t1 : l1 = true := hd 1 (by decide)
      have t2 : l2 = true := hd 2 (by decide)
      have t3 : l3 = true := hd 3 (by decide)
      have t4 : l4 = true := hd 4 (by decide)
      have t5 : l5 = true := hd 5 (by decide)
      have t6 : l6 = true := hd 6 (by decide)
      have t7 : l7 = true := hd 7 (by decide)
      have t8 : l8 = true := hd 8 (by decide)
      have t9 : l9 = true := hd 9 (by decide)
      have t10 : l10 = true := hd 10 (by decide)
      have t11 : l11 = true := hd 11 (by decide)
      have t12 : l12 = true := hd 12 (by decide)
      have t13 : l13 = true := hd 13 (by decide)
      have t14 : l14 = true := hd 14 (by decide)
      have t15 : l15 = true := hd 15 (by decide)
      have t16 : l16 = true := hd 16 (by decide)
      have t17 : l17 = true := hd 17 (by decide)
      have t18 : l18 = true := hd 18 (by decide)
      have t19 : l19 = true := hd 19 (by decide)
      have t20 : l20 = true := hd 20 (by decide)
      have t21 : l21 = true := hd 21 (by decide)
      clear hd hL hq
      subst t0 t1 t2 t3 t4 t5 t6 t7 t8 t9 t10 t11 t12 t13 t14 t15 t16 t17 t18 t19 t20 t21
      simp only [cond_true, List.setIfInBounds_toArray, List.set_cons_zero, List.set_cons_succ] at ha
      subst ha
      obtain ⟨E11g, E11l, _, _, y0, y1, E11c0, E11c1, hy⟩ := hr rfl
      obtain ⟨rfl, rfl⟩ := hy rfl
      clear hr
      replace ca0 := cell_later hb0 ca0
      replace ca1 := cell_later hb0 ca1
      replace ca2 := cell_later hb0 ca2
      replace ca3 := cell_later hb0 ca3
      replace ca4 := cell_later hb0 ca4
      replace ca5 := cell_later hb0 ca5
      replace cb0 := cell_later hb0 cb0
      replace cb1 := cell_later hb0 cb1
      replace cb2 := cell_later hb0 cb2
      replace cb3 := cell_later hb0 cb3
      replace cb4 := cell_later hb0 cb4
      replace cb5 := cell_later hb0 cb5
      replace cr0 := cell_later hb0 cr0
      replace cr1 := cell_later hb0 cr1
      replace cr2 := cell_later hb0 cr2
      replace cr3 := cell_later hb0 cr3
      replace cm0 := cell_later hb0 cm0
      replace cm1 := cell_later hb0 cm1
      replace E10c0 := cell_later hb0 E10c0
      replace E10c1 := cell_later hb0 E10c1
      replace ok := okAt_later hb0 ok
      replace cg : ∀ o, v11.frozen? ⟨w.heap.size + 1 + 1, o, none⟩ = false := fun o => (hb0.frozen (p := ⟨w.heap.size + 1 + 1, o, none⟩) lr).trans (cg o)
      replace lr : w.heap.size + 1 + 1 < v11.heap.size := Nat.lt_of_lt_of_le lr hb0.size
      replace hw : Below w.heap.size w v11 := bl_step hb0 hw
      clear hb0 E11g
      have lok := okAt_lt ok
      have l10 : E10 < v11.heap.size := World.block_lt_of_cell? _ _ E10c0
      obtain ⟨ok1, ok2⟩ := id ok
      go_wp2_with ((first | (go_at_call 18; ((with_reducible refine (W1.out _).mono ?_); rintro e w' ⟨rfl, hb⟩); have nm0 := trivial) | (go_at_call 18; ((with_reducible refine (W2.out _).mono ?_); rintro e w' ⟨rfl, hb⟩); have nm1 := trivial)); (try replace hb := below_undrew hb); (try replace hb := below_undrewN hb); obtain ⟨hcell, hfroz⟩ := bcell hb; have hz := hb.size; (try simp at hz); (try (have z6 := Nat.lt_of_lt_of_le z7 hz)); (try (have z7 := Nat.lt_of_lt_of_le z8 hz)); (try (have z8 := Nat.lt_of_lt_of_le z9 hz)); (try (have z9 := Nat.lt_of_lt_of_le (Nat.lt_succ_self _) hz)); (try (have z0 : w.heap.size < w'.heap.size := by omega)); (try (have z1 : w.heap.size + 1 < w'.heap.size := by omega)); (try (have z2 : w.heap.size + 1 + 1 < w'.heap.size := by omega)); (try (have z3 : w.heap.size + 1 + 1 + 1 < w'.heap.size := by omega)); (try (have y1 : w1.heap.size < w'.heap.size := by omega)); (try (have y2 : w2.heap.size < w'.heap.size := by omega)); (try (have y4 : w4.heap.size < w'.heap.size := by omega)); (try (have y5 : w5.heap.size < w'.heap.size := by omega)); (try (have x1 : w1.heap.size + 1 < w'.heap.size := by omega)); (try (have x2 : w2.heap.size + 1 < w'.heap.size := by omega)); (try (have x4 : w4.heap.size + 1 < w'.heap.size := by omega)); (try (have x5 : w5.heap.size + 1 < w'.heap.size := by omega)); (try (have z10 : w1.heap.size < w'.heap.size + 1 := by omega)); (try (have z20 : w2.heap.size < w'.heap.size + 1 := by omega)); (try (have z40 : w4.heap.size < w'.heap.size + 1 := by omega)); (try (have z50 : w5.heap.size < w'.heap.size + 1 := by omega)); (first | (clear nm0; (have e1 : E10 < w'.heap.size := by omega); (have e2 : E11 < w'.heap.size := by omega); (have e3 : w1.heap.size < w'.heap.size := by omega); obtain ⟨w5, rfl⟩ : ∃ v, v = w' := ⟨_, rfl⟩) | (clear nm1; (have e1 : E10 < w'.heap.size := by omega); (have e2 : E11 < w'.heap.size := by omega); (have e3 : w1.heap.size < w'.heap.size := by omega); obtain ⟨w6, rfl⟩ : ∃ v, v = w' := ⟨_, rfl⟩)))
      clear ok1 ok2
      have hb13 : Below v11.heap.size v11 w6 := by (repeat (first | exact Below.refl _ _ | refine bl_drewN ?_ | refine bl_drew ?_ | refine bl_alloc ?_ _ | refine Below.setCell ?_ (by (first | (simp; done) | (simp; omega) | omega)) _ | refine bl_step (by assumption) ?_))
      clear hcell hfroz hz
      replace ca0 := cell_later hb13 ca0
      replace ca1 := cell_later hb13 ca1
      replace ca2 := cell_later hb13 ca2
      replace ca3 := cell_later hb13 ca3
      replace ca4 := cell_later hb13 ca4
      replace ca5 := cell_later hb13 ca5
      replace cb0 := cell_later hb13 cb0
      replace cb1 := cell_later hb13 cb1
      replace cb2 := cell_later hb13 cb2
      replace cb3 := cell_later hb13 cb3
      replace cb4 := cell_later hb13 cb4
      replace cb5 := cell_later hb13 cb5
      replace cr0 := cell_later hb13 cr0
      replace cr1 := cell_later hb13 cr1
      replace cr2 := cell_later hb13 cr2
      replace cr3 := cell_later hb13 cr3
      replace cm0 := cell_later hb13 cm0
      replace cm1 := cell_later hb13 cm1
      replace E10c0 := cell_later hb13 E10c0
      replace E10c1 := cell_later hb13 E10c1
      replace E11c0 := cell_later hb13 E11c0
      replace E11c1 := cell_later hb13 E11c1
      replace ok := okAt_later hb13 ok
      replace cg : ∀ o, w6.frozen? ⟨w.heap.size + 1 + 1, o, none⟩ = false := fun o => (hb13.frozen (p := ⟨w.heap.size + 1 + 1, o, none⟩) lr).trans (cg o)
      replace lr : w.heap.size + 1 + 1 < w6.heap.size := Nat.lt_of_lt_of_le lr hb13.size
      replace hw : Below w.heap.size w w6 := bl_step hb13 hw
      clear hb13
      refine wp_region_inv (fun a0 LL aa v14 => ∃ (l0 l1 l2 l3 l4 l5 l6 l7 : Bool) (E14 : Nat), LL = #[l0, l1, l2, l3, l4, l5, l6, l7] ∧ aa = { a0 with tmps := (((((((a0.tmps.setIfInBounds 118 (cond l0 (.pointer (some ⟨w.heap.size, 0, none⟩)) undef)).setIfInBounds 119 (cond l1 (.pointer (some ⟨w.heap.size, 0, none⟩)) undef)).setIfInBounds 120 (cond l2 (.int .i64 c) undef)).setIfInBounds 121 (cond l3 (.agg #[.int .i64 (c), .int .i64 (c)]) undef)).setIfInBounds 122 (cond l4 (.agg #[.int .i64 (Y1), .int .i64 (Y2)]) undef)).setIfInBounds 123 (cond l5 (.agg #[.int .i64 (N1), .int .i64 (N2)]) undef)).setIfInBounds 13 (cond l6 (.pointer (some ⟨E14, 0, none⟩)) undef)) } ∧ Below w6.heap.size w6 v14 ∧ (l7 = true → l6 = true) ∧ (l6 = true → Room2 w6 v14 E14 l7 (N1) (N2))) (by kernel_rfl) (by kernel_rfl) ?h0 ?hsize ?hdone ?hstep
      case h0 =>
        refine ⟨false, false, false, false, false, false, false, false, 0, rfl, ?_, by (repeat (first | exact Below.refl _ _ | refine bl_drewN ?_ | refine bl_drew ?_ | refine bl_alloc ?_ _ | refine Below.setCell ?_ (by (first | (simp; done) | (simp; omega) | omega)) _ | refine bl_step (by assumption) ?_)), (fun h => by cases h), (fun h => by cases h)⟩
        simp only [cond_false, List.setIfInBounds_toArray, List.set_cons_zero, List.set_cons_succ]
      case hsize =>
        intro LL aa v14 h
        obtain ⟨l0, l1, l2, l3, l4, l5, l6, l7, E14, hL, _⟩ := h
        rw [hL]
        rfl
      case hstep =>
        intro LL aa v14 h
        obtain ⟨l0, l1, l2, l3, l4, l5, l6, l7, E14, hL, ha, hb0, hq, hr⟩ := h
        simp only [List.setIfInBounds_toArray, List.set_cons_zero, List.set_cons_succ] at ha
        subst hL
        subst ha
        refine ⟨?s0, ?s1, ?s2, ?s3, ?s4, ?s5, ?s6, ?s7, trivial⟩
        case s0 =>
          intro ff gg KK hK
          have f0 : l0 = false := ff
          clear ff gg
          subst f0
          simp only [cond_false]
          go_simp
          exact hK _ _ ⟨true, l1, l2, l3, l4, l5, l6, l7, E14, rfl, (by simp only [cond_true, List.setIfInBounds_toArray, List.set_cons_zero, List.set_cons_succ]), hb0, hq, hr⟩
        case s1 =>
          intro ff gg KK hK
          have t0 : l0 = true := gg ⟨0, .data⟩ (by simp) (by rfl)
          have f0 : l1 = false := ff
          clear ff gg
          subst t0
          subst f0
          simp only [cond_true, cond_false]
          go_simp
          exact hK _ _ ⟨true, true, l2, l3, l4, l5, l6, l7, E14, rfl, (by simp only [cond_true, List.setIfInBounds_toArray, List.set_cons_zero, List.set_cons_succ]), hb0, hq, hr⟩
        case s2 =>
          intro ff gg KK hK
          have t1 : l1 = true := gg ⟨1, .data⟩ (by simp) (by rfl)
          have f0 : l2 = false := ff
          clear ff gg
          subst t1
          subst f0
          simp only [cond_true, cond_false]
          have j0 := cell_later hb0 ca0
          go_simp
          exact hK _ _ ⟨l0, true, true, l3, l4, l5, l6, l7, E14, rfl, (by simp only [cond_true, List.setIfInBounds_toArray, List.set_cons_zero, List.set_cons_succ]), hb0, hq, hr⟩
        case s3 =>
          intro ff gg KK hK
          have t2 : l2 = true := gg ⟨2, .data⟩ (by simp) (by rfl)
          have f0 : l3 = false := ff
          clear ff gg
          subst t2
          subst f0
          simp only [cond_true, cond_false]
          go_simp
          go_at_call 12
          with_reducible refine (AT1.out _).mono ?_
          rintro e w' ⟨rfl, hb⟩
          exact hK _ _ ⟨l0, l1, true, true, l4, l5, l6, l7, E14, rfl, (by simp only [cond_true, List.setIfInBounds_toArray, List.set_cons_zero, List.set_cons_succ]), bl_step hb hb0, hq, (fun t => (hr t).later hb)⟩
        case s4 =>
          intro ff gg KK hK
          have f0 : l4 = false := ff
          clear ff gg
          subst f0
          simp only [cond_false]
          have j0 := cell_later hb0 E11c0
          have j1 := cell_later hb0 E11c1
          go_simp
          exact hK _ _ ⟨l0, l1, l2, l3, true, l5, l6, l7, E14, rfl, (by simp only [cond_true, List.setIfInBounds_toArray, List.set_cons_zero, List.set_cons_succ]), hb0, hq, hr⟩
        case s5 =>
          intro ff gg KK hK
          have t3 : l3 = true := gg ⟨3, .data⟩ (by simp) (by rfl)
          have t4 : l4 = true := gg ⟨4, .data⟩ (by simp) (by rfl)
          have f0 : l5 = false := ff
          clear ff gg
          subst t3 t4
          subst f0
          simp only [cond_true, cond_false]
          go_simp
          go_at_call 34
          with_reducible refine (AD1.out _).mono ?_
          rintro e w' ⟨rfl, hb⟩
          exact hK _ _ ⟨l0, l1, l2, true, true, true, l6, l7, E14, rfl, (by simp only [cond_true, List.setIfInBounds_toArray, List.set_cons_zero, List.set_cons_succ]), bl_step hb hb0, hq, (fun t => (hr t).later hb)⟩
        case s6 =>
          intro ff gg KK hK
          have f0 : l6 = false := ff
          clear ff gg
          subst f0
          simp only [cond_false]
          go_simp
          exact hK _ _ ⟨l0, l1, l2, l3, l4, l5, true, l7, v14.heap.size, rfl, (by simp only [cond_true, List.setIfInBounds_toArray, List.set_cons_zero, List.set_cons_succ]), by (repeat (first | exact Below.refl _ _ | refine bl_drewN ?_ | refine bl_drew ?_ | refine bl_alloc ?_ _ | refine Below.setCell ?_ (by (first | (simp; done) | (simp; omega) | omega)) _ | refine bl_step (by assumption) ?_)), (fun _ => rfl), (fun _ => Room2.alloc hb0 _ _ _ _ _ _ hq)⟩
        case s7 =>
          intro ff gg KK hK
          have t6 : l6 = true := gg ⟨6, .data⟩ (by simp) (by rfl)
          have t5 : l5 = true := gg ⟨5, .data⟩ (by simp) (by rfl)
          have f0 : l7 = false := ff
          clear ff gg
          subst t6 t5
          subst f0
          simp only [cond_true]
          have rr := hr rfl
          obtain ⟨m1, m2, fz0, fz1, y0, y1, cz0, cz1, m7⟩ := rr
          go_simp
          exact hK _ _ ⟨l0, l1, l2, l3, l4, true, true, true, E14, rfl, (by simp only [cond_true, List.setIfInBounds_toArray, List.set_cons_zero, List.set_cons_succ]), ((hb0.setCell m1 _).setCell m1 _), (fun _ => rfl), (fun _ => (hr rfl).store _ _ _)⟩
      case hdone =>
        intro LL aa v14 h hd
        obtain ⟨l0, l1, l2, l3, l4, l5, l6, l7, E14, hL, ha, hb0, hq, hr⟩ := h
        rw [hL] at hd
        have t0 : l0 = true := hd 0 (by decide)
        have t1 : l1 = true := hd 1 (by decide)
        have t2 : l2 = true := hd 2 (by decide)
        have t3 : l3 = true := hd 3 (by decide)
        have t4 : l4 = true := hd 4 (by decide)
        have t5 : l5 = true := hd 5 (by decide)
        have t6 : l6 = true := hd 6 (by decide)
        have t7 : l7 = true := hd 7 (by decide)
        clear hd hL hq
        subst t0 t1 t2 t3 t4 t5 t6 t7
        simp only [cond_true, List.setIfInBounds_toArray, List.set_cons_zero, List.set_cons_succ] at ha
        subst ha
        obtain ⟨E14g, E14l, _, _, y0, y1, E14c0, E14c1, hy⟩ := hr rfl
        obtain ⟨rfl, rfl⟩ := hy rfl
        clear hr
        have n14 : E14 ≠ w.heap.size + 1 + 1 := by omega
        replace ca0 := cell_later hb0 ca0
        replace ca1 := cell_later hb0 ca1
        replace ca2 := cell_later hb0 ca2
        replace ca3 := cell_later hb0 ca3
        replace ca4 := cell_later hb0 ca4
        replace ca5 := cell_later hb0 ca5
        replace cb0 := cell_later hb0 cb0
        replace cb1 := cell_later hb0 cb1
        replace cb2 := cell_later hb0 cb2
        replace cb3 := cell_later hb0 cb3
        replace cb4 := cell_later hb0 cb4
        replace cb5 := cell_later hb0 cb5
        replace cr0 := cell_later hb0 cr0
        replace cr1 := cell_later hb0 cr1
        replace cr2 := cell_later hb0 cr2
        replace cr3 := cell_later hb0 cr3
        replace cm0 := cell_later hb0 cm0
        replace cm1 := cell_later hb0 cm1
        replace E10c0 := cell_later hb0 E10c0
        replace E10c1 := cell_later hb0 E10c1
        replace E11c0 := cell_later hb0 E11c0
        replace E11c1 := cell_later hb0 E11c1
        replace ok := okAt_later hb0 ok
        replace cg : ∀ o, v14.frozen? ⟨w.heap.size + 1 + 1, o, none⟩ = false := fun o => (hb0.frozen (p := ⟨w.heap.size + 1 + 1, o, none⟩) lr).trans (cg o)
        replace lr : w.heap.size + 1 + 1 < v14.heap.size := Nat.lt_of_lt_of_le lr hb0.size
        replace hw : Below w.heap.size w v14 := bl_step hb0 hw
        clear hb0 E14g
        have lok := okAt_lt ok
        have l10 : E10 < v14.heap.size := World.block_lt_of_cell? _ _ E10c0
        have l11 : E11 < v14.heap.size := World.block_lt_of_cell? _ _ E11c0
        obtain ⟨ok1, ok2⟩ := id ok
        go_wp2_with (go_at_call 35; ((with_reducible refine (AL.out _).mono ?_); rintro e w' ⟨rfl, hb⟩); (try replace hb := below_undrew hb); (try replace hb := below_undrewN hb); obtain ⟨hcell, hfroz⟩ := bcell hb; have hz := hb.size; (try simp at hz); (try (have z6 := Nat.lt_of_lt_of_le z7 hz)); (try (have z7 := Nat.lt_of_lt_of_le z8 hz)); (try (have z8 := Nat.lt_of_lt_of_le z9 hz)); (try (have z9 := Nat.lt_of_lt_of_le (Nat.lt_succ_self _) hz)); (try (have z0 : w.heap.size < w'.heap.size := by omega)); (try (have z1 : w.heap.size + 1 < w'.heap.size := by omega)); (try (have z2 : w.heap.size + 1 + 1 < w'.heap.size := by omega)); (try (have z3 : w.heap.size + 1 + 1 + 1 < w'.heap.size := by omega)); (try (have y1 : w1.heap.size < w'.heap.size := by omega)); (try (have y2 : w2.heap.size < w'.heap.size := by omega)); (try (have y4 : w4.heap.size < w'.heap.size := by omega)); (try (have y5 : w5.heap.size < w'.heap.size := by omega)); (try (have y6 : w6.heap.size < w'.heap.size := by omega)); (try (have x1 : w1.heap.size + 1 < w'.heap.size := by omega)); (try (have x2 : w2.heap.size + 1 < w'.heap.size := by omega)); (try (have x4 : w4.heap.size + 1 < w'.heap.size := by omega)); (try (have x5 : w5.heap.size + 1 < w'.heap.size := by omega)); (try (have x6 : w6.heap.size + 1 < w'.heap.size := by omega)); (try (have z10 : w1.heap.size < w'.heap.size + 1 := by omega)); (try (have z20 : w2.heap.size < w'.heap.size + 1 := by omega)); (try (have z40 : w4.heap.size < w'.heap.size + 1 := by omega)); (try (have z50 : w5.heap.size < w'.heap.size + 1 := by omega)); (try (have z60 : w6.heap.size < w'.heap.size + 1 := by omega)); (have e1 : E10 < w'.heap.size := by omega); (have e2 : E11 < w'.heap.size := by omega); (have e3 : w1.heap.size < w'.heap.size := by omega); (have e4 : E14 < w'.heap.size := by omega); obtain ⟨w7, rfl⟩ : ∃ v, v = w' := ⟨_, rfl⟩)
        clear ok1 ok2
        have hb15 : Below v14.heap.size v14 w7 := by (repeat (first | exact Below.refl _ _ | refine bl_drewN ?_ | refine bl_drew ?_ | refine bl_alloc ?_ _ | refine Below.setCell ?_ (by (first | (simp; done) | (simp; omega) | omega)) _ | refine bl_step (by assumption) ?_))
        clear hcell hfroz hz
        replace ca0 := cell_later hb15 ca0
        replace ca1 := cell_later hb15 ca1
        replace ca2 := cell_later hb15 ca2
        replace ca3 := cell_later hb15 ca3
        replace ca4 := cell_later hb15 ca4
        replace ca5 := cell_later hb15 ca5
        replace cb0 := cell_later hb15 cb0
        replace cb1 := cell_later hb15 cb1
        replace cb2 := cell_later hb15 cb2
        replace cb3 := cell_later hb15 cb3
        replace cb4 := cell_later hb15 cb4
        replace cb5 := cell_later hb15 cb5
        replace cr0 := cell_later hb15 cr0
        replace cr1 := cell_later hb15 cr1
        replace cr2 := cell_later hb15 cr2
        replace cr3 := cell_later hb15 cr3
        replace cm0 := cell_later hb15 cm0
        replace cm1 := cell_later hb15 cm1
        replace E10c0 := cell_later hb15 E10c0
        replace E10c1 := cell_later hb15 E10c1
        replace E11c0 := cell_later hb15 E11c0
        replace E11c1 := cell_later hb15 E11c1
        replace E14c0 := cell_later hb15 E14c0
        replace E14c1 := cell_later hb15 E14c1
        replace ok := okAt_later hb15 ok
        replace cg : ∀ o, w7.frozen? ⟨w.heap.size + 1 + 1, o, none⟩ = false := fun o => (hb15.frozen (p := ⟨w.heap.size + 1 + 1, o, none⟩) lr).trans (cg o)
        replace lr : w.heap.size + 1 + 1 < w7.heap.size := Nat.lt_of_lt_of_le lr hb15.size
        replace hw : Below w.heap.size w w7 := bl_step hb15 hw
        clear hb15
        refine wp_region_inv (fun a0 LL aa v17 => ∃ (l0 l1 l2 l3 l4 l5 l6 l7 l8 l9 l10 l11 l12 l13 l14 l15 : Bool) (E17 : Nat), LL = #[l0, l1, l2, l3, l4, l5, l6, l7, l8, l9, l10, l11, l12, l13, l14, l15] ∧ aa = { a0 with tmps := (((((((((((((((a0.tmps.setIfInBounds 135 (cond l0 (.pointer (some ⟨w.heap.size, 0, none⟩)) undef)).setIfInBounds 136 (cond l1 (.pointer (some ⟨w.heap.size, 1, none⟩)) undef)).setIfInBounds 137 (cond l2 (.int .i64 d) undef)).setIfInBounds 138 (cond l3 (.agg #[.int .i64 (d), .int .i64 (d)]) undef)).setIfInBounds 139 (cond l4 (.pointer (some ⟨w1.heap.size, 0, none⟩)) undef)).setIfInBounds 140 (cond l5 (.agg #[.int .i64 (X1), .int .i64 (X2)]) undef)).setIfInBounds 141 (cond l6 (.pointer (some ⟨w1.heap.size, 0, none⟩)) undef)).setIfInBounds 142 (cond l7 (.pointer (some ⟨w.heap.size, 0, none⟩)) undef)).setIfInBounds 143 (cond l8 (.pointer (some ⟨w.heap.size, 0, none⟩)) undef)).setIfInBounds 144 (cond l9 (.int .i64 c) undef)).setIfInBounds 145 (cond l10 (.agg #[.int .i64 (c), .int .i64 (c)]) undef)).setIfInBounds 146 (cond l11 (.agg #[.int .i64 (k5), .int .i64 (k6)]) undef)).setIfInBounds 147 (cond l12 (.agg #[.int .i64 (E1), .int .i64 (E2)]) undef)).setIfInBounds 148 (cond l13 (.agg #[.int .i64 (M1), .int .i64 (M2)]) undef)).setIfInBounds 14 (cond l14 (.pointer (some ⟨E17, 0, none⟩)) undef)) } ∧ Below w7.heap.size w7 v17 ∧ (l15 = true → l14 = true) ∧ (l14 = true → Room2 w7 v17 E17 l15 (M1) (M2))) (by kernel_rfl) (by kernel_rfl) ?h0 ?hsize ?hdone ?hstep
        case h0 =>
          refine ⟨false, false, false, false, false, false, false, false, false, false, false, false, false, false, false, false, 0, rfl, ?_, by (repeat (first | exact Below.refl _ _ | refine bl_drewN ?_ | refine bl_drew ?_ | refine bl_alloc ?_ _ | refine Below.setCell ?_ (by (first | (simp; done) | (simp; omega) | omega)) _ | refine bl_step (by assumption) ?_)), (fun h => by cases h), (fun h => by cases h)⟩
          simp only [cond_false, List.setIfInBounds_toArray, List.set_cons_zero, List.set_cons_succ]
        case hsize =>
          intro LL aa v17 h
          obtain ⟨l0, l1, l2, l3, l4, l5, l6, l7, l8, l9, l10, l11, l12, l13, l14, l15, E17, hL, _⟩ := h
          rw [hL]
          rfl
        case hstep =>
          intro LL aa v17 h
          obtain ⟨l0, l1, l2, l3, l4, l5, l6, l7, l8, l9, l10, l11, l12, l13, l14, l15, E17, hL, ha, hb0, hq, hr⟩ := h
          simp only [List.setIfInBounds_toArray, List.set_cons_zero, List.set_cons_succ] at ha
          subst hL
          subst ha
          refine ⟨?s0, ?s1, ?s2, ?s3, ?s4, ?s5, ?s6, ?s7, ?s8, ?s9, ?s10, ?s11, ?s12, ?s13, ?s14, ?s15, trivial⟩
          case s0 =>
            intro ff gg KK hK
            have f0 : l0 = false := ff
            clear ff gg
            subst f0
            simp only [cond_false]
            go_simp
            exact hK _ _ ⟨true, l1, l2, l3, l4, l5, l6, l7, l8, l9, l10, l11, l12, l13, l14, l15, E17, rfl, (by simp only [cond_true, List.setIfInBounds_toArray, List.set_cons_zero, List.set_cons_succ]), hb0, hq, hr⟩
          case s1 =>
            intro ff gg KK hK
            have t0 : l0 = true := gg ⟨0, .data⟩ (by simp) (by rfl)
            have f0 : l1 = false := ff
            clear ff gg
            subst t0
            subst f0
            simp only [cond_true, cond_false]
            go_simp
            exact hK _ _ ⟨true, true, l2, l3, l4, l5, l6, l7, l8, l9, l10, l11, l12, l13, l14, l15, E17, rfl, (by simp only [cond_true, List.setIfInBounds_toArray, List.set_cons_zero, List.set_cons_succ]), hb0, hq, hr⟩
          case s2 =>
            intro ff gg KK hK
            have t1 : l1 = true := gg ⟨1, .data⟩ (by simp) (by rfl)
            have f0 : l2 = false := ff
            clear ff gg
            subst t1
            subst f0
            simp only [cond_true, cond_false]
            have j0 := cell_later hb0 ca1
            go_simp
            exact hK _ _ ⟨l0, true, true, l3, l4, l5, l6, l7, l8, l9, l10, l11, l12, l13, l14, l15, E17, rfl, (by simp only [cond_true, List.setIfInBounds_toArray, List.set_cons_zero, List.set_cons_succ]), hb0, hq, hr⟩
          case s3 =>
            intro ff gg KK hK
            have t2 : l2 = true := gg ⟨2, .data⟩ (by simp) (by rfl)
            have f0 : l3 = false := ff
            clear ff gg
            subst t2
            subst f0
            simp only [cond_true, cond_false]
            go_simp
            go_at_call 12
            with_reducible refine (AT2.out _).mono ?_
            rintro e w' ⟨rfl, hb⟩
            exact hK _ _ ⟨l0, l1, true, true, l4, l5, l6, l7, l8, l9, l10, l11, l12, l13, l14, l15, E17, rfl, (by simp only [cond_true, List.setIfInBounds_toArray, List.set_cons_zero, List.set_cons_succ]), bl_step hb hb0, hq, (fun t => (hr t).later hb)⟩
          case s4 =>
            intro ff gg KK hK
            have f0 : l4 = false := ff
            clear ff gg
            subst f0
            simp only [cond_false]
            go_simp
            exact hK _ _ ⟨l0, l1, l2, l3, true, l5, l6, l7, l8, l9, l10, l11, l12, l13, l14, l15, E17, rfl, (by simp only [cond_true, List.setIfInBounds_toArray, List.set_cons_zero, List.set_cons_succ]), hb0, hq, hr⟩
          case s5 =>
            intro ff gg KK hK
            have f0 : l5 = false := ff
            clear ff gg
            subst f0
            simp only [cond_false]
            have j0 := cell_later hb0 E10c0
            have j1 := cell_later hb0 E10c1
            go_simp
            exact hK _ _ ⟨l0, l1, l2, l3, l4, true, l6, l7, l8, l9, l10, l11, l12, l13, l14, l15, E17, rfl, (by simp only [cond_true, List.setIfInBounds_toArray, List.set_cons_zero, List.set_cons_succ]), hb0, hq, hr⟩
          case s6 =>
            intro ff gg KK hK
            have f0 : l6 = false := ff
            clear ff gg
            subst f0
            simp only [cond_false]
            go_simp
            exact hK _ _ ⟨l0, l1, l2, l3, l4, l5, true, l7, l8, l9, l10, l11, l12, l13, l14, l15, E17, rfl, (by simp only [cond_true, List.setIfInBounds_toArray, List.set_cons_zero, List.set_cons_succ]), hb0, hq, hr⟩
          case s7 =>
            intro ff gg KK hK
            have f0 : l7 = false := ff
            clear ff gg
            subst f0
            simp only [cond_false]
            go_simp
            exact hK _ _ ⟨l0, l1, l2, l3, l4, l5, l6, true, l8, l9, l10, l11, l12, l13, l14, l15, E17, rfl, (by simp only [cond_true, List.setIfInBounds_toArray, List.set_cons_zero, List.set_cons_succ]), hb0, hq, hr⟩
          case s8 =>
            intro ff gg KK hK
            have t7 : l7 = true := gg ⟨7, .data⟩ (by simp) (by rfl)
            have f0 : l8 = false := ff
            clear ff gg
            subst t7
            subst f0
            simp only [cond_true, cond_false]
            go_simp
            exact hK _ _ ⟨l0, l1, l2, l3, l4, l5, l6, true, true, l9, l10, l11, l12, l13, l14, l15, E17, rfl, (by simp only [cond_true, List.setIfInBounds_toArray, List.set_cons_zero, List.set_cons_succ]), hb0, hq, hr⟩
          case s9 =>
            intro ff gg KK hK
            have t8 : l8 = true := gg ⟨8, .data⟩ (by simp) (by rfl)
            have f0 : l9 = false := ff
            clear ff gg
            subst t8
            subst f0
            simp only [cond_true, cond_false]
            have j0 := cell_later hb0 ca0
            go_simp
            exact hK _ _ ⟨l0, l1, l2, l3, l4, l5, l6, l7, true, true, l10, l11, l12, l13, l14, l15, E17, rfl, (by simp only [cond_true, List.setIfInBounds_toArray, List.set_cons_zero, List.set_cons_succ]), hb0, hq, hr⟩
          case s10 =>
            intro ff gg KK hK
            have t9 : l9 = true := gg ⟨9, .data⟩ (by simp) (by rfl)
            have t3 : l3 = true := gg ⟨3, .chain⟩ (by simp) (by rfl)
            have f0 : l10 = false := ff
            clear ff gg
            subst t9 t3
            subst f0
            simp only [cond_true, cond_false]
            go_simp
            go_at_call 12
            with_reducible refine (AT1.out _).mono ?_
            rintro e w' ⟨rfl, hb⟩
            exact hK _ _ ⟨l0, l1, l2, true, l4, l5, l6, l7, l8, true, true, l11, l12, l13, l14, l15, E17, rfl, (by simp only [cond_true, List.setIfInBounds_toArray, List.set_cons_zero, List.set_cons_succ]), bl_step hb hb0, hq, (fun t => (hr t).later hb)⟩
          case s11 =>
            intro ff gg KK hK
            have t6 : l6 = true := gg ⟨6, .data⟩ (by simp) (by rfl)
            have t10 : l10 = true := gg ⟨10, .data⟩ (by simp) (by rfl)
            have f0 : l11 = false := ff
            clear ff gg
            subst t6 t10
            subst f0
            simp only [cond_true, cond_false]
            go_simp
            go_at_call 16
            with_reducible refine (CC.out _ _ (okAt_later hb0 ok)).mono ?_
            rintro e w' ⟨rfl, hb⟩
            exact hK _ _ ⟨l0, l1, l2, l3, l4, l5, true, l7, l8, l9, true, true, l12, l13, l14, l15, E17, rfl, (by simp only [cond_true, List.setIfInBounds_toArray, List.set_cons_zero, List.set_cons_succ]), bl_step hb hb0, hq, (fun t => (hr t).later hb)⟩
          case s12 =>
            intro ff gg KK hK
            have t4 : l4 = true := gg ⟨4, .data⟩ (by simp) (by rfl)
            have t5 : l5 = true := gg ⟨5, .data⟩ (by simp) (by rfl)
            have t11 : l11 = true := gg ⟨11, .data⟩ (by simp) (by rfl)
            have f0 : l12 = false := ff
            clear ff gg
            subst t4 t5 t11
            subst f0
            simp only [cond_true, cond_false]
            go_simp
            go_at_call 31
            with_reducible refine (O3.out _ _ (okAt_later hb0 ok)).mono ?_
            rintro e w' ⟨rfl, hb⟩
            exact hK _ _ ⟨l0, l1, l2, l3, true, true, l6, l7, l8, l9, l10, true, true, l13, l14, l15, E17, rfl, (by simp only [cond_true, List.setIfInBounds_toArray, List.set_cons_zero, List.set_cons_succ]), bl_step hb hb0, hq, (fun t => (hr t).later hb)⟩
          case s13 =>
            intro ff gg KK hK
            have t3 : l3 = true := gg ⟨3, .data⟩ (by simp) (by rfl)
            have t12 : l12 = true := gg ⟨12, .data⟩ (by simp) (by rfl)
            have f0 : l13 = false := ff
            clear ff gg
            subst t3 t12
            subst f0
            simp only [cond_true, cond_false]
            go_simp
            go_at_call 34
            with_reducible refine (AD2.out _).mono ?_
            rintro e w' ⟨rfl, hb⟩
            exact hK _ _ ⟨l0, l1, l2, true, l4, l5, l6, l7, l8, l9, l10, l11, true, true, l14, l15, E17, rfl, (by simp only [cond_true, List.setIfInBounds_toArray, List.set_cons_zero, List.set_cons_succ]), bl_step hb hb0, hq, (fun t => (hr t).later hb)⟩
          case s14 =>
            intro ff gg KK hK
            have f0 : l14 = false := ff
            clear ff gg
            subst f0
            simp only [cond_false]
            go_simp
            exact hK _ _ ⟨l0, l1, l2, l3, l4, l5, l6, l7, l8, l9, l10, l11, l12, l13, true, l15, v17.heap.size, rfl, (by simp only [cond_true, List.setIfInBounds_toArray, List.set_cons_zero, List.set_cons_succ]), by (repeat (first | exact Below.refl _ _ | refine bl_drewN ?_ | refine bl_drew ?_ | refine bl_alloc ?_ _ | refine Below.setCell ?_ (by (first | (simp; done) | (simp; omega) | omega)) _ | refine bl_step (by assumption) ?_)), (fun _ => rfl), (fun _ => Room2.alloc hb0 _ _ _ _ _ _ hq)⟩
          case s15 =>
            intro ff gg KK hK
            have t14 : l14 = true := gg ⟨14, .data⟩ (by simp) (by rfl)
            have t13 : l13 = true := gg ⟨13, .data⟩ (by simp) (by rfl)
            have f0 : l15 = false := ff
            clear ff gg
            subst t14 t13
            subst f0
            simp only [cond_true]
            have rr := hr rfl
            obtain ⟨m1, m2, fz0, fz1, y0, y1, cz0, cz1, m7⟩ := rr
            go_simp
            exact hK _ _ ⟨l0, l1, l2, l3, l4, l5, l6, l7, l8, l9, l10, l11, l12, true, true, true, E17, rfl, (by simp only [cond_true, List.setIfInBounds_toArray, List.set_cons_zero, List.set_cons_succ]), ((hb0.setCell m1 _).setCell m1 _), (fun _ => rfl), (fun _ => (hr rfl).store _ _ _)⟩
        case hdone =>
          intro LL aa v17 h hd
          obtain ⟨l0, l1, l2, l3, l4, l5, l6, l7, l8, l9, l10, l11, l12, l13, l14, l15, E17, hL, ha, hb0, hq, hr⟩ := h
          rw [hL] at hd
          have t0 : l0 = true := hd 0 (by decide)
          have t1 : l1 = true := hd 1 (by decide)
          have t2 : l2 = true := hd 2 (by decide)
          have t3 : l3 = true := hd 3 (by decide)
          have t4 : l4 = true := hd 4 (by decide)
          have t5 : l5 = true := hd 5 (by decide)
          have t6 : l6 = true := hd 6 (by decide)
          have t7 : l7 = true := hd 7 (by decide)
          have t8 : l8 = true := hd 8 (by decide)
          have t9 : l9 = true := hd 9 (by decide)
          have t10 : l10 = true := hd 10 (by decide)
          have t11 : l11 = true := hd 11 (by decide)
          have t12 : l12 = true := hd 12 (by decide)
          have t13 : l13 = true := hd 13 (by decide)
          have t14 : l14 = true := hd 14 (by decide)
          have t15 : l15 = true := hd 15 (by decide)
          clear hd hL hq
          subst t0 t1 t2 t3 t4 t5 t6 t7 t8 t9 t10 t11 t12 t13 t14 t15
          simp only [cond_true, List.setIfInBounds_toArray, List.set_cons_zero, List.set_cons_succ] at ha
          subst ha
          obtain ⟨E17g, E17l, _, _, y0, y1, E17c0, E17c1, hy⟩ := hr rfl
          obtain ⟨rfl, rfl⟩ := hy rfl
          clear hr
          have n17 : E17 ≠ w.heap.size + 1 + 1 := by omega
          replace ca0 := cell_later hb0 ca0
          replace ca1 := cell_later hb0 ca1
          replace ca2 := cell_later hb0 ca2
          replace ca3 := cell_later hb0 ca3
          replace ca4 := cell_later hb0 ca4
          replace ca5 := cell_later hb0 ca5
          replace cb0 := cell_later hb0 cb0
          replace cb1 := cell_later hb0 cb1
          replace cb2 := cell_later hb0 cb2
          replace cb3 := cell_later hb0 cb3
          replace cb4 := cell_later hb0 cb4
          replace cb5 := cell_later hb0 cb5
          replace cr0 := cell_later hb0 cr0
          replace cr1 := cell_later hb0 cr1
          replace cr2 := cell_later hb0 cr2
          replace cr3 := cell_later hb0 cr3
          replace cm0 := cell_later hb0 cm0
          replace cm1 := cell_later hb0 cm1
          replace E10c0 := cell_later hb0 E10c0
          replace E10c1 := cell_later hb0 E10c1
          replace E11c0 := cell_later hb0 E11c0
          replace E11c1 := cell_later hb0 E11c1
          replace E14c0 := cell_later hb0 E14c0
          replace E14c1 := cell_later hb0 E14c1
          replace ok := okAt_later hb0 ok
          replace cg : ∀ o, v17.frozen? ⟨w.heap.size + 1 + 1, o, none⟩ = false := fun o => (hb0.frozen (p := ⟨w.heap.size + 1 + 1, o, none⟩) lr).trans (cg o)
          replace lr : w.heap.size + 1 + 1 < v17.heap.size := Nat.lt_of_lt_of_le lr hb0.size
          replace hw : Below w.heap.size w v17 := bl_step hb0 hw
          clear hb0 E17g
          have lok := okAt_lt ok
          obtain ⟨ok1, ok2⟩ := id ok
          go_wp2
          have l14 : E14 < v17.heap.size := World.block_lt_of_cell? _ _ E14c0
          have l17 : E17 < v17.heap.size := World.block_lt_of_cell? _ _ E17c0
          go_region_held3 (fun v => Below w.heap.size w v ∧ (∀ b o, b ≠ w.heap.size + 1 + 1 → b < v17.heap.size → v.cell? ⟨b, o, none⟩ = v17.cell? ⟨b, o, none⟩) ∧ (∀ b o, b < v17.heap.size → v.frozen? ⟨b, o, none⟩ = v17.frozen? ⟨b, o, none⟩)) (first | exact held5_start (by assumption) | (refine held5_of (by assumption) ?_; (repeat (first | exact Below.refl _ _ | refine bl_drewN ?_ | refine bl_drew ?_ | refine bl_alloc ?_ _ | refine Below.setCell ?_ (by (first | (simp; done) | (simp; omega) | omega)) _ | refine bl_step (by assumption) ?_)); done) | (refine held5_store4 (by assumption) ?_ (by omega) _ _ _ _; (repeat (first | exact Below.refl _ _ | refine bl_drewN ?_ | refine bl_drew ?_ | refine bl_alloc ?_ _ | refine Below.setCell ?_ (by (first | (simp; done) | (simp; omega) | omega)) _ | refine bl_step (by assumption) ?_)); done)) ((go_at_call 36; ((with_reducible refine (LG.out _).mono ?_); rintro e w' ⟨rfl, hb⟩); (try replace hb := below_undrew hb); (try replace hb := below_undrewN hb); obtain ⟨hcell, hfroz⟩ := bcell hb; have hz := hb.size; (try simp at hz); (try (have z6 := Nat.lt_of_lt_of_le z7 hz)); (try (have z7 := Nat.lt_of_lt_of_le z8 hz)); (try (have z8 := Nat.lt_of_lt_of_le z9 hz)); (try (have z9 := Nat.lt_of_lt_of_le (Nat.lt_succ_self _) hz)); (try (have z0 : w.heap.size < w'.heap.size := by omega)); (try (have z1 : w.heap.size + 1 < w'.heap.size := by omega)); (try (have z2 : w.heap.size + 1 + 1 < w'.heap.size := by omega)); (try (have z3 : w.heap.size + 1 + 1 + 1 < w'.heap.size := by omega)); (try (have y1 : w1.heap.size < w'.heap.size := by omega)); (try (have y2 : w2.heap.size < w'.heap.size := by omega)); (try (have y4 : w4.heap.size < w'.heap.size := by omega)); (try (have y5 : w5.heap.size < w'.heap.size := by omega)); (try (have y6 : w6.heap.size < w'.heap.size := by omega)); (try (have x1 : w1.heap.size + 1 < w'.heap.size := by omega)); (try (have x2 : w2.heap.size + 1 < w'.heap.size := by omega)); (try (have x4 : w4.heap.size + 1 < w'.heap.size := by omega)); (try (have x5 : w5.heap.size + 1 < w'.heap.size := by omega)); (try (have x6 : w6.heap.size + 1 < w'.heap.size := by omega)); (try (have y7 : w7.heap.size < w'.heap.size := by omega)); (try (have z10 : w1.heap.size < w'.heap.size + 1 := by omega)); (try (have z20 : w2.heap.size < w'.heap.size + 1 := by omega)); (try (have z40 : w4.heap.size < w'.heap.size + 1 := by omega)); (try (have z50 : w5.heap.size < w'.heap.size + 1 := by omega)); (try (have z60 : w6.heap.size < w'.heap.size + 1 := by omega)); (try (have z70 : w7.heap.size < w'.heap.size + 1 := by omega))))
          go_wp2
          exact bodyPost_ret (v := .tuple #[.agg #[.int .i64 N1, .int .i64 N2, .int .i64 R1, .int .i64 R2], .int .i64 0]) (by first | (simp only [results, Tryz.results9]; go_simp; done) | simp [results, Tryz.results9, go_sem, *]) rfl ⟨rfl, by (repeat (first | (with_reducible exact Below.refl _ _) | (with_reducible refine Below.setCell ?_ (by (first | (simp; done) | (simp; omega) | omega)) _) | (with_reducible refine bl_alloc ?_ _) | (with_reducible refine bl_drewN ?_) | (with_reducible refine bl_drew ?_) | (with_reducible refine bl_step (by assumption) ?_)))⟩

end Go.Proofs.YtjceofmhodcefaaGreat
