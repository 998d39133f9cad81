/- Several small texts in one: XCsA, XCsB. -/
import Derived.Test.YtdhbeoahpfimbaaGreatGr
import Derived.Test.YtdhbeoahpfimbaaGreatAg
import Derived.Test.YtdhbeoahpfimbaaGreatRa
import Derived.BigQuiet
namespace Go.Proofs.YtdhbeoahpfimbaaGreat
open Go.RowKit
theorem cckeep_any (a b : Int) (B1 : Nat) (w : World) (h : okAt w B1) :
    Calls Tryz.prog 257 #[.pointer (some ⟨B1, 0, none⟩), .agg #[.int .i64 a, .int .i64 b], .int .i64 0] w fun e w' => e = .returned (.agg #[.int .i64 a, .int .i64 b]) ∧ Below w.heap.size w w' := by
  have hB := okAt_lt h
  have h4 : B1 < w.heap.size + 1 := (by omega)
  have h5 : B1 < w.heap.size + 1 + 1 := (by omega)
  obtain ⟨h1, h2⟩ := h
  have hs : ((w.alloc (Obj.cells #[.int .i64 a, .int .i64 b] 52)).alloc (Obj.cells #[.int .i64 0, .int .i64 0] 52)).setCell ⟨B1, 0, none⟩ (.int .i64 0) = (w.alloc (Obj.cells #[.int .i64 a, .int .i64 b] 52)).alloc (Obj.cells #[.int .i64 0, .int .i64 0] 52) := setCell_self (by simp [go_sem, *])
  go_enter Tryz.func257, Tryz.ntmps257
  go_wp2
  exact bodyPost_ret (v := .agg #[.int .i64 a, .int .i64 b]) (by first | (simp only [results, Tryz.results257]; go_simp; done) | simp [results, Tryz.results257, go_sem, *]) rfl ⟨rfl, by (repeat (first | (with_reducible exact Below.refl _ _) | (with_reducible refine Below.setCell ?_ (by (first | (simp; done) | (simp; omega) | omega)) _) | (with_reducible refine bl_alloc ?_ _) | (with_reducible refine bl_drewN ?_) | (with_reducible refine bl_drew ?_) | (with_reducible refine bl_step (by assumption) ?_)))⟩
theorem ccsin_any (a b x y : Int) (B1 : Nat) (w : World) (h : okAt w B1)
    (S : Hid (∀ w, Calls Tryz.prog 125 #[.agg #[.int .i64 a, .int .i64 b]] w fun e w' => e = .returned (.tuple #[.agg #[.int .i64 x, .int .i64 y], .int .i64 0]) ∧ Below w.heap.size w w')) :
    Calls Tryz.prog 255 #[.pointer (some ⟨B1, 0, none⟩), .agg #[.int .i64 a, .int .i64 b]] w fun e w' => e = .returned (.agg #[.int .i64 x, .int .i64 y]) ∧ Below w.heap.size w w' := by
  have hB := okAt_lt h
  have K := hidden fun w' (hb : Below w.heap.size w w') => cckeep_any x y B1 w' (okAt_later hb h)
  go_enter Tryz.func255, Tryz.ntmps255
  go_wp2_with (((first | (go_at_call 125; ((with_reducible refine (S.out _).mono ?_); rintro e w' ⟨rfl, hb⟩); have nm0 := trivial) | (go_at_call 257; ((with_reducible refine (K.out _ ?kb).mono ?_); (case kb => ((repeat (first | (with_reducible exact Below.refl _ _) | (with_reducible refine Below.setCell ?_ (by (first | (simp; done) | (simp; omega) | omega)) _) | (with_reducible refine bl_alloc ?_ _) | (with_reducible refine bl_drewN ?_) | (with_reducible refine bl_drew ?_) | (with_reducible refine bl_step (by assumption) ?_))); done)); rintro e w' ⟨rfl, hb⟩); have nm1 := trivial)); obtain ⟨hcell, hfroz⟩ := bcell hb; have hz := hb.size; (try simp at hz); (try have z0 : w.heap.size < w'.heap.size := by omega); (try have z1 : w.heap.size + 1 < w'.heap.size := by omega); (try have z2 : w.heap.size + 1 + 1 < w'.heap.size := by omega); (try have hB1 : B1 < w'.heap.size := by omega); (try have hB3 : B1 < w'.heap.size + 1 := by omega); (first | (clear nm0; obtain ⟨w1, rfl⟩ : ∃ v, v = w' := ⟨_, rfl⟩) | (clear nm1; obtain ⟨w2, rfl⟩ : ∃ v, v = w' := ⟨_, rfl⟩))))
  exact bodyPost_ret (v := .agg #[.int .i64 x, .int .i64 y]) (by first | (simp only [results, Tryz.results255]; go_simp; done) | simp [results, Tryz.results255, go_sem, *]) rfl ⟨rfl, by (repeat (first | (with_reducible exact Below.refl _ _) | (with_reducible refine Below.setCell ?_ (by (first | (simp; done) | (simp; omega) | omega)) _) | (with_reducible refine bl_alloc ?_ _) | (with_reducible refine bl_drewN ?_) | (with_reducible refine bl_drew ?_) | (with_reducible refine bl_step (by assumption) ?_)))⟩
theorem cccos_any (a b x y : Int) (B1 : Nat) (w : World) (h : okAt w B1)
    (S : Hid (∀ w, Calls Tryz.prog 124 #[.agg #[.int .i64 a, .int .i64 b]] w fun e w' => e = .returned (.tuple #[.agg #[.int .i64 x, .int .i64 y], .int .i64 0]) ∧ Below w.heap.size w w')) :
    Calls Tryz.prog 256 #[.pointer (some ⟨B1, 0, none⟩), .agg #[.int .i64 a, .int .i64 b]] w fun e w' => e = .returned (.agg #[.int .i64 x, .int .i64 y]) ∧ Below w.heap.size w w' := by
  have hB := okAt_lt h
  have K := hidden fun w' (hb : Below w.heap.size w w') => cckeep_any x y B1 w' (okAt_later hb h)
  go_enter Tryz.func256, Tryz.ntmps256
  go_wp2_with (((first | (go_at_call 124; ((with_reducible refine (S.out _).mono ?_); rintro e w' ⟨rfl, hb⟩); have nm0 := trivial) | (go_at_call 257; ((with_reducible refine (K.out _ ?kb).mono ?_); (case kb => ((repeat (first | (with_reducible exact Below.refl _ _) | (with_reducible refine Below.setCell ?_ (by (first | (simp; done) | (simp; omega) | omega)) _) | (with_reducible refine bl_alloc ?_ _) | (with_reducible refine bl_drewN ?_) | (with_reducible refine bl_drew ?_) | (with_reducible refine bl_step (by assumption) ?_))); done)); rintro e w' ⟨rfl, hb⟩); have nm1 := trivial)); obtain ⟨hcell, hfroz⟩ := bcell hb; have hz := hb.size; (try simp at hz); (try have z0 : w.heap.size < w'.heap.size := by omega); (try have z1 : w.heap.size + 1 < w'.heap.size := by omega); (try have z2 : w.heap.size + 1 + 1 < w'.heap.size := by omega); (try have hB1 : B1 < w'.heap.size := by omega); (try have hB3 : B1 < w'.heap.size + 1 := by omega); (first | (clear nm0; obtain ⟨w1, rfl⟩ : ∃ v, v = w' := ⟨_, rfl⟩) | (clear nm1; obtain ⟨w2, rfl⟩ : ∃ v, v = w' := ⟨_, rfl⟩))))
  exact bodyPost_ret (v := .agg #[.int .i64 x, .int .i64 y]) (by first | (simp only [results, Tryz.results256]; go_simp; done) | simp [results, Tryz.results256, go_sem, *]) rfl ⟨rfl, by (repeat (first | (with_reducible exact Below.refl _ _) | (with_reducible refine Below.setCell ?_ (by (first | (simp; done) | (simp; omega) | omega)) _) | (with_reducible refine bl_alloc ?_ _) | (with_reducible refine bl_drewN ?_) | (with_reducible refine bl_drew ?_) | (with_reducible refine bl_step (by assumption) ?_)))⟩
theorem ccmul_any (a b c d x y : Int) (B1 : Nat) (w : World) (h : okAt w B1)
    (S : Hid (∀ w, Calls Tryz.prog 150 #[.agg #[.int .i64 a, .int .i64 b], .agg #[.int .i64 c, .int .i64 d]] w fun e w' => e = .returned (.tuple #[.agg #[.int .i64 x, .int .i64 y], .int .i64 0]) ∧ Below w.heap.size w w')) :
    Calls Tryz.prog 202 #[.pointer (some ⟨B1, 0, none⟩), .agg #[.int .i64 a, .int .i64 b], .agg #[.int .i64 c, .int .i64 d]] w fun e w' => e = .returned (.agg #[.int .i64 x, .int .i64 y]) ∧ Below w.heap.size w w' := by
  have hB := okAt_lt h
  have K := hidden fun w' (hb : Below w.heap.size w w') => cckeep_any x y B1 w' (okAt_later hb h)
  go_enter Tryz.func202, Tryz.ntmps202
  go_wp2_with (((first | (go_at_call 150; ((with_reducible refine (S.out _).mono ?_); rintro e w' ⟨rfl, hb⟩); have nm0 := trivial) | (go_at_call 257; ((with_reducible refine (K.out _ ?kb).mono ?_); (case kb => ((repeat (first | (with_reducible exact Below.refl _ _) | (with_reducible refine Below.setCell ?_ (by (first | (simp; done) | (simp; omega) | omega)) _) | (with_reducible refine bl_alloc ?_ _) | (with_reducible refine bl_drewN ?_) | (with_reducible refine bl_drew ?_) | (with_reducible refine bl_step (by assumption) ?_))); done)); rintro e w' ⟨rfl, hb⟩); have nm1 := trivial)); obtain ⟨hcell, hfroz⟩ := bcell hb; have hz := hb.size; (try simp at hz); (try have z0 : w.heap.size < w'.heap.size := by omega); (try have z1 : w.heap.size + 1 < w'.heap.size := by omega); (try have z2 : w.heap.size + 1 + 1 < w'.heap.size := by omega); (try have hB1 : B1 < w'.heap.size := by omega); (try have hB3 : B1 < w'.heap.size + 1 := by omega); (first | (clear nm0; obtain ⟨w1, rfl⟩ : ∃ v, v = w' := ⟨_, rfl⟩) | (clear nm1; obtain ⟨w2, rfl⟩ : ∃ v, v = w' := ⟨_, rfl⟩))))
  exact bodyPost_ret (v := .agg #[.int .i64 x, .int .i64 y]) (by first | (simp only [results, Tryz.results202]; go_simp; done) | simp [results, Tryz.results202, go_sem, *]) rfl ⟨rfl, by (repeat (first | (with_reducible exact Below.refl _ _) | (with_reducible refine Below.setCell ?_ (by (first | (simp; done) | (simp; omega) | omega)) _) | (with_reducible refine bl_alloc ?_ _) | (with_reducible refine bl_drewN ?_) | (with_reducible refine bl_drew ?_) | (with_reducible refine bl_step (by assumption) ?_)))⟩
theorem ccadd_any (a b c d x y : Int) (B1 : Nat) (w : World) (h : okAt w B1)
    (S : Hid (∀ w, Calls Tryz.prog 49 #[.agg #[.int .i64 a, .int .i64 b], .agg #[.int .i64 c, .int .i64 d]] w fun e w' => e = .returned (.tuple #[.agg #[.int .i64 x, .int .i64 y], .int .i64 0]) ∧ Below w.heap.size w w')) :
    Calls Tryz.prog 201 #[.pointer (some ⟨B1, 0, none⟩), .agg #[.int .i64 a, .int .i64 b], .agg #[.int .i64 c, .int .i64 d]] w fun e w' => e = .returned (.agg #[.int .i64 x, .int .i64 y]) ∧ Below w.heap.size w w' := by
  have hB := okAt_lt h
  have K := hidden fun w' (hb : Below w.heap.size w w') => cckeep_any x y B1 w' (okAt_later hb h)
  go_enter Tryz.func201, Tryz.ntmps201
  go_wp2_with (((first | (go_at_call 49; ((with_reducible refine (S.out _).mono ?_); rintro e w' ⟨rfl, hb⟩); have nm0 := trivial) | (go_at_call 257; ((with_reducible refine (K.out _ ?kb).mono ?_); (case kb => ((repeat (first | (with_reducible exact Below.refl _ _) | (with_reducible refine Below.setCell ?_ (by (first | (simp; done) | (simp; omega) | omega)) _) | (with_reducible refine bl_alloc ?_ _) | (with_reducible refine bl_drewN ?_) | (with_reducible refine bl_drew ?_) | (with_reducible refine bl_step (by assumption) ?_))); done)); rintro e w' ⟨rfl, hb⟩); have nm1 := trivial)); obtain ⟨hcell, hfroz⟩ := bcell hb; have hz := hb.size; (try simp at hz); (try have z0 : w.heap.size < w'.heap.size := by omega); (try have z1 : w.heap.size + 1 < w'.heap.size := by omega); (try have z2 : w.heap.size + 1 + 1 < w'.heap.size := by omega); (try have hB1 : B1 < w'.heap.size := by omega); (try have hB3 : B1 < w'.heap.size + 1 := by omega); (first | (clear nm0; obtain ⟨w1, rfl⟩ : ∃ v, v = w' := ⟨_, rfl⟩) | (clear nm1; obtain ⟨w2, rfl⟩ : ∃ v, v = w' := ⟨_, rfl⟩))))
  exact bodyPost_ret (v := .agg #[.int .i64 x, .int .i64 y]) (by first | (simp only [results, Tryz.results201]; go_simp; done) | simp [results, Tryz.results201, go_sem, *]) rfl ⟨rfl, by (repeat (first | (with_reducible exact Below.refl _ _) | (with_reducible refine Below.setCell ?_ (by (first | (simp; done) | (simp; omega) | omega)) _) | (with_reducible refine bl_alloc ?_ _) | (with_reducible refine bl_drewN ?_) | (with_reducible refine bl_drew ?_) | (with_reducible refine bl_step (by assumption) ?_)))⟩
theorem clat_ok (a b : Int) (w : World) (h0 : a ≤ b) (h1 : -5400000 ≤ a) (h2 : b ≤ 5400000) :
    Calls Tryz.prog 199 #[.agg #[.int .i64 a, .int .i64 b]] w fun e w' => e = .returned (.bool true) ∧ Below w.heap.size w w' := by
  have V := hidden fun w => (by have := valid_any a b w; rw [arcB_mk (by omega)] at this; exact this : Calls Tryz.prog 45 #[.agg #[.int .i64 a, .int .i64 b]] w fun e w' => e = .returned (.bool true) ∧ Below w.heap.size w w')
  go_enter Tryz.func199, Tryz.ntmps199
  go_wp2_with (go_at_call 45; ((with_reducible refine (V.out _).mono ?_); rintro e w' ⟨rfl, hb⟩); (try replace hb := below_undrew hb); (try replace hb := below_undrewN hb); obtain ⟨hcell, hfroz⟩ := bcell hb; have hz := hb.size; (try simp at hz); (try (have z9 := Nat.lt_of_lt_of_le (Nat.lt_succ_self _) hz)); (try have z0 : w.heap.size < w'.heap.size := by omega); (try have z1 : w.heap.size + 1 < w'.heap.size := by omega); (try have z2 : w.heap.size + 1 + 1 < w'.heap.size := by omega); (try have z3 : w.heap.size + 1 + 1 + 1 < w'.heap.size := by omega); obtain ⟨w1, rfl⟩ : ∃ v, v = w' := ⟨_, rfl⟩)
  go_ret
  exact ⟨rfl, by (repeat (first | (with_reducible exact Below.refl _ _) | (with_reducible refine Below.setCell ?_ (by (first | (simp; done) | (simp; omega) | omega)) _) | (with_reducible refine bl_alloc ?_ _) | (with_reducible refine bl_drewN ?_) | (with_reducible refine bl_drew ?_) | (with_reducible refine bl_step (by assumption) ?_)))⟩
theorem cval_ok (a b c d e f : Int) (w : World) (h0 : a ≤ b) (h1 : -5400000 ≤ a) (h2 : b ≤ 5400000) (k0 : c ≤ d) (k1 : -5400000 ≤ c) (k2 : d ≤ 5400000) (h : arcB e f = true) :
    Calls Tryz.prog 115 #[.agg #[.int .i64 a, .int .i64 b, .int .i64 c, .int .i64 d, .int .i64 e, .int .i64 f]] w fun e w' => e = .returned (.bool true) ∧ Below w.heap.size w w' := by
  have L1 := hidden fun w => clat_ok a b w h0 h1 h2
  have L2 := hidden fun w => clat_ok c d w k0 k1 k2
  have V := hidden fun w => (by have := valid_any e f w; rw [h] at this; exact this : Calls Tryz.prog 45 #[.agg #[.int .i64 e, .int .i64 f]] w fun e w' => e = .returned (.bool true) ∧ Below w.heap.size w w')
  clear h h0 h1 h2 k0 k1 k2
  go_enter Tryz.func115, Tryz.ntmps115
  go_wp2_with (((first | (go_at_call 199; ((with_reducible refine (L1.out _).mono ?_); rintro e w' ⟨rfl, hb⟩); have nm0 := trivial) | (go_at_call 199; ((with_reducible refine (L2.out _).mono ?_); rintro e w' ⟨rfl, hb⟩); have nm1 := trivial) | (go_at_call 45; ((with_reducible refine (V.out _).mono ?_); rintro e w' ⟨rfl, hb⟩); have nm2 := trivial)); (try replace hb := below_undrew hb); (try replace hb := below_undrewN hb); obtain ⟨hcell, hfroz⟩ := bcell hb; have hz := hb.size; (try simp at hz); (try (have z9 := Nat.lt_of_lt_of_le (Nat.lt_succ_self _) hz)); (try have z0 : w.heap.size < w'.heap.size := by omega); (try have z1 : w.heap.size + 1 < w'.heap.size := by omega); (try have z2 : w.heap.size + 1 + 1 < w'.heap.size := by omega); (try have z3 : w.heap.size + 1 + 1 + 1 < w'.heap.size := by omega); (try have y1 : w1.heap.size < w'.heap.size := by omega); (try have y2 : w2.heap.size < w'.heap.size := by omega); (try have x1 : w1.heap.size + 1 < w'.heap.size := by omega); (try have x2 : w2.heap.size + 1 < w'.heap.size := by omega); (try have z10 : w1.heap.size < w'.heap.size + 1 := by omega); (try have z20 : w2.heap.size < w'.heap.size + 1 := by omega); (first | (clear nm0; obtain ⟨w1, rfl⟩ : ∃ v, v = w' := ⟨_, rfl⟩) | (clear nm1; obtain ⟨w2, rfl⟩ : ∃ v, v = w' := ⟨_, rfl⟩) | (clear nm2; obtain ⟨w3, rfl⟩ : ∃ v, v = w' := ⟨_, rfl⟩))))
  go_ret
  exact ⟨rfl, by (repeat (first | (with_reducible exact Below.refl _ _) | (with_reducible refine Below.setCell ?_ (by (first | (simp; done) | (simp; omega) | omega)) _) | (with_reducible refine bl_alloc ?_ _) | (with_reducible refine bl_drewN ?_) | (with_reducible refine bl_drew ?_) | (with_reducible refine bl_step (by assumption) ?_)))⟩
set_option maxRecDepth 100000 in
set_option maxHeartbeats 8000000 in
theorem cof_walk (a b c d e f s1l s1h c1l c1h s2l s2h c2l c2h s3l s3h c3l c3h : Int) (B1 : Nat) (w : World) (ok : okAt w B1)
    (S1 : Hid (∀ w, Calls Tryz.prog 125 #[.agg #[.int .i64 a, .int .i64 b]] w fun e w' => e = .returned (.tuple #[.agg #[.int .i64 s1l, .int .i64 s1h], .int .i64 0]) ∧ Below w.heap.size w w'))
    (C1 : Hid (∀ w, Calls Tryz.prog 124 #[.agg #[.int .i64 a, .int .i64 b]] w fun e w' => e = .returned (.tuple #[.agg #[.int .i64 c1l, .int .i64 c1h], .int .i64 0]) ∧ Below w.heap.size w w'))
    (S2 : Hid (∀ w, Calls Tryz.prog 125 #[.agg #[.int .i64 c, .int .i64 d]] w fun e w' => e = .returned (.tuple #[.agg #[.int .i64 s2l, .int .i64 s2h], .int .i64 0]) ∧ Below w.heap.size w w'))
    (C2 : Hid (∀ w, Calls Tryz.prog 124 #[.agg #[.int .i64 c, .int .i64 d]] w fun e w' => e = .returned (.tuple #[.agg #[.int .i64 c2l, .int .i64 c2h], .int .i64 0]) ∧ Below w.heap.size w w'))
    (S3 : Hid (∀ w, Calls Tryz.prog 125 #[.agg #[.int .i64 e, .int .i64 f]] w fun e w' => e = .returned (.tuple #[.agg #[.int .i64 s3l, .int .i64 s3h], .int .i64 0]) ∧ Below w.heap.size w w'))
    (C3 : Hid (∀ w, Calls Tryz.prog 124 #[.agg #[.int .i64 e, .int .i64 f]] w fun e w' => e = .returned (.tuple #[.agg #[.int .i64 c3l, .int .i64 c3h], .int .i64 0]) ∧ Below w.heap.size w w')) :
    Calls Tryz.prog 200 #[.pointer (some ⟨B1, 0, none⟩), .agg #[.int .i64 a, .int .i64 b, .int .i64 c, .int .i64 d, .int .i64 e, .int .i64 f]] w fun e w' => e = .returned (.agg #[.int .i64 s1l, .int .i64 s1h, .int .i64 c1l, .int .i64 c1h, .int .i64 s2l, .int .i64 s2h, .int .i64 c2l, .int .i64 c2h, .int .i64 s3l, .int .i64 s3h, .int .i64 c3l, .int .i64 c3h]) ∧ Below w.heap.size w w' := by
  have hB := okAt_lt ok
  go_enter Tryz.func200, Tryz.ntmps200
  go_upto_region 1 with fail
  (refine name_code ?_; intro w' hb; (try replace hb := below_undrew hb); (try replace hb := below_undrewN hb); obtain ⟨hcell, hfroz⟩ := bcell hb; have hz := hb.size; (try simp at hz); (try (have z9 := Nat.lt_of_lt_of_le (Nat.lt_succ_self _) hz)); (try have z0 : w.heap.size < w'.heap.size := by omega); (try have z1 : w.heap.size + 1 < w'.heap.size := by omega); (try have z2 : w.heap.size + 1 + 1 < w'.heap.size := by omega); (try have z3 : w.heap.size + 1 + 1 + 1 < w'.heap.size := by omega))
  have hw0 : Below w.heap.size w w' := by (repeat (first | (with_reducible exact Below.refl _ _) | (with_reducible refine Below.setCell ?_ (by (first | (simp; done) | (simp; omega) | omega)) _) | (with_reducible refine bl_alloc ?_ _) | (with_reducible refine bl_drewN ?_) | (with_reducible refine bl_drew ?_) | (with_reducible refine bl_step (by assumption) ?_)))
  have t0 : w'.cell? ⟨w.heap.size, 0, none⟩ = some (.int .i64 a) := by simp [go_sem, *]
  have t1 : w'.cell? ⟨w.heap.size, 1, none⟩ = some (.int .i64 b) := by simp [go_sem, *]
  have t2 : w'.cell? ⟨w.heap.size, 2, none⟩ = some (.int .i64 c) := by simp [go_sem, *]
  have t3 : w'.cell? ⟨w.heap.size, 3, none⟩ = some (.int .i64 d) := by simp [go_sem, *]
  have t4 : w'.cell? ⟨w.heap.size, 4, none⟩ = some (.int .i64 e) := by simp [go_sem, *]
  have t5 : w'.cell? ⟨w.heap.size, 5, none⟩ = some (.int .i64 f) := by simp [go_sem, *]
  have r0 : w'.cell? ⟨w.heap.size + 1, 0, none⟩ = some (.int .i64 0) := by simp [go_sem, *]
  have r1 : w'.cell? ⟨w.heap.size + 1, 1, none⟩ = some (.int .i64 0) := by simp [go_sem, *]
  have r2 : w'.cell? ⟨w.heap.size + 1, 2, none⟩ = some (.int .i64 0) := by simp [go_sem, *]
  have r3 : w'.cell? ⟨w.heap.size + 1, 3, none⟩ = some (.int .i64 0) := by simp [go_sem, *]
  have r4 : w'.cell? ⟨w.heap.size + 1, 4, none⟩ = some (.int .i64 0) := by simp [go_sem, *]
  have r5 : w'.cell? ⟨w.heap.size + 1, 5, none⟩ = some (.int .i64 0) := by simp [go_sem, *]
  have r6 : w'.cell? ⟨w.heap.size + 1, 6, none⟩ = some (.int .i64 0) := by simp [go_sem, *]
  have r7 : w'.cell? ⟨w.heap.size + 1, 7, none⟩ = some (.int .i64 0) := by simp [go_sem, *]
  have r8 : w'.cell? ⟨w.heap.size + 1, 8, none⟩ = some (.int .i64 0) := by simp [go_sem, *]
  have r9 : w'.cell? ⟨w.heap.size + 1, 9, none⟩ = some (.int .i64 0) := by simp [go_sem, *]
  have r10 : w'.cell? ⟨w.heap.size + 1, 10, none⟩ = some (.int .i64 0) := by simp [go_sem, *]
  have r11 : w'.cell? ⟨w.heap.size + 1, 11, none⟩ = some (.int .i64 0) := by simp [go_sem, *]
  have rf : ∀ o, w'.frozen? ⟨w.heap.size + 1, o, none⟩ = false := by intro o; simp [go_sem, *]
  have hok := okAt_later hw0 ok
  clear hcell hfroz hz hb
  obtain ⟨V0, rfl⟩ : ∃ v, v = w' := ⟨_, rfl⟩
  have g1 : w.heap.size + 1 < V0.heap.size := World.block_lt_of_cell? _ _ r0
  have g0 : w.heap.size < V0.heap.size := by omega
  refine wp_region_quiet_tail 25 (by kernel_rfl) (by kernel_rfl) ?_
  simp only [List.take_succ_cons, List.take_zero, List.drop_succ_cons, List.drop_zero]
  repeat (first | go_big_quiet_step ((first | (go_at_call 255; (with_reducible exact Calls.regrown_of (ccsin_any a b s1l s1h B1 _ (okAt_rd hok) S1))) | (go_at_call 256; (with_reducible exact Calls.regrown_of (cccos_any a b c1l c1h B1 _ (okAt_rd hok) C1))) | (go_at_call 255; (with_reducible exact Calls.regrown_of (ccsin_any c d s2l s2h B1 _ (okAt_rd hok) S2))) | (go_at_call 256; (with_reducible exact Calls.regrown_of (cccos_any c d c2l c2h B1 _ (okAt_rd hok) C2))) | (go_at_call 255; (with_reducible exact Calls.regrown_of (ccsin_any e f s3l s3h B1 _ (okAt_rd hok) S3))) | (go_at_call 256; (with_reducible exact Calls.regrown_of (cccos_any e f c3l c3h B1 _ (okAt_rd hok) C3))))) | quiet_step ((first | (go_at_call 255; (with_reducible exact Calls.regrown_of (ccsin_any a b s1l s1h B1 _ (okAt_rd hok) S1))) | (go_at_call 256; (with_reducible exact Calls.regrown_of (cccos_any a b c1l c1h B1 _ (okAt_rd hok) C1))) | (go_at_call 255; (with_reducible exact Calls.regrown_of (ccsin_any c d s2l s2h B1 _ (okAt_rd hok) S2))) | (go_at_call 256; (with_reducible exact Calls.regrown_of (cccos_any c d c2l c2h B1 _ (okAt_rd hok) C2))) | (go_at_call 255; (with_reducible exact Calls.regrown_of (ccsin_any e f s3l s3h B1 _ (okAt_rd hok) S3))) | (go_at_call 256; (with_reducible exact Calls.regrown_of (cccos_any e f c3l c3h B1 _ (okAt_rd hok) C3))))))
  refine wpQuiet_nil ?_; intro w' hw'; have hb := below_of_regrown hw'; clear hw'; (try replace hb := below_undrew hb); (try replace hb := below_undrewN hb); obtain ⟨hcell, hfroz⟩ := bcell hb; have hz := hb.size; (try simp at hz); (try (have z9 := Nat.lt_of_lt_of_le (Nat.lt_succ_self _) hz)); (try have z0 : w.heap.size < w'.heap.size := by omega); (try have z1 : w.heap.size + 1 < w'.heap.size := by omega); (try have z2 : w.heap.size + 1 + 1 < w'.heap.size := by omega); (try have z3 : w.heap.size + 1 + 1 + 1 < w'.heap.size := by omega)
  go_wp2
  exact bodyPost_ret (v := .agg #[.int .i64 s1l, .int .i64 s1h, .int .i64 c1l, .int .i64 c1h, .int .i64 s2l, .int .i64 s2h, .int .i64 c2l, .int .i64 c2h, .int .i64 s3l, .int .i64 s3h, .int .i64 c3l, .int .i64 c3h]) (by first | (simp only [results, Tryz.results200]; go_simp; done) | simp [results, Tryz.results200, go_sem, *]) rfl ⟨rfl, by (repeat (first | (with_reducible exact Below.refl _ _) | (with_reducible refine Below.setCell ?_ (by (first | (simp; done) | (simp; omega) | omega)) _) | (with_reducible refine bl_alloc ?_ _) | (with_reducible refine bl_drewN ?_) | (with_reducible refine bl_drew ?_) | (with_reducible refine bl_step (by assumption) ?_)))⟩
set_option maxRecDepth 100000 in
set_option maxHeartbeats 8000000 in
theorem calt_walk (a b c d e f s1l s1h c1l c1h s2l s2h c2l c2h s3l s3h c3l c3h ml mh nl nh kl kh xl xh L H : Int) (w : World)
    (S1 : Hid (∀ w, Calls Tryz.prog 125 #[.agg #[.int .i64 a, .int .i64 b]] w fun e w' => e = .returned (.tuple #[.agg #[.int .i64 s1l, .int .i64 s1h], .int .i64 0]) ∧ Below w.heap.size w w'))
    (C1 : Hid (∀ w, Calls Tryz.prog 124 #[.agg #[.int .i64 a, .int .i64 b]] w fun e w' => e = .returned (.tuple #[.agg #[.int .i64 c1l, .int .i64 c1h], .int .i64 0]) ∧ Below w.heap.size w w'))
    (S2 : Hid (∀ w, Calls Tryz.prog 125 #[.agg #[.int .i64 c, .int .i64 d]] w fun e w' => e = .returned (.tuple #[.agg #[.int .i64 s2l, .int .i64 s2h], .int .i64 0]) ∧ Below w.heap.size w w'))
    (C2 : Hid (∀ w, Calls Tryz.prog 124 #[.agg #[.int .i64 c, .int .i64 d]] w fun e w' => e = .returned (.tuple #[.agg #[.int .i64 c2l, .int .i64 c2h], .int .i64 0]) ∧ Below w.heap.size w w'))
    (S3 : Hid (∀ w, Calls Tryz.prog 125 #[.agg #[.int .i64 e, .int .i64 f]] w fun e w' => e = .returned (.tuple #[.agg #[.int .i64 s3l, .int .i64 s3h], .int .i64 0]) ∧ Below w.heap.size w w'))
    (C3 : Hid (∀ w, Calls Tryz.prog 124 #[.agg #[.int .i64 e, .int .i64 f]] w fun e w' => e = .returned (.tuple #[.agg #[.int .i64 c3l, .int .i64 c3h], .int .i64 0]) ∧ Below w.heap.size w w'))
    (M1 : Hid (∀ w, Calls Tryz.prog 150 #[.agg #[.int .i64 s1l, .int .i64 s1h], .agg #[.int .i64 s2l, .int .i64 s2h]] w fun e w' => e = .returned (.tuple #[.agg #[.int .i64 ml, .int .i64 mh], .int .i64 0]) ∧ Below w.heap.size w w'))
    (M2 : Hid (∀ w, Calls Tryz.prog 150 #[.agg #[.int .i64 c1l, .int .i64 c1h], .agg #[.int .i64 c2l, .int .i64 c2h]] w fun e w' => e = .returned (.tuple #[.agg #[.int .i64 nl, .int .i64 nh], .int .i64 0]) ∧ Below w.heap.size w w'))
    (M3 : Hid (∀ w, Calls Tryz.prog 150 #[.agg #[.int .i64 nl, .int .i64 nh], .agg #[.int .i64 c3l, .int .i64 c3h]] w fun e w' => e = .returned (.tuple #[.agg #[.int .i64 kl, .int .i64 kh], .int .i64 0]) ∧ Below w.heap.size w w'))
    (A : Hid (∀ w, Calls Tryz.prog 49 #[.agg #[.int .i64 ml, .int .i64 mh], .agg #[.int .i64 kl, .int .i64 kh]] w fun e w' => e = .returned (.tuple #[.agg #[.int .i64 xl, .int .i64 xh], .int .i64 0]) ∧ Below w.heap.size w w'))
    (AS : Hid (∀ w, Calls Tryz.prog 203 #[.agg #[.int .i64 xl, .int .i64 xh]] w fun e w' => e = .returned (.tuple #[.agg #[.int .i64 L, .int .i64 H], .int .i64 0]) ∧ Below w.heap.size w w')) :
    Calls Tryz.prog 116 #[.agg #[.int .i64 a, .int .i64 b, .int .i64 c, .int .i64 d, .int .i64 e, .int .i64 f]] w fun e w' => e = .returned (.tuple #[.agg #[.int .i64 L, .int .i64 H], .int .i64 0]) ∧ Below w.heap.size w w' := by
  have OF := hidden fun B1 w ok => cof_walk a b c d e f s1l s1h c1l c1h s2l s2h c2l c2h s3l s3h c3l c3h B1 w ok S1 C1 S2 C2 S3 C3
  go_enter Tryz.func116, Tryz.ntmps116
  go_wp2_with fail
  have hok : okAt (((w.alloc (Obj.cells #[.int .i64 a, .int .i64 b, .int .i64 c, .int .i64 d, .int .i64 e, .int .i64 f] 67)).alloc (Obj.cells #[.int .i64 0, .int .i64 0] 23)).alloc (Obj.cells #[.int .i64 0] 235)) (w.heap.size + 1 + 1) := ⟨by simp [go_sem], by simp [go_sem]⟩
  refine (OF.out _ _ hok).mono ?_
  rintro e' w' ⟨rfl, hb⟩
  (try replace hb := below_undrew hb); (try replace hb := below_undrewN hb); obtain ⟨hcell, hfroz⟩ := bcell hb; have hz := hb.size; (try simp at hz); (try (have z9 := Nat.lt_of_lt_of_le (Nat.lt_succ_self _) hz)); (try have z0 : w.heap.size < w'.heap.size := by omega); (try have z1 : w.heap.size + 1 < w'.heap.size := by omega); (try have z2 : w.heap.size + 1 + 1 < w'.heap.size := by omega); (try have z3 : w.heap.size + 1 + 1 + 1 < w'.heap.size := by omega); (try have y1 : w1.heap.size < w'.heap.size := by omega); (try have y3 : w3.heap.size < w'.heap.size := by omega); (try have x1 : w1.heap.size + 1 < w'.heap.size := by omega); (try have x3 : w3.heap.size + 1 < w'.heap.size := by omega); (try have z10 : w1.heap.size < w'.heap.size + 1 := by omega); (try have z30 : w3.heap.size < w'.heap.size + 1 := by omega)
  have hok := okAt_later hb hok
  obtain ⟨w1, rfl⟩ : ∃ v, v = w' := ⟨_, rfl⟩
  go_upto_region 3 with fail
  (refine name_code ?_; intro w' hb; (try replace hb := below_undrew hb); (try replace hb := below_undrewN hb); obtain ⟨hcell, hfroz⟩ := bcell hb; have hz := hb.size; (try simp at hz); (try (have z9 := Nat.lt_of_lt_of_le (Nat.lt_succ_self _) hz)); (try have z0 : w.heap.size < w'.heap.size := by omega); (try have z1 : w.heap.size + 1 < w'.heap.size := by omega); (try have z2 : w.heap.size + 1 + 1 < w'.heap.size := by omega); (try have z3 : w.heap.size + 1 + 1 + 1 < w'.heap.size := by omega); (try have y1 : w1.heap.size < w'.heap.size := by omega); (try have y3 : w3.heap.size < w'.heap.size := by omega); (try have x1 : w1.heap.size + 1 < w'.heap.size := by omega); (try have x3 : w3.heap.size + 1 < w'.heap.size := by omega); (try have z10 : w1.heap.size < w'.heap.size + 1 := by omega); (try have z30 : w3.heap.size < w'.heap.size + 1 := by omega))
  have hw0 : Below w.heap.size w w' := by (repeat (first | (with_reducible exact Below.refl _ _) | (with_reducible refine Below.setCell ?_ (by (first | (simp; done) | (simp; omega) | omega)) _) | (with_reducible refine bl_alloc ?_ _) | (with_reducible refine bl_drewN ?_) | (with_reducible refine bl_drew ?_) | (with_reducible refine bl_step (by assumption) ?_)))
  have hok := okAt_later hb (okAt_later (by (repeat (first | (with_reducible exact Below.refl _ _) | (with_reducible refine Below.setCell ?_ (by (first | (simp; done) | (simp; omega) | omega)) _) | (with_reducible refine bl_alloc ?_ _) | (with_reducible refine bl_drewN ?_) | (with_reducible refine bl_drew ?_) | (with_reducible refine bl_step (by assumption) ?_)))) hok)
  have p0 : w'.cell? ⟨w1.heap.size, 0, none⟩ = some (.int .i64 s1l) := by simp [go_sem, *]
  have p1 : w'.cell? ⟨w1.heap.size, 1, none⟩ = some (.int .i64 s1h) := by simp [go_sem, *]
  have p2 : w'.cell? ⟨w1.heap.size, 2, none⟩ = some (.int .i64 c1l) := by simp [go_sem, *]
  have p3 : w'.cell? ⟨w1.heap.size, 3, none⟩ = some (.int .i64 c1h) := by simp [go_sem, *]
  have p4 : w'.cell? ⟨w1.heap.size, 4, none⟩ = some (.int .i64 s2l) := by simp [go_sem, *]
  have p5 : w'.cell? ⟨w1.heap.size, 5, none⟩ = some (.int .i64 s2h) := by simp [go_sem, *]
  have p6 : w'.cell? ⟨w1.heap.size, 6, none⟩ = some (.int .i64 c2l) := by simp [go_sem, *]
  have p7 : w'.cell? ⟨w1.heap.size, 7, none⟩ = some (.int .i64 c2h) := by simp [go_sem, *]
  have p8 : w'.cell? ⟨w1.heap.size, 8, none⟩ = some (.int .i64 s3l) := by simp [go_sem, *]
  have p9 : w'.cell? ⟨w1.heap.size, 9, none⟩ = some (.int .i64 s3h) := by simp [go_sem, *]
  have p10 : w'.cell? ⟨w1.heap.size, 10, none⟩ = some (.int .i64 c3l) := by simp [go_sem, *]
  have p11 : w'.cell? ⟨w1.heap.size, 11, none⟩ = some (.int .i64 c3h) := by simp [go_sem, *]
  have r0 : w'.cell? ⟨w.heap.size + 1, 0, none⟩ = some (.int .i64 0) := by simp [go_sem, *]
  have r1 : w'.cell? ⟨w.heap.size + 1, 1, none⟩ = some (.int .i64 0) := by simp [go_sem, *]
  have rf : ∀ o, w'.frozen? ⟨w.heap.size + 1, o, none⟩ = false := by intro o; simp [go_sem, *]
  have hz1 : w.heap.size + 1 + 1 < w1.heap.size := by omega
  clear hcell hfroz hz hb
  obtain ⟨V0, rfl⟩ : ∃ v, v = w' := ⟨_, rfl⟩
  have gP : w1.heap.size < V0.heap.size := World.block_lt_of_cell? _ _ p0
  generalize w1.heap.size = BP at *
  have g1 : w.heap.size + 1 < V0.heap.size := World.block_lt_of_cell? _ _ r0
  refine wp_region_inv (fun a0 LL aa vv => ∃ (l0 l1 l2 l3 l4 l5 l6 l7 l8 l9 l10 l11 l12 l13 l14 l15 l16 l17 l18 l19 : Bool) (EX : Nat), LL = #[l0, l1, l2, l3, l4, l5, l6, l7, l8, l9, l10, l11, l12, l13, l14, l15, l16, l17, l18, l19] ∧ aa = { a0 with tmps := (((((((((((((((((((a0.tmps.setIfInBounds 12 (cond l0 (.pointer (some ⟨w.heap.size + 1 + 1, 0, none⟩)) (undef))).setIfInBounds 13 (cond l1 (.pointer (some ⟨w.heap.size + 1 + 1, 0, none⟩)) (undef))).setIfInBounds 14 (cond l2 (.pointer (some ⟨BP, 0, none⟩)) (undef))).setIfInBounds 15 (cond l3 (.agg #[.int .i64 s1l, .int .i64 s1h]) (undef))).setIfInBounds 16 (cond l4 (.pointer (some ⟨BP, 4, none⟩)) (undef))).setIfInBounds 17 (cond l5 (.agg #[.int .i64 s2l, .int .i64 s2h]) (undef))).setIfInBounds 18 (cond l6 (.agg #[.int .i64 ml, .int .i64 mh]) (undef))).setIfInBounds 19 (cond l7 (.pointer (some ⟨w.heap.size + 1 + 1, 0, none⟩)) (undef))).setIfInBounds 20 (cond l8 (.pointer (some ⟨w.heap.size + 1 + 1, 0, none⟩)) (undef))).setIfInBounds 21 (cond l9 (.pointer (some ⟨BP, 2, none⟩)) (undef))).setIfInBounds 22 (cond l10 (.agg #[.int .i64 c1l, .int .i64 c1h]) (undef))).setIfInBounds 23 (cond l11 (.pointer (some ⟨BP, 6, none⟩)) (undef))).setIfInBounds 24 (cond l12 (.agg #[.int .i64 c2l, .int .i64 c2h]) (undef))).setIfInBounds 25 (cond l13 (.agg #[.int .i64 nl, .int .i64 nh]) (undef))).setIfInBounds 26 (cond l14 (.pointer (some ⟨BP, 10, none⟩)) (undef))).setIfInBounds 27 (cond l15 (.agg #[.int .i64 c3l, .int .i64 c3h]) (undef))).setIfInBounds 28 (cond l16 (.agg #[.int .i64 kl, .int .i64 kh]) (undef))).setIfInBounds 29 (cond l17 (.agg #[.int .i64 xl, .int .i64 xh]) (undef))).setIfInBounds 6 (cond l18 (.pointer (some ⟨EX, 0, none⟩)) (undef))) } ∧ Below V0.heap.size V0 vv ∧ (l19 = true → l18 = true) ∧ (l18 = true → Room2 V0 vv EX l19 (xl) (xh))) (by kernel_rfl) (by kernel_rfl) ?h0 ?hsize ?hdone ?hstep
  case h0 =>
    refine ⟨false, false, false, false, false, false, false, false, false, false, false, false, false, false, false, false, false, false, false, false, 0, rfl, ?_, by (repeat (first | exact Below.refl _ _ | refine bl_drewN ?_ | refine bl_drew ?_ | refine bl_alloc ?_ _ | refine Below.setCell ?_ (by (first | (simp; done) | (simp; omega) | omega)) _ | refine bl_step (by assumption) ?_)), (fun h => by cases h), (fun h => by cases h)⟩
    simp only [cond_false, List.setIfInBounds_toArray, List.set_cons_zero, List.set_cons_succ]
  case hsize =>
    intro LL aa vv h
    obtain ⟨l0, l1, l2, l3, l4, l5, l6, l7, l8, l9, l10, l11, l12, l13, l14, l15, l16, l17, l18, l19, EX, hL, _⟩ := h
    rw [hL]
    rfl
  case hstep =>
    intro LL aa vv h
    obtain ⟨l0, l1, l2, l3, l4, l5, l6, l7, l8, l9, l10, l11, l12, l13, l14, l15, l16, l17, l18, l19, EX, hL, ha, hb0, hq18, hr18⟩ := h
    simp only [List.setIfInBounds_toArray, List.set_cons_zero, List.set_cons_succ] at ha
    subst hL
    subst ha
    refine ⟨?s0, ?s1, ?s2, ?s3, ?s4, ?s5, ?s6, ?s7, ?s8, ?s9, ?s10, ?s11, ?s12, ?s13, ?s14, ?s15, ?s16, ?s17, ?s18, ?s19, trivial⟩
    case s0 =>
      intro ff gg KK hK
      have f0 : l0 = false := ff
      clear ff gg
      subst f0
      simp only [cond_false]
      go_simp
      exact hK _ _ ⟨true, l1, l2, l3, l4, l5, l6, l7, l8, l9, l10, l11, l12, l13, l14, l15, l16, l17, l18, l19, EX, rfl, (by simp only [cond_true, List.setIfInBounds_toArray, List.set_cons_zero, List.set_cons_succ]), hb0, hq18, hr18⟩
    case s1 =>
      intro ff gg KK hK
      have f0 : l1 = false := ff
      clear ff gg
      subst f0
      simp only [cond_false]
      go_simp
      exact hK _ _ ⟨l0, true, l2, l3, l4, l5, l6, l7, l8, l9, l10, l11, l12, l13, l14, l15, l16, l17, l18, l19, EX, rfl, (by simp only [cond_true, List.setIfInBounds_toArray, List.set_cons_zero, List.set_cons_succ]), hb0, hq18, hr18⟩
    case s2 =>
      intro ff gg KK hK
      have f0 : l2 = false := ff
      clear ff gg
      subst f0
      simp only [cond_false]
      go_simp
      exact hK _ _ ⟨l0, l1, true, l3, l4, l5, l6, l7, l8, l9, l10, l11, l12, l13, l14, l15, l16, l17, l18, l19, EX, rfl, (by simp only [cond_true, List.setIfInBounds_toArray, List.set_cons_zero, List.set_cons_succ]), hb0, hq18, hr18⟩
    case s3 =>
      intro ff gg KK hK
      have t2 : l2 = true := gg ⟨2, .data⟩ (by simp) (by rfl)
      have f0 : l3 = false := ff
      clear ff gg
      subst t2
      subst f0
      simp only [cond_true, cond_false]
      have cc0 : vv.cell? ⟨BP, 0, none⟩ = some (.int .i64 s1l) := cell_later hb0 p0
      have cc1 : vv.cell? ⟨BP, 1, none⟩ = some (.int .i64 s1h) := cell_later hb0 p1
      go_simp
      exact hK _ _ ⟨l0, l1, true, true, l4, l5, l6, l7, l8, l9, l10, l11, l12, l13, l14, l15, l16, l17, l18, l19, EX, rfl, (by simp only [cond_true, List.setIfInBounds_toArray, List.set_cons_zero, List.set_cons_succ]), hb0, hq18, hr18⟩
    case s4 =>
      intro ff gg KK hK
      have f0 : l4 = false := ff
      clear ff gg
      subst f0
      simp only [cond_false]
      go_simp
      exact hK _ _ ⟨l0, l1, l2, l3, true, l5, l6, l7, l8, l9, l10, l11, l12, l13, l14, l15, l16, l17, l18, l19, EX, rfl, (by simp only [cond_true, List.setIfInBounds_toArray, List.set_cons_zero, List.set_cons_succ]), hb0, hq18, hr18⟩
    case s5 =>
      intro ff gg KK hK
      have t4 : l4 = true := gg ⟨4, .data⟩ (by simp) (by rfl)
      have f0 : l5 = false := ff
      clear ff gg
      subst t4
      subst f0
      simp only [cond_true, cond_false]
      have cc0 : vv.cell? ⟨BP, 4, none⟩ = some (.int .i64 s2l) := cell_later hb0 p4
      have cc1 : vv.cell? ⟨BP, 5, none⟩ = some (.int .i64 s2h) := cell_later hb0 p5
      go_simp
      exact hK _ _ ⟨l0, l1, l2, l3, true, true, l6, l7, l8, l9, l10, l11, l12, l13, l14, l15, l16, l17, l18, l19, EX, rfl, (by simp only [cond_true, List.setIfInBounds_toArray, List.set_cons_zero, List.set_cons_succ]), hb0, hq18, hr18⟩
    case s6 =>
      intro ff gg KK hK
      have t1 : l1 = true := gg ⟨1, .data⟩ (by simp) (by rfl)
      have t3 : l3 = true := gg ⟨3, .data⟩ (by simp) (by rfl)
      have t5 : l5 = true := gg ⟨5, .data⟩ (by simp) (by rfl)
      have f0 : l6 = false := ff
      clear ff gg
      subst t1 t3 t5
      subst f0
      simp only [cond_true, cond_false]
      go_simp
      ((go_at_call 202; ((with_reducible refine (ccmul_any s1l s1h s2l s2h ml mh (w.heap.size + 1 + 1) _ (okAt_later hb0 hok) M1).mono ?_); rintro e w' ⟨rfl, hb⟩)))
      exact hK _ _ ⟨l0, true, l2, true, l4, true, true, l7, l8, l9, l10, l11, l12, l13, l14, l15, l16, l17, l18, l19, EX, rfl, (by simp only [cond_true, List.setIfInBounds_toArray, List.set_cons_zero, List.set_cons_succ]), bl_step hb hb0, hq18, (fun t => (hr18 t).later hb)⟩
    case s7 =>
      intro ff gg KK hK
      have f0 : l7 = false := ff
      clear ff gg
      subst f0
      simp only [cond_false]
      go_simp
      exact hK _ _ ⟨l0, l1, l2, l3, l4, l5, l6, true, l8, l9, l10, l11, l12, l13, l14, l15, l16, l17, l18, l19, EX, rfl, (by simp only [cond_true, List.setIfInBounds_toArray, List.set_cons_zero, List.set_cons_succ]), hb0, hq18, hr18⟩
    case s8 =>
      intro ff gg KK hK
      have f0 : l8 = false := ff
      clear ff gg
      subst f0
      simp only [cond_false]
      go_simp
      exact hK _ _ ⟨l0, l1, l2, l3, l4, l5, l6, l7, true, l9, l10, l11, l12, l13, l14, l15, l16, l17, l18, l19, EX, rfl, (by simp only [cond_true, List.setIfInBounds_toArray, List.set_cons_zero, List.set_cons_succ]), hb0, hq18, hr18⟩
    case s9 =>
      intro ff gg KK hK
      have f0 : l9 = false := ff
      clear ff gg
      subst f0
      simp only [cond_false]
      go_simp
      exact hK _ _ ⟨l0, l1, l2, l3, l4, l5, l6, l7, l8, true, l10, l11, l12, l13, l14, l15, l16, l17, l18, l19, EX, rfl, (by simp only [cond_true, List.setIfInBounds_toArray, List.set_cons_zero, List.set_cons_succ]), hb0, hq18, hr18⟩
    case s10 =>
      intro ff gg KK hK
      have t9 : l9 = true := gg ⟨9, .data⟩ (by simp) (by rfl)
      have f0 : l10 = false := ff
      clear ff gg
      subst t9
      subst f0
      simp only [cond_true, cond_false]
      have cc0 : vv.cell? ⟨BP, 2, none⟩ = some (.int .i64 c1l) := cell_later hb0 p2
      have cc1 : vv.cell? ⟨BP, 3, none⟩ = some (.int .i64 c1h) := cell_later hb0 p3
      go_simp
      exact hK _ _ ⟨l0, l1, l2, l3, l4, l5, l6, l7, l8, true, true, l11, l12, l13, l14, l15, l16, l17, l18, l19, EX, rfl, (by simp only [cond_true, List.setIfInBounds_toArray, List.set_cons_zero, List.set_cons_succ]), hb0, hq18, hr18⟩
    case s11 =>
      intro ff gg KK hK
      have f0 : l11 = false := ff
      clear ff gg
      subst f0
      simp only [cond_false]
      go_simp
      exact hK _ _ ⟨l0, l1, l2, l3, l4, l5, l6, l7, l8, l9, l10, true, l12, l13, l14, l15, l16, l17, l18, l19, EX, rfl, (by simp only [cond_true, List.setIfInBounds_toArray, List.set_cons_zero, List.set_cons_succ]), hb0, hq18, hr18⟩
    case s12 =>
      intro ff gg KK hK
      have t11 : l11 = true := gg ⟨11, .data⟩ (by simp) (by rfl)
      have f0 : l12 = false := ff
      clear ff gg
      subst t11
      subst f0
      simp only [cond_true, cond_false]
      have cc0 : vv.cell? ⟨BP, 6, none⟩ = some (.int .i64 c2l) := cell_later hb0 p6
      have cc1 : vv.cell? ⟨BP, 7, none⟩ = some (.int .i64 c2h) := cell_later hb0 p7
      go_simp
      exact hK _ _ ⟨l0, l1, l2, l3, l4, l5, l6, l7, l8, l9, l10, true, true, l13, l14, l15, l16, l17, l18, l19, EX, rfl, (by simp only [cond_true, List.setIfInBounds_toArray, List.set_cons_zero, List.set_cons_succ]), hb0, hq18, hr18⟩
    case s13 =>
      intro ff gg KK hK
      have t8 : l8 = true := gg ⟨8, .data⟩ (by simp) (by rfl)
      have t10 : l10 = true := gg ⟨10, .data⟩ (by simp) (by rfl)
      have t12 : l12 = true := gg ⟨12, .data⟩ (by simp) (by rfl)
      have f0 : l13 = false := ff
      clear ff gg
      subst t8 t10 t12
      subst f0
      simp only [cond_true, cond_false]
      go_simp
      ((go_at_call 202; ((with_reducible refine (ccmul_any c1l c1h c2l c2h nl nh (w.heap.size + 1 + 1) _ (okAt_later hb0 hok) M2).mono ?_); rintro e w' ⟨rfl, hb⟩)))
      exact hK _ _ ⟨l0, l1, l2, l3, l4, l5, l6, l7, true, l9, true, l11, true, true, l14, l15, l16, l17, l18, l19, EX, rfl, (by simp only [cond_true, List.setIfInBounds_toArray, List.set_cons_zero, List.set_cons_succ]), bl_step hb hb0, hq18, (fun t => (hr18 t).later hb)⟩
    case s14 =>
      intro ff gg KK hK
      have f0 : l14 = false := ff
      clear ff gg
      subst f0
      simp only [cond_false]
      go_simp
      exact hK _ _ ⟨l0, l1, l2, l3, l4, l5, l6, l7, l8, l9, l10, l11, l12, l13, true, l15, l16, l17, l18, l19, EX, rfl, (by simp only [cond_true, List.setIfInBounds_toArray, List.set_cons_zero, List.set_cons_succ]), hb0, hq18, hr18⟩
    case s15 =>
      intro ff gg KK hK
      have t14 : l14 = true := gg ⟨14, .data⟩ (by simp) (by rfl)
      have f0 : l15 = false := ff
      clear ff gg
      subst t14
      subst f0
      simp only [cond_true, cond_false]
      have cc0 : vv.cell? ⟨BP, 10, none⟩ = some (.int .i64 c3l) := cell_later hb0 p10
      have cc1 : vv.cell? ⟨BP, 11, none⟩ = some (.int .i64 c3h) := cell_later hb0 p11
      go_simp
      exact hK _ _ ⟨l0, l1, l2, l3, l4, l5, l6, l7, l8, l9, l10, l11, l12, l13, true, true, l16, l17, l18, l19, EX, rfl, (by simp only [cond_true, List.setIfInBounds_toArray, List.set_cons_zero, List.set_cons_succ]), hb0, hq18, hr18⟩
    case s16 =>
      intro ff gg KK hK
      have t7 : l7 = true := gg ⟨7, .data⟩ (by simp) (by rfl)
      have t13 : l13 = true := gg ⟨13, .data⟩ (by simp) (by rfl)
      have t15 : l15 = true := gg ⟨15, .data⟩ (by simp) (by rfl)
      have f0 : l16 = false := ff
      clear ff gg
      subst t7 t13 t15
      subst f0
      simp only [cond_true, cond_false]
      go_simp
      ((go_at_call 202; ((with_reducible refine (ccmul_any nl nh c3l c3h kl kh (w.heap.size + 1 + 1) _ (okAt_later hb0 hok) M3).mono ?_); rintro e w' ⟨rfl, hb⟩)))
      exact hK _ _ ⟨l0, l1, l2, l3, l4, l5, l6, true, l8, l9, l10, l11, l12, true, l14, true, true, l17, l18, l19, EX, rfl, (by simp only [cond_true, List.setIfInBounds_toArray, List.set_cons_zero, List.set_cons_succ]), bl_step hb hb0, hq18, (fun t => (hr18 t).later hb)⟩
    case s17 =>
      intro ff gg KK hK
      have t0 : l0 = true := gg ⟨0, .data⟩ (by simp) (by rfl)
      have t6 : l6 = true := gg ⟨6, .data⟩ (by simp) (by rfl)
      have t16 : l16 = true := gg ⟨16, .data⟩ (by simp) (by rfl)
      have f0 : l17 = false := ff
      clear ff gg
      subst t0 t6 t16
      subst f0
      simp only [cond_true, cond_false]
      go_simp
      ((go_at_call 201; ((with_reducible refine (ccadd_any ml mh kl kh xl xh (w.heap.size + 1 + 1) _ (okAt_later hb0 hok) A).mono ?_); rintro e w' ⟨rfl, hb⟩)))
      exact hK _ _ ⟨true, l1, l2, l3, l4, l5, true, l7, l8, l9, l10, l11, l12, l13, l14, l15, true, true, l18, l19, EX, rfl, (by simp only [cond_true, List.setIfInBounds_toArray, List.set_cons_zero, List.set_cons_succ]), bl_step hb hb0, hq18, (fun t => (hr18 t).later hb)⟩
    case s18 =>
      intro ff gg KK hK
      have f0 : l18 = false := ff
      clear ff gg
      subst f0
      simp only [cond_false]
      go_simp
      exact hK _ _ ⟨l0, l1, l2, l3, l4, l5, l6, l7, l8, l9, l10, l11, l12, l13, l14, l15, l16, l17, true, l19, vv.heap.size, rfl, (by simp only [cond_true, List.setIfInBounds_toArray, List.set_cons_zero, List.set_cons_succ]), (by (repeat (first | (with_reducible exact Below.refl _ _) | (with_reducible refine Below.setCell ?_ (by (first | (simp; done) | (simp; omega) | omega)) _) | (with_reducible refine bl_alloc ?_ _) | (with_reducible refine bl_drewN ?_) | (with_reducible refine bl_drew ?_) | (with_reducible refine bl_step (by assumption) ?_)))), (fun _ => rfl), (fun _ => Room2.alloc hb0 _ _ _ _ _ _ hq18)⟩
    case s19 =>
      intro ff gg KK hK
      have t18 : l18 = true := gg ⟨18, .data⟩ (by simp) (by rfl)
      have t17 : l17 = true := gg ⟨17, .data⟩ (by simp) (by rfl)
      have f0 : l19 = false := ff
      clear ff gg
      subst t18 t17
      subst f0
      simp only [cond_true]
      have rr := hr18 rfl
      obtain ⟨m1, m2, fz0, fz1, y0, y1, cz0, cz1, m7⟩ := rr
      go_simp
      exact hK _ _ ⟨l0, l1, l2, l3, l4, l5, l6, l7, l8, l9, l10, l11, l12, l13, l14, l15, l16, true, true, true, EX, rfl, (by simp only [cond_true, List.setIfInBounds_toArray, List.set_cons_zero, List.set_cons_succ]), ((hb0.setCell m1 _).setCell m1 _), (fun _ => rfl), (fun _ => (hr18 rfl).store _ _ _)⟩
  case hdone =>
    intro LL aa vv h hd
    obtain ⟨l0, l1, l2, l3, l4, l5, l6, l7, l8, l9, l10, l11, l12, l13, l14, l15, l16, l17, l18, l19, EX, hL, ha, hb0, hq18, hr18⟩ := h
    rw [hL] at hd
    have t0 : l0 = true := hd 0 (by decide)
    have t1 : l1 = true := hd 1 (by decide)
    have t2 : l2 = true := hd 2 (by decide)
    have t3 : l3 = true := hd 3 (by decide)
    have t4 : l4 = true := hd 4 (by decide)
    have t5 : l5 = true := hd 5 (by decide)
    have t6 : l6 = true := hd 6 (by decide)
    have t7 : l7 = true := hd 7 (by decide)
    have t8 : l8 = true := hd 8 (by decide)
    have t9 : l9 = true := hd 9 (by decide)
    have t10 : l10 = true := hd 10 (by decide)
    have t11 : l11 = true := hd 11 (by decide)
    have t12 : l12 = true := hd 12 (by decide)
    have t13 : l13 = true := hd 13 (by decide)
    have t14 : l14 = true := hd 14 (by decide)
    have t15 : l15 = true := hd 15 (by decide)
    have t16 : l16 = true := hd 16 (by decide)
    have t17 : l17 = true := hd 17 (by decide)
    have t18 : l18 = true := hd 18 (by decide)
    have t19 : l19 = true := hd 19 (by decide)
    clear hd hL hq18
    subst t0 t1 t2 t3 t4 t5 t6 t7 t8 t9 t10 t11 t12 t13 t14 t15 t16 t17 t18 t19
    simp only [cond_true, List.setIfInBounds_toArray, List.set_cons_zero, List.set_cons_succ] at ha
    subst ha
    obtain ⟨EXg, EXl, EXf0, EXf1, y0, y1, EXc0, EXc1, hy⟩ := hr18 rfl
    obtain ⟨rfl, rfl⟩ := hy rfl
    clear hr18
    have hok := okAt_later hb0 hok
    have r0 := cell_later hb0 r0
    have r1 := cell_later hb0 r1
    have rf : ∀ o, vv.frozen? ⟨w.heap.size + 1, o, none⟩ = false := fun o => (hb0.frozen (p := ⟨w.heap.size + 1, o, none⟩) g1).trans (rf o)
    have hw1 : Below w.heap.size w vv := Below.trans hw0 (hb0.mono (by omega))
    have g9 := hb0.size
    have g1 : w.heap.size + 1 < vv.heap.size := by omega
    have gB := okAt_lt hok
    obtain ⟨ok1, ok2⟩ := hok
    clear hw0 hb0 g9 p0 p1 p2 p3 p4 p5 p6 p7 p8 p9 p10 p11
    go_wp2_with (go_at_call 203; ((with_reducible refine (AS.out _).mono ?_); rintro e w' ⟨rfl, hb⟩); (try replace hb := below_undrew hb); (try replace hb := below_undrewN hb); obtain ⟨hcell, hfroz⟩ := bcell hb; have hz := hb.size; (try simp at hz); (try (have z9 := Nat.lt_of_lt_of_le (Nat.lt_succ_self _) hz)); (try have z0 : w.heap.size < w'.heap.size := by omega); (try have z1 : w.heap.size + 1 < w'.heap.size := by omega); (try have z2 : w.heap.size + 1 + 1 < w'.heap.size := by omega); (try have z3 : w.heap.size + 1 + 1 + 1 < w'.heap.size := by omega); (try have y1 : w1.heap.size < w'.heap.size := by omega); (try have x1 : w1.heap.size + 1 < w'.heap.size := by omega); obtain ⟨w3, rfl⟩ : ∃ v, v = w' := ⟨_, rfl⟩)
    exact bodyPost_ret (v := .tuple #[.agg #[.int .i64 L, .int .i64 H], .int .i64 0]) (by first | (simp only [results, Tryz.results116]; go_simp; done) | simp [results, Tryz.results116, go_sem, *]) rfl ⟨rfl, by (repeat (first | (with_reducible exact Below.refl _ _) | (with_reducible refine Below.setCell ?_ (by (first | (simp; done) | (simp; omega) | omega)) _) | (with_reducible refine bl_alloc ?_ _) | (with_reducible refine bl_drewN ?_) | (with_reducible refine bl_drew ?_) | (with_reducible refine bl_step (by assumption) ?_)))⟩
theorem calt_ok (a b c d e f L H : Int) (w : World)
    (V : Hid (∀ w, Calls Tryz.prog 115 #[.agg #[.int .i64 a, .int .i64 b, .int .i64 c, .int .i64 d, .int .i64 e, .int .i64 f]] w fun e w' => e = .returned (.bool true) ∧ Below w.heap.size w w'))
    (A : Hid (∀ w, Calls Tryz.prog 116 #[.agg #[.int .i64 a, .int .i64 b, .int .i64 c, .int .i64 d, .int .i64 e, .int .i64 f]] w fun e w' => e = .returned (.tuple #[.agg #[.int .i64 L, .int .i64 H], .int .i64 0]) ∧ Below w.heap.size w w')) :
    Calls Tryz.prog 38 #[.agg #[.int .i64 a, .int .i64 b, .int .i64 c, .int .i64 d, .int .i64 e, .int .i64 f]] w fun e w' => e = .returned (.tuple #[.agg #[.int .i64 L, .int .i64 H], .int .i64 0]) ∧ Below w.heap.size w w' := by
  go_enter Tryz.func38, Tryz.ntmps38
  go_wp2_with (((first | (go_at_call 115; ((with_reducible refine (V.out _).mono ?_); rintro e w' ⟨rfl, hb⟩); have nm0 := trivial) | (go_at_call 116; ((with_reducible refine (A.out _).mono ?_); rintro e w' ⟨rfl, hb⟩); have nm1 := trivial)); (try replace hb := below_undrew hb); (try replace hb := below_undrewN hb); obtain ⟨hcell, hfroz⟩ := bcell hb; have hz := hb.size; (try simp at hz); (try (have z9 := Nat.lt_of_lt_of_le (Nat.lt_succ_self _) hz)); (try have z0 : w.heap.size < w'.heap.size := by omega); (try have z1 : w.heap.size + 1 < w'.heap.size := by omega); (try have z2 : w.heap.size + 1 + 1 < w'.heap.size := by omega); (try have z3 : w.heap.size + 1 + 1 + 1 < w'.heap.size := by omega); (try have y1 : w1.heap.size < w'.heap.size := by omega); (try have x1 : w1.heap.size + 1 < w'.heap.size := by omega); (try have z10 : w1.heap.size < w'.heap.size + 1 := by omega); (first | (clear nm0; obtain ⟨w1, rfl⟩ : ∃ v, v = w' := ⟨_, rfl⟩) | (clear nm1; obtain ⟨w2, rfl⟩ : ∃ v, v = w' := ⟨_, rfl⟩))))
  exact bodyPost_ret (v := .tuple #[.agg #[.int .i64 L, .int .i64 H], .int .i64 0]) (by first | (simp only [results, Tryz.results38]; go_simp; done) | simp [results, Tryz.results38, go_sem, *]) rfl ⟨rfl, by (repeat (first | (with_reducible exact Below.refl _ _) | (with_reducible refine Below.setCell ?_ (by (first | (simp; done) | (simp; omega) | omega)) _) | (with_reducible refine bl_alloc ?_ _) | (with_reducible refine bl_drewN ?_) | (with_reducible refine bl_drew ?_) | (with_reducible refine bl_step (by assumption) ?_)))⟩
end Go.Proofs.YtdhbeoahpfimbaaGreat
