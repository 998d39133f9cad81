/- Several small texts in one: XGrA, XGrB, XGrC, XGrD. -/
import Derived.Test.YtdhbeoahpfimbaaGreatTg
import Derived.Test.YtdhbeoahpfimbaaGreatFixC
import Derived.Test.YtdhbeoahpfimbaaGreatRa
import Derived.Test.YtdhbeoahpfimbaaGreatArcW
import Derived.Test.YtdhbeoahpfimbaaGreatAg
import Derived.BigQuiet
namespace Go.Proofs.YtdhbeoahpfimbaaGreat
open Go.RowKit
/-- what a chain without an error holds -/
def okAt (w : World) (B : Nat) : Prop := w.cell? ⟨B, 0, none⟩ = some (.int .i64 0) ∧ w.frozen? ⟨B, 0, none⟩ = false
theorem okAt_later {w w' : World} {B : Nat} (hb : Below w.heap.size w w') (h : okAt w B) : okAt w' B :=
  have l := World.block_lt_of_cell? _ _ h.1
  ⟨(hb.cell (p := ⟨B, 0, none⟩) l).trans h.1, (hb.frozen (p := ⟨B, 0, none⟩) l).trans h.2⟩
theorem okAt_rd {w : World} {B d : Nat} {os : Array Obj} (h : okAt w B) : okAt (Go.Sort.grow (redrawn w d) os) B :=
  have l := World.block_lt_of_cell? _ _ h.1
  ⟨((below_regrown w d os).cell (p := ⟨B, 0, none⟩) l).trans h.1, ((below_regrown w d os).frozen (p := ⟨B, 0, none⟩) l).trans h.2⟩
theorem okAt_lt {w : World} {B : Nat} (h : okAt w B) : B < w.heap.size := World.block_lt_of_cell? _ _ h.1
theorem gnumber_any (a b : Int) (B1 : Nat) (w : World) (h : okAt w B1) :
    Calls Tryz.prog 146 #[.pointer (some ⟨B1, 0, none⟩), .agg #[.int .i64 a, .int .i64 b], .int .i64 0] w fun e w' => e = .returned (.agg #[.int .i64 a, .int .i64 b]) ∧ Below w.heap.size w w' := by
  have hB := okAt_lt h
  have h4 : B1 < w.heap.size + 1 := (by omega)
  have h5 : B1 < w.heap.size + 1 + 1 := (by omega)
  obtain ⟨h1, h2⟩ := h
  have hs : ((w.alloc (Obj.cells #[.int .i64 a, .int .i64 b] 52)).alloc (Obj.cells #[.int .i64 0, .int .i64 0] 52)).setCell ⟨B1, 0, none⟩ (.int .i64 0) = (w.alloc (Obj.cells #[.int .i64 a, .int .i64 b] 52)).alloc (Obj.cells #[.int .i64 0, .int .i64 0] 52) := setCell_self (by simp [go_sem, *])
  go_enter Tryz.func146, Tryz.ntmps146
  go_wp2
  exact bodyPost_ret (v := .agg #[.int .i64 a, .int .i64 b]) (by first | (simp only [results, Tryz.results146]; go_simp; done) | simp [results, Tryz.results146, go_sem, *]) rfl ⟨rfl, by (repeat (first | (with_reducible exact Below.refl _ _) | (with_reducible refine Below.setCell ?_ (by (first | (simp; done) | (simp; omega) | omega)) _) | (with_reducible refine bl_alloc ?_ _) | (with_reducible refine bl_drewN ?_) | (with_reducible refine bl_drew ?_) | (with_reducible refine bl_step (by assumption) ?_)))⟩
theorem garc_any (a b : Int) (B1 : Nat) (w : World) (h : okAt w B1) :
    Calls Tryz.prog 145 #[.pointer (some ⟨B1, 0, none⟩), .agg #[.int .i64 a, .int .i64 b], .int .i64 0] w fun e w' => e = .returned (.agg #[.int .i64 a, .int .i64 b]) ∧ Below w.heap.size w w' := by
  have hB := okAt_lt h
  have h4 : B1 < w.heap.size + 1 := (by omega)
  have h5 : B1 < w.heap.size + 1 + 1 := (by omega)
  obtain ⟨h1, h2⟩ := h
  have hs : ((w.alloc (Obj.cells #[.int .i64 a, .int .i64 b] 23)).alloc (Obj.cells #[.int .i64 0, .int .i64 0] 23)).setCell ⟨B1, 0, none⟩ (.int .i64 0) = (w.alloc (Obj.cells #[.int .i64 a, .int .i64 b] 23)).alloc (Obj.cells #[.int .i64 0, .int .i64 0] 23) := setCell_self (by simp [go_sem, *])
  go_enter Tryz.func145, Tryz.ntmps145
  go_wp2
  exact bodyPost_ret (v := .agg #[.int .i64 a, .int .i64 b]) (by first | (simp only [results, Tryz.results145]; go_simp; done) | simp [results, Tryz.results145, go_sem, *]) rfl ⟨rfl, by (repeat (first | (with_reducible exact Below.refl _ _) | (with_reducible refine Below.setCell ?_ (by (first | (simp; done) | (simp; omega) | omega)) _) | (with_reducible refine bl_alloc ?_ _) | (with_reducible refine bl_drewN ?_) | (with_reducible refine bl_drew ?_) | (with_reducible refine bl_step (by assumption) ?_)))⟩
theorem gsin_any (a b x y : Int) (B1 : Nat) (w : World) (h : okAt w B1)
    (S : Hid (∀ w, Calls Tryz.prog 125 #[.agg #[.int .i64 a, .int .i64 b]] w fun e w' => e = .returned (.tuple #[.agg #[.int .i64 x, .int .i64 y], .int .i64 0]) ∧ Below w.heap.size w w')) :
    Calls Tryz.prog 142 #[.pointer (some ⟨B1, 0, none⟩), .agg #[.int .i64 a, .int .i64 b]] w fun e w' => e = .returned (.agg #[.int .i64 x, .int .i64 y]) ∧ Below w.heap.size w w' := by
  have hB := okAt_lt h
  have K := hidden fun w' (hb : Below w.heap.size w w') => gnumber_any x y B1 w' (okAt_later hb h)
  go_enter Tryz.func142, Tryz.ntmps142
  go_wp2_with (((first | (go_at_call 125; ((with_reducible refine (S.out _).mono ?_); rintro e w' ⟨rfl, hb⟩); have nm0 := trivial) | (go_at_call 146; ((with_reducible refine (K.out _ ?kb).mono ?_); (case kb => ((repeat (first | (with_reducible exact Below.refl _ _) | (with_reducible refine Below.setCell ?_ (by (first | (simp; done) | (simp; omega) | omega)) _) | (with_reducible refine bl_alloc ?_ _) | (with_reducible refine bl_drewN ?_) | (with_reducible refine bl_drew ?_) | (with_reducible refine bl_step (by assumption) ?_))); done)); rintro e w' ⟨rfl, hb⟩); have nm1 := trivial)); obtain ⟨hcell, hfroz⟩ := bcell hb; have hz := hb.size; (try simp at hz); (try have z0 : w.heap.size < w'.heap.size := by omega); (try have z1 : w.heap.size + 1 < w'.heap.size := by omega); (try have z2 : w.heap.size + 1 + 1 < w'.heap.size := by omega); (try have hB1 : B1 < w'.heap.size := by omega); (try have hB3 : B1 < w'.heap.size + 1 := by omega); (first | (clear nm0; obtain ⟨w1, rfl⟩ : ∃ v, v = w' := ⟨_, rfl⟩) | (clear nm1; obtain ⟨w2, rfl⟩ : ∃ v, v = w' := ⟨_, rfl⟩))))
  exact bodyPost_ret (v := .agg #[.int .i64 x, .int .i64 y]) (by first | (simp only [results, Tryz.results142]; go_simp; done) | simp [results, Tryz.results142, go_sem, *]) rfl ⟨rfl, by (repeat (first | (with_reducible exact Below.refl _ _) | (with_reducible refine Below.setCell ?_ (by (first | (simp; done) | (simp; omega) | omega)) _) | (with_reducible refine bl_alloc ?_ _) | (with_reducible refine bl_drewN ?_) | (with_reducible refine bl_drew ?_) | (with_reducible refine bl_step (by assumption) ?_)))⟩
theorem gcos_any (a b x y : Int) (B1 : Nat) (w : World) (h : okAt w B1)
    (S : Hid (∀ w, Calls Tryz.prog 124 #[.agg #[.int .i64 a, .int .i64 b]] w fun e w' => e = .returned (.tuple #[.agg #[.int .i64 x, .int .i64 y], .int .i64 0]) ∧ Below w.heap.size w w')) :
    Calls Tryz.prog 143 #[.pointer (some ⟨B1, 0, none⟩), .agg #[.int .i64 a, .int .i64 b]] w fun e w' => e = .returned (.agg #[.int .i64 x, .int .i64 y]) ∧ Below w.heap.size w w' := by
  have hB := okAt_lt h
  have K := hidden fun w' (hb : Below w.heap.size w w') => gnumber_any x y B1 w' (okAt_later hb h)
  go_enter Tryz.func143, Tryz.ntmps143
  go_wp2_with (((first | (go_at_call 124; ((with_reducible refine (S.out _).mono ?_); rintro e w' ⟨rfl, hb⟩); have nm0 := trivial) | (go_at_call 146; ((with_reducible refine (K.out _ ?kb).mono ?_); (case kb => ((repeat (first | (with_reducible exact Below.refl _ _) | (with_reducible refine Below.setCell ?_ (by (first | (simp; done) | (simp; omega) | omega)) _) | (with_reducible refine bl_alloc ?_ _) | (with_reducible refine bl_drewN ?_) | (with_reducible refine bl_drew ?_) | (with_reducible refine bl_step (by assumption) ?_))); done)); rintro e w' ⟨rfl, hb⟩); have nm1 := trivial)); obtain ⟨hcell, hfroz⟩ := bcell hb; have hz := hb.size; (try simp at hz); (try have z0 : w.heap.size < w'.heap.size := by omega); (try have z1 : w.heap.size + 1 < w'.heap.size := by omega); (try have z2 : w.heap.size + 1 + 1 < w'.heap.size := by omega); (try have hB1 : B1 < w'.heap.size := by omega); (try have hB3 : B1 < w'.heap.size + 1 := by omega); (first | (clear nm0; obtain ⟨w1, rfl⟩ : ∃ v, v = w' := ⟨_, rfl⟩) | (clear nm1; obtain ⟨w2, rfl⟩ : ∃ v, v = w' := ⟨_, rfl⟩))))
  exact bodyPost_ret (v := .agg #[.int .i64 x, .int .i64 y]) (by first | (simp only [results, Tryz.results143]; go_simp; done) | simp [results, Tryz.results143, go_sem, *]) rfl ⟨rfl, by (repeat (first | (with_reducible exact Below.refl _ _) | (with_reducible refine Below.setCell ?_ (by (first | (simp; done) | (simp; omega) | omega)) _) | (with_reducible refine bl_alloc ?_ _) | (with_reducible refine bl_drewN ?_) | (with_reducible refine bl_drew ?_) | (with_reducible refine bl_step (by assumption) ?_)))⟩
theorem gmul_any (a b c d x y : Int) (B1 : Nat) (w : World) (h : okAt w B1)
    (S : Hid (∀ w, Calls Tryz.prog 150 #[.agg #[.int .i64 a, .int .i64 b], .agg #[.int .i64 c, .int .i64 d]] w fun e w' => e = .returned (.tuple #[.agg #[.int .i64 x, .int .i64 y], .int .i64 0]) ∧ Below w.heap.size w w')) :
    Calls Tryz.prog 141 #[.pointer (some ⟨B1, 0, none⟩), .agg #[.int .i64 a, .int .i64 b], .agg #[.int .i64 c, .int .i64 d]] w fun e w' => e = .returned (.agg #[.int .i64 x, .int .i64 y]) ∧ Below w.heap.size w w' := by
  have hB := okAt_lt h
  have K := hidden fun w' (hb : Below w.heap.size w w') => gnumber_any x y B1 w' (okAt_later hb h)
  go_enter Tryz.func141, Tryz.ntmps141
  go_wp2_with (((first | (go_at_call 150; ((with_reducible refine (S.out _).mono ?_); rintro e w' ⟨rfl, hb⟩); have nm0 := trivial) | (go_at_call 146; ((with_reducible refine (K.out _ ?kb).mono ?_); (case kb => ((repeat (first | (with_reducible exact Below.refl _ _) | (with_reducible refine Below.setCell ?_ (by (first | (simp; done) | (simp; omega) | omega)) _) | (with_reducible refine bl_alloc ?_ _) | (with_reducible refine bl_drewN ?_) | (with_reducible refine bl_drew ?_) | (with_reducible refine bl_step (by assumption) ?_))); done)); rintro e w' ⟨rfl, hb⟩); have nm1 := trivial)); obtain ⟨hcell, hfroz⟩ := bcell hb; have hz := hb.size; (try simp at hz); (try have z0 : w.heap.size < w'.heap.size := by omega); (try have z1 : w.heap.size + 1 < w'.heap.size := by omega); (try have z2 : w.heap.size + 1 + 1 < w'.heap.size := by omega); (try have hB1 : B1 < w'.heap.size := by omega); (try have hB3 : B1 < w'.heap.size + 1 := by omega); (first | (clear nm0; obtain ⟨w1, rfl⟩ : ∃ v, v = w' := ⟨_, rfl⟩) | (clear nm1; obtain ⟨w2, rfl⟩ : ∃ v, v = w' := ⟨_, rfl⟩))))
  exact bodyPost_ret (v := .agg #[.int .i64 x, .int .i64 y]) (by first | (simp only [results, Tryz.results141]; go_simp; done) | simp [results, Tryz.results141, go_sem, *]) rfl ⟨rfl, by (repeat (first | (with_reducible exact Below.refl _ _) | (with_reducible refine Below.setCell ?_ (by (first | (simp; done) | (simp; omega) | omega)) _) | (with_reducible refine bl_alloc ?_ _) | (with_reducible refine bl_drewN ?_) | (with_reducible refine bl_drew ?_) | (with_reducible refine bl_step (by assumption) ?_)))⟩
theorem gadd_any (a b c d x y : Int) (B1 : Nat) (w : World) (h : okAt w B1)
    (S : Hid (∀ w, Calls Tryz.prog 49 #[.agg #[.int .i64 a, .int .i64 b], .agg #[.int .i64 c, .int .i64 d]] w fun e w' => e = .returned (.tuple #[.agg #[.int .i64 x, .int .i64 y], .int .i64 0]) ∧ Below w.heap.size w w')) :
    Calls Tryz.prog 148 #[.pointer (some ⟨B1, 0, none⟩), .agg #[.int .i64 a, .int .i64 b], .agg #[.int .i64 c, .int .i64 d]] w fun e w' => e = .returned (.agg #[.int .i64 x, .int .i64 y]) ∧ Below w.heap.size w w' := by
  have hB := okAt_lt h
  have K := hidden fun w' (hb : Below w.heap.size w w') => gnumber_any x y B1 w' (okAt_later hb h)
  go_enter Tryz.func148, Tryz.ntmps148
  go_wp2_with (((first | (go_at_call 49; ((with_reducible refine (S.out _).mono ?_); rintro e w' ⟨rfl, hb⟩); have nm0 := trivial) | (go_at_call 146; ((with_reducible refine (K.out _ ?kb).mono ?_); (case kb => ((repeat (first | (with_reducible exact Below.refl _ _) | (with_reducible refine Below.setCell ?_ (by (first | (simp; done) | (simp; omega) | omega)) _) | (with_reducible refine bl_alloc ?_ _) | (with_reducible refine bl_drewN ?_) | (with_reducible refine bl_drew ?_) | (with_reducible refine bl_step (by assumption) ?_))); done)); rintro e w' ⟨rfl, hb⟩); have nm1 := trivial)); obtain ⟨hcell, hfroz⟩ := bcell hb; have hz := hb.size; (try simp at hz); (try have z0 : w.heap.size < w'.heap.size := by omega); (try have z1 : w.heap.size + 1 < w'.heap.size := by omega); (try have z2 : w.heap.size + 1 + 1 < w'.heap.size := by omega); (try have hB1 : B1 < w'.heap.size := by omega); (try have hB3 : B1 < w'.heap.size + 1 := by omega); (first | (clear nm0; obtain ⟨w1, rfl⟩ : ∃ v, v = w' := ⟨_, rfl⟩) | (clear nm1; obtain ⟨w2, rfl⟩ : ∃ v, v = w' := ⟨_, rfl⟩))))
  exact bodyPost_ret (v := .agg #[.int .i64 x, .int .i64 y]) (by first | (simp only [results, Tryz.results148]; go_simp; done) | simp [results, Tryz.results148, go_sem, *]) rfl ⟨rfl, by (repeat (first | (with_reducible exact Below.refl _ _) | (with_reducible refine Below.setCell ?_ (by (first | (simp; done) | (simp; omega) | omega)) _) | (with_reducible refine bl_alloc ?_ _) | (with_reducible refine bl_drewN ?_) | (with_reducible refine bl_drew ?_) | (with_reducible refine bl_step (by assumption) ?_)))⟩
theorem gsub_any (a b c d x y : Int) (B1 : Nat) (w : World) (h : okAt w B1)
    (S : Hid (∀ w, Calls Tryz.prog 224 #[.agg #[.int .i64 a, .int .i64 b], .agg #[.int .i64 c, .int .i64 d]] w fun e w' => e = .returned (.tuple #[.agg #[.int .i64 x, .int .i64 y], .int .i64 0]) ∧ Below w.heap.size w w')) :
    Calls Tryz.prog 144 #[.pointer (some ⟨B1, 0, none⟩), .agg #[.int .i64 a, .int .i64 b], .agg #[.int .i64 c, .int .i64 d]] w fun e w' => e = .returned (.agg #[.int .i64 x, .int .i64 y]) ∧ Below w.heap.size w w' := by
  have hB := okAt_lt h
  have K := hidden fun w' (hb : Below w.heap.size w w') => gnumber_any x y B1 w' (okAt_later hb h)
  go_enter Tryz.func144, Tryz.ntmps144
  go_wp2_with (((first | (go_at_call 224; ((with_reducible refine (S.out _).mono ?_); rintro e w' ⟨rfl, hb⟩); have nm0 := trivial) | (go_at_call 146; ((with_reducible refine (K.out _ ?kb).mono ?_); (case kb => ((repeat (first | (with_reducible exact Below.refl _ _) | (with_reducible refine Below.setCell ?_ (by (first | (simp; done) | (simp; omega) | omega)) _) | (with_reducible refine bl_alloc ?_ _) | (with_reducible refine bl_drewN ?_) | (with_reducible refine bl_drew ?_) | (with_reducible refine bl_step (by assumption) ?_))); done)); rintro e w' ⟨rfl, hb⟩); have nm1 := trivial)); obtain ⟨hcell, hfroz⟩ := bcell hb; have hz := hb.size; (try simp at hz); (try have z0 : w.heap.size < w'.heap.size := by omega); (try have z1 : w.heap.size + 1 < w'.heap.size := by omega); (try have z2 : w.heap.size + 1 + 1 < w'.heap.size := by omega); (try have hB1 : B1 < w'.heap.size := by omega); (try have hB3 : B1 < w'.heap.size + 1 := by omega); (first | (clear nm0; obtain ⟨w1, rfl⟩ : ∃ v, v = w' := ⟨_, rfl⟩) | (clear nm1; obtain ⟨w2, rfl⟩ : ∃ v, v = w' := ⟨_, rfl⟩))))
  exact bodyPost_ret (v := .agg #[.int .i64 x, .int .i64 y]) (by first | (simp only [results, Tryz.results144]; go_simp; done) | simp [results, Tryz.results144, go_sem, *]) rfl ⟨rfl, by (repeat (first | (with_reducible exact Below.refl _ _) | (with_reducible refine Below.setCell ?_ (by (first | (simp; done) | (simp; omega) | omega)) _) | (with_reducible refine bl_alloc ?_ _) | (with_reducible refine bl_drewN ?_) | (with_reducible refine bl_drew ?_) | (with_reducible refine bl_step (by assumption) ?_)))⟩
theorem gone_any (n : Int) (w : World) :
    Calls Tryz.prog 140 #[.int .i64 n] w fun e w' => e = .returned (.agg #[.int .i64 n, .int .i64 n]) ∧ Below w.heap.size w w' := by
  go_enter Tryz.func140, Tryz.ntmps140
  go_wp2
  exact bodyPost_ret (v := .agg #[.int .i64 n, .int .i64 n]) (by first | (simp only [results, Tryz.results140]; go_simp; done) | simp [results, Tryz.results140, go_sem, *]) rfl ⟨rfl, by (repeat (first | (with_reducible exact Below.refl _ _) | (with_reducible refine Below.setCell ?_ (by (first | (simp; done) | (simp; omega) | omega)) _) | (with_reducible refine bl_alloc ?_ _) | (with_reducible refine bl_drewN ?_) | (with_reducible refine bl_drew ?_) | (with_reducible refine bl_step (by assumption) ?_)))⟩
set_option maxRecDepth 100000 in
set_option maxHeartbeats 8000000 in
theorem gdist_walk (la lo lb lob dl c1l c1h c2l c2h ml mh hl hh sl sh h2l h2h tl th L H : Int) (B1 : Nat) (w : World) (ok : okAt w B1) (d0 : -100000000 ≤ lob - lo) (d1 : lob - lo ≤ 100000000) (e0 : -100000000 ≤ lb - la) (e1 : lb - la ≤ 100000000)
    (SG : Hid (∀ w, Calls Tryz.prog 21 #[.int .i64 (lob - lo)] w fun e w' => e = .returned (.int .i64 dl) ∧ w = w'))
    (C1 : Hid (∀ w, Calls Tryz.prog 124 #[.agg #[.int .i64 la, .int .i64 la]] w fun e w' => e = .returned (.tuple #[.agg #[.int .i64 c1l, .int .i64 c1h], .int .i64 0]) ∧ Below w.heap.size w w'))
    (C2 : Hid (∀ w, Calls Tryz.prog 124 #[.agg #[.int .i64 lb, .int .i64 lb]] w fun e w' => e = .returned (.tuple #[.agg #[.int .i64 c2l, .int .i64 c2h], .int .i64 0]) ∧ Below w.heap.size w w'))
    (M1 : Hid (∀ w, Calls Tryz.prog 150 #[.agg #[.int .i64 c1l, .int .i64 c1h], .agg #[.int .i64 c2l, .int .i64 c2h]] w fun e w' => e = .returned (.tuple #[.agg #[.int .i64 ml, .int .i64 mh], .int .i64 0]) ∧ Below w.heap.size w w'))
    (H1 : Hid (∀ w, Calls Tryz.prog 147 #[.agg #[.int .i64 dl, .int .i64 dl]] w fun e w' => e = .returned (.tuple #[.agg #[.int .i64 hl, .int .i64 hh], .int .i64 0]) ∧ Below w.heap.size w w'))
    (M2 : Hid (∀ w, Calls Tryz.prog 150 #[.agg #[.int .i64 ml, .int .i64 mh], .agg #[.int .i64 hl, .int .i64 hh]] w fun e w' => e = .returned (.tuple #[.agg #[.int .i64 sl, .int .i64 sh], .int .i64 0]) ∧ Below w.heap.size w w'))
    (H2 : Hid (∀ w, Calls Tryz.prog 147 #[.agg #[.int .i64 (lb - la), .int .i64 (lb - la)]] w fun e w' => e = .returned (.tuple #[.agg #[.int .i64 h2l, .int .i64 h2h], .int .i64 0]) ∧ Below w.heap.size w w'))
    (A : Hid (∀ w, Calls Tryz.prog 49 #[.agg #[.int .i64 h2l, .int .i64 h2h], .agg #[.int .i64 sl, .int .i64 sh]] w fun e w' => e = .returned (.tuple #[.agg #[.int .i64 tl, .int .i64 th], .int .i64 0]) ∧ Below w.heap.size w w'))
    (AH : Hid (∀ w, Calls Tryz.prog 79 #[.agg #[.int .i64 tl, .int .i64 th]] w fun e w' => e = .returned (.tuple #[.agg #[.int .i64 L, .int .i64 H], .int .i64 0]) ∧ Below w.heap.size w w')) :
    Calls Tryz.prog 61 #[.pointer (some ⟨B1, 0, none⟩), .agg #[.int .i64 la, .int .i64 lo], .agg #[.int .i64 lb, .int .i64 lob]] w fun e w' => e = .returned (.agg #[.int .i64 L, .int .i64 H]) ∧ Below w.heap.size w w' := by
  have hB := okAt_lt ok
  go_enter Tryz.func61, Tryz.ntmps61
  go_upto_region 2 with (go_at_call 21; ((with_reducible refine (SG.out _).mono ?_); rintro e w' ⟨rfl, rfl⟩))
  (refine name_code ?_; intro w' hb; (try replace hb := below_undrew hb); (try replace hb := below_undrewN hb); obtain ⟨hcell, hfroz⟩ := bcell hb; have hz := hb.size; (try simp at hz); (try (have z9 := Nat.lt_of_lt_of_le (Nat.lt_succ_self _) hz)); (try have z0 : w.heap.size < w'.heap.size := by omega); (try have z1 : w.heap.size + 1 < w'.heap.size := by omega); (try have z2 : w.heap.size + 1 + 1 < w'.heap.size := by omega); (try have z3 : w.heap.size + 1 + 1 + 1 < w'.heap.size := by omega))
  have hw0 : Below w.heap.size w w' := by (repeat (first | (with_reducible exact Below.refl _ _) | (with_reducible refine Below.setCell ?_ (by (first | (simp; done) | (simp; omega) | omega)) _) | (with_reducible refine bl_alloc ?_ _) | (with_reducible refine bl_drewN ?_) | (with_reducible refine bl_drew ?_) | (with_reducible refine bl_step (by assumption) ?_)))
  have a0 : w'.cell? ⟨w.heap.size, 0, none⟩ = some (.int .i64 la) := by simp [go_sem, *]
  have a1 : w'.cell? ⟨w.heap.size, 1, none⟩ = some (.int .i64 lo) := by simp [go_sem, *]
  have b0 : w'.cell? ⟨w.heap.size + 1, 0, none⟩ = some (.int .i64 lb) := by simp [go_sem, *]
  have b1 : w'.cell? ⟨w.heap.size + 1, 1, none⟩ = some (.int .i64 lob) := by simp [go_sem, *]
  have r0 : w'.cell? ⟨w.heap.size + 1 + 1, 0, none⟩ = some (.int .i64 0) := by simp [go_sem, *]
  have r1 : w'.cell? ⟨w.heap.size + 1 + 1, 1, none⟩ = some (.int .i64 0) := by simp [go_sem, *]
  have rf : ∀ o, w'.frozen? ⟨w.heap.size + 1 + 1, o, none⟩ = false := by intro o; simp [go_sem, *]
  have hok := okAt_later hw0 ok
  clear hcell hfroz hz hb
  obtain ⟨V0, rfl⟩ : ∃ v, v = w' := ⟨_, rfl⟩
  have g2 : w.heap.size + 1 + 1 < V0.heap.size := World.block_lt_of_cell? _ _ r0
  have g1 : w.heap.size + 1 < V0.heap.size := by omega
  have g0 : w.heap.size < V0.heap.size := by omega
  refine wp_region_inv (fun a0 LL aa vv => ∃ (l0 l1 l2 l3 l4 l5 l6 l7 l8 l9 l10 l11 l12 l13 l14 l15 l16 l17 l18 l19 l20 l21 l22 : Bool) (EE : Nat), LL = #[l0, l1, l2, l3, l4, l5, l6, l7, l8, l9, l10, l11, l12, l13, l14, l15, l16, l17, l18, l19, l20, l21, l22] ∧ aa = { a0 with tmps := ((((((((((((((((((((((a0.tmps.setIfInBounds 15 (cond l0 (.pointer (some ⟨B1, 0, none⟩)) (undef))).setIfInBounds 16 (cond l1 (.pointer (some ⟨B1, 0, none⟩)) (undef))).setIfInBounds 17 (cond l2 (.pointer (some ⟨B1, 0, none⟩)) (undef))).setIfInBounds 18 (cond l3 (.pointer (some ⟨w.heap.size, 0, none⟩)) (undef))).setIfInBounds 19 (cond l4 (.int .i64 la) (undef))).setIfInBounds 20 (cond l5 (.agg #[.int .i64 la, .int .i64 la]) (undef))).setIfInBounds 21 (cond l6 (.agg #[.int .i64 c1l, .int .i64 c1h]) (undef))).setIfInBounds 22 (cond l7 (.pointer (some ⟨B1, 0, none⟩)) (undef))).setIfInBounds 23 (cond l8 (.pointer (some ⟨w.heap.size + 1, 0, none⟩)) (undef))).setIfInBounds 24 (cond l9 (.int .i64 lb) (undef))).setIfInBounds 25 (cond l10 (.agg #[.int .i64 lb, .int .i64 lb]) (undef))).setIfInBounds 26 (cond l11 (.agg #[.int .i64 c2l, .int .i64 c2h]) (undef))).setIfInBounds 27 (cond l12 (.agg #[.int .i64 ml, .int .i64 mh]) (undef))).setIfInBounds 28 (cond l13 (.pointer (some ⟨B1, 0, none⟩)) (undef))).setIfInBounds 29 (cond l14 (.int .i64 dl) (undef))).setIfInBounds 30 (cond l15 (.agg #[.int .i64 dl, .int .i64 dl]) (undef))).setIfInBounds 31 (cond l16 (.tuple #[.agg #[.int .i64 hl, .int .i64 hh], .int .i64 0]) (undef))).setIfInBounds 32 (cond l17 (.agg #[.int .i64 hl, .int .i64 hh]) (undef))).setIfInBounds 33 (cond l18 (.int .i64 0) (undef))).setIfInBounds 34 (cond l19 (.agg #[.int .i64 hl, .int .i64 hh]) (undef))).setIfInBounds 35 (cond l20 (.agg #[.int .i64 sl, .int .i64 sh]) (undef))).setIfInBounds 8 (cond l21 (.pointer (some ⟨EE, 0, none⟩)) (undef))) } ∧ Below V0.heap.size V0 vv ∧ (l22 = true → l21 = true) ∧ (l21 = true → Room2 V0 vv EE l22 (sl) (sh))) (by kernel_rfl) (by kernel_rfl) ?h0 ?hsize ?hdone ?hstep
  case h0 =>
    refine ⟨false, false, false, false, false, false, false, false, false, false, false, false, false, false, false, false, false, false, false, false, false, false, false, 0, rfl, ?_, by (repeat (first | exact Below.refl _ _ | refine bl_drewN ?_ | refine bl_drew ?_ | refine bl_alloc ?_ _ | refine Below.setCell ?_ (by (first | (simp; done) | (simp; omega) | omega)) _ | refine bl_step (by assumption) ?_)), (fun h => by cases h), (fun h => by cases h)⟩
    simp only [cond_false, List.setIfInBounds_toArray, List.set_cons_zero, List.set_cons_succ]
  case hsize =>
    intro LL aa vv h
    obtain ⟨l0, l1, l2, l3, l4, l5, l6, l7, l8, l9, l10, l11, l12, l13, l14, l15, l16, l17, l18, l19, l20, l21, l22, EE, hL, _⟩ := h
    rw [hL]
    rfl
  case hstep =>
    intro LL aa vv h
    obtain ⟨l0, l1, l2, l3, l4, l5, l6, l7, l8, l9, l10, l11, l12, l13, l14, l15, l16, l17, l18, l19, l20, l21, l22, EE, hL, ha, hb0, hq21, hr21⟩ := h
    simp only [List.setIfInBounds_toArray, List.set_cons_zero, List.set_cons_succ] at ha
    subst hL
    subst ha
    refine ⟨?s0, ?s1, ?s2, ?s3, ?s4, ?s5, ?s6, ?s7, ?s8, ?s9, ?s10, ?s11, ?s12, ?s13, ?s14, ?s15, ?s16, ?s17, ?s18, ?s19, ?s20, ?s21, ?s22, trivial⟩
    case s0 =>
      intro ff gg KK hK
      have f0 : l0 = false := ff
      clear ff gg
      subst f0
      simp only [cond_false]
      go_simp
      exact hK _ _ ⟨true, l1, l2, l3, l4, l5, l6, l7, l8, l9, l10, l11, l12, l13, l14, l15, l16, l17, l18, l19, l20, l21, l22, EE, rfl, (by simp only [cond_true, List.setIfInBounds_toArray, List.set_cons_zero, List.set_cons_succ]), hb0, hq21, hr21⟩
    case s1 =>
      intro ff gg KK hK
      have f0 : l1 = false := ff
      clear ff gg
      subst f0
      simp only [cond_false]
      go_simp
      exact hK _ _ ⟨l0, true, l2, l3, l4, l5, l6, l7, l8, l9, l10, l11, l12, l13, l14, l15, l16, l17, l18, l19, l20, l21, l22, EE, rfl, (by simp only [cond_true, List.setIfInBounds_toArray, List.set_cons_zero, List.set_cons_succ]), hb0, hq21, hr21⟩
    case s2 =>
      intro ff gg KK hK
      have f0 : l2 = false := ff
      clear ff gg
      subst f0
      simp only [cond_false]
      go_simp
      exact hK _ _ ⟨l0, l1, true, l3, l4, l5, l6, l7, l8, l9, l10, l11, l12, l13, l14, l15, l16, l17, l18, l19, l20, l21, l22, EE, rfl, (by simp only [cond_true, List.setIfInBounds_toArray, List.set_cons_zero, List.set_cons_succ]), hb0, hq21, hr21⟩
    case s3 =>
      intro ff gg KK hK
      have f0 : l3 = false := ff
      clear ff gg
      subst f0
      simp only [cond_false]
      go_simp
      exact hK _ _ ⟨l0, l1, l2, true, l4, l5, l6, l7, l8, l9, l10, l11, l12, l13, l14, l15, l16, l17, l18, l19, l20, l21, l22, EE, rfl, (by simp only [cond_true, List.setIfInBounds_toArray, List.set_cons_zero, List.set_cons_succ]), hb0, hq21, hr21⟩
    case s4 =>
      intro ff gg KK hK
      have t3 : l3 = true := gg ⟨3, .data⟩ (by simp) (by rfl)
      have f0 : l4 = false := ff
      clear ff gg
      subst t3
      subst f0
      simp only [cond_true, cond_false]
      have cc0 : vv.cell? ⟨w.heap.size, 0, none⟩ = some (.int .i64 la) := cell_later hb0 a0
      go_simp
      exact hK _ _ ⟨l0, l1, l2, true, true, l5, l6, l7, l8, l9, l10, l11, l12, l13, l14, l15, l16, l17, l18, l19, l20, l21, l22, EE, rfl, (by simp only [cond_true, List.setIfInBounds_toArray, List.set_cons_zero, List.set_cons_succ]), hb0, hq21, hr21⟩
    case s5 =>
      intro ff gg KK hK
      have t4 : l4 = true := gg ⟨4, .data⟩ (by simp) (by rfl)
      have f0 : l5 = false := ff
      clear ff gg
      subst t4
      subst f0
      simp only [cond_true, cond_false]
      go_simp
      ((go_at_call 140; ((with_reducible refine (gone_any _ _).mono ?_); rintro e w' ⟨rfl, hb⟩)))
      exact hK _ _ ⟨l0, l1, l2, l3, true, true, l6, l7, l8, l9, l10, l11, l12, l13, l14, l15, l16, l17, l18, l19, l20, l21, l22, EE, rfl, (by simp only [cond_true, List.setIfInBounds_toArray, List.set_cons_zero, List.set_cons_succ]), bl_step hb hb0, hq21, (fun t => (hr21 t).later hb)⟩
    case s6 =>
      intro ff gg KK hK
      have t2 : l2 = true := gg ⟨2, .data⟩ (by simp) (by rfl)
      have t5 : l5 = true := gg ⟨5, .data⟩ (by simp) (by rfl)
      have f0 : l6 = false := ff
      clear ff gg
      subst t2 t5
      subst f0
      simp only [cond_true, cond_false]
      go_simp
      ((go_at_call 143; ((with_reducible refine (gcos_any la la c1l c1h B1 _ (okAt_later hb0 hok) C1).mono ?_); rintro e w' ⟨rfl, hb⟩)))
      exact hK _ _ ⟨l0, l1, true, l3, l4, true, true, l7, l8, l9, l10, l11, l12, l13, l14, l15, l16, l17, l18, l19, l20, l21, l22, EE, rfl, (by simp only [cond_true, List.setIfInBounds_toArray, List.set_cons_zero, List.set_cons_succ]), bl_step hb hb0, hq21, (fun t => (hr21 t).later hb)⟩
    case s7 =>
      intro ff gg KK hK
      have f0 : l7 = false := ff
      clear ff gg
      subst f0
      simp only [cond_false]
      go_simp
      exact hK _ _ ⟨l0, l1, l2, l3, l4, l5, l6, true, l8, l9, l10, l11, l12, l13, l14, l15, l16, l17, l18, l19, l20, l21, l22, EE, rfl, (by simp only [cond_true, List.setIfInBounds_toArray, List.set_cons_zero, List.set_cons_succ]), hb0, hq21, hr21⟩
    case s8 =>
      intro ff gg KK hK
      have f0 : l8 = false := ff
      clear ff gg
      subst f0
      simp only [cond_false]
      go_simp
      exact hK _ _ ⟨l0, l1, l2, l3, l4, l5, l6, l7, true, l9, l10, l11, l12, l13, l14, l15, l16, l17, l18, l19, l20, l21, l22, EE, rfl, (by simp only [cond_true, List.setIfInBounds_toArray, List.set_cons_zero, List.set_cons_succ]), hb0, hq21, hr21⟩
    case s9 =>
      intro ff gg KK hK
      have t8 : l8 = true := gg ⟨8, .data⟩ (by simp) (by rfl)
      have f0 : l9 = false := ff
      clear ff gg
      subst t8
      subst f0
      simp only [cond_true, cond_false]
      have cc0 : vv.cell? ⟨w.heap.size + 1, 0, none⟩ = some (.int .i64 lb) := cell_later hb0 b0
      go_simp
      exact hK _ _ ⟨l0, l1, l2, l3, l4, l5, l6, l7, true, true, l10, l11, l12, l13, l14, l15, l16, l17, l18, l19, l20, l21, l22, EE, rfl, (by simp only [cond_true, List.setIfInBounds_toArray, List.set_cons_zero, List.set_cons_succ]), hb0, hq21, hr21⟩
    case s10 =>
      intro ff gg KK hK
      have t9 : l9 = true := gg ⟨9, .data⟩ (by simp) (by rfl)
      have f0 : l10 = false := ff
      clear ff gg
      subst t9
      subst f0
      simp only [cond_true, cond_false]
      go_simp
      ((go_at_call 140; ((with_reducible refine (gone_any _ _).mono ?_); rintro e w' ⟨rfl, hb⟩)))
      exact hK _ _ ⟨l0, l1, l2, l3, l4, l5, l6, l7, l8, true, true, l11, l12, l13, l14, l15, l16, l17, l18, l19, l20, l21, l22, EE, rfl, (by simp only [cond_true, List.setIfInBounds_toArray, List.set_cons_zero, List.set_cons_succ]), bl_step hb hb0, hq21, (fun t => (hr21 t).later hb)⟩
    case s11 =>
      intro ff gg KK hK
      have t7 : l7 = true := gg ⟨7, .data⟩ (by simp) (by rfl)
      have t10 : l10 = true := gg ⟨10, .data⟩ (by simp) (by rfl)
      have f0 : l11 = false := ff
      clear ff gg
      subst t7 t10
      subst f0
      simp only [cond_true, cond_false]
      go_simp
      ((go_at_call 143; ((with_reducible refine (gcos_any lb lb c2l c2h B1 _ (okAt_later hb0 hok) C2).mono ?_); rintro e w' ⟨rfl, hb⟩)))
      exact hK _ _ ⟨l0, l1, l2, l3, l4, l5, l6, true, l8, l9, true, true, l12, l13, l14, l15, l16, l17, l18, l19, l20, l21, l22, EE, rfl, (by simp only [cond_true, List.setIfInBounds_toArray, List.set_cons_zero, List.set_cons_succ]), bl_step hb hb0, hq21, (fun t => (hr21 t).later hb)⟩
    case s12 =>
      intro ff gg KK hK
      have t1 : l1 = true := gg ⟨1, .data⟩ (by simp) (by rfl)
      have t6 : l6 = true := gg ⟨6, .data⟩ (by simp) (by rfl)
      have t11 : l11 = true := gg ⟨11, .data⟩ (by simp) (by rfl)
      have f0 : l12 = false := ff
      clear ff gg
      subst t1 t6 t11
      subst f0
      simp only [cond_true, cond_false]
      go_simp
      ((go_at_call 141; ((with_reducible refine (gmul_any c1l c1h c2l c2h ml mh B1 _ (okAt_later hb0 hok) M1).mono ?_); rintro e w' ⟨rfl, hb⟩)))
      exact hK _ _ ⟨l0, true, l2, l3, l4, l5, true, l7, l8, l9, l10, true, true, l13, l14, l15, l16, l17, l18, l19, l20, l21, l22, EE, rfl, (by simp only [cond_true, List.setIfInBounds_toArray, List.set_cons_zero, List.set_cons_succ]), bl_step hb hb0, hq21, (fun t => (hr21 t).later hb)⟩
    case s13 =>
      intro ff gg KK hK
      have f0 : l13 = false := ff
      clear ff gg
      subst f0
      simp only [cond_false]
      go_simp
      exact hK _ _ ⟨l0, l1, l2, l3, l4, l5, l6, l7, l8, l9, l10, l11, l12, true, l14, l15, l16, l17, l18, l19, l20, l21, l22, EE, rfl, (by simp only [cond_true, List.setIfInBounds_toArray, List.set_cons_zero, List.set_cons_succ]), hb0, hq21, hr21⟩
    case s14 =>
      intro ff gg KK hK
      have f0 : l14 = false := ff
      clear ff gg
      subst f0
      simp only [cond_false]
      go_simp
      exact hK _ _ ⟨l0, l1, l2, l3, l4, l5, l6, l7, l8, l9, l10, l11, l12, l13, true, l15, l16, l17, l18, l19, l20, l21, l22, EE, rfl, (by simp only [cond_true, List.setIfInBounds_toArray, List.set_cons_zero, List.set_cons_succ]), hb0, hq21, hr21⟩
    case s15 =>
      intro ff gg KK hK
      have t14 : l14 = true := gg ⟨14, .data⟩ (by simp) (by rfl)
      have f0 : l15 = false := ff
      clear ff gg
      subst t14
      subst f0
      simp only [cond_true, cond_false]
      go_simp
      ((go_at_call 140; ((with_reducible refine (gone_any _ _).mono ?_); rintro e w' ⟨rfl, hb⟩)))
      exact hK _ _ ⟨l0, l1, l2, l3, l4, l5, l6, l7, l8, l9, l10, l11, l12, l13, true, true, l16, l17, l18, l19, l20, l21, l22, EE, rfl, (by simp only [cond_true, List.setIfInBounds_toArray, List.set_cons_zero, List.set_cons_succ]), bl_step hb hb0, hq21, (fun t => (hr21 t).later hb)⟩
    case s16 =>
      intro ff gg KK hK
      have t15 : l15 = true := gg ⟨15, .data⟩ (by simp) (by rfl)
      have f0 : l16 = false := ff
      clear ff gg
      subst t15
      subst f0
      simp only [cond_true, cond_false]
      go_simp
      ((go_at_call 147; ((with_reducible refine (H1.out _).mono ?_); rintro e w' ⟨rfl, hb⟩)))
      exact hK _ _ ⟨l0, l1, l2, l3, l4, l5, l6, l7, l8, l9, l10, l11, l12, l13, l14, true, true, l17, l18, l19, l20, l21, l22, EE, rfl, (by simp only [cond_true, List.setIfInBounds_toArray, List.set_cons_zero, List.set_cons_succ]), bl_step hb hb0, hq21, (fun t => (hr21 t).later hb)⟩
    case s17 =>
      intro ff gg KK hK
      have t16 : l16 = true := gg ⟨16, .data⟩ (by simp) (by rfl)
      have f0 : l17 = false := ff
      clear ff gg
      subst t16
      subst f0
      simp only [cond_true, cond_false]
      go_simp
      exact hK _ _ ⟨l0, l1, l2, l3, l4, l5, l6, l7, l8, l9, l10, l11, l12, l13, l14, l15, true, true, l18, l19, l20, l21, l22, EE, rfl, (by simp only [cond_true, List.setIfInBounds_toArray, List.set_cons_zero, List.set_cons_succ]), hb0, hq21, hr21⟩
    case s18 =>
      intro ff gg KK hK
      have t16 : l16 = true := gg ⟨16, .data⟩ (by simp) (by rfl)
      have f0 : l18 = false := ff
      clear ff gg
      subst t16
      subst f0
      simp only [cond_true, cond_false]
      go_simp
      exact hK _ _ ⟨l0, l1, l2, l3, l4, l5, l6, l7, l8, l9, l10, l11, l12, l13, l14, l15, true, l17, true, l19, l20, l21, l22, EE, rfl, (by simp only [cond_true, List.setIfInBounds_toArray, List.set_cons_zero, List.set_cons_succ]), hb0, hq21, hr21⟩
    case s19 =>
      intro ff gg KK hK
      have t13 : l13 = true := gg ⟨13, .data⟩ (by simp) (by rfl)
      have t17 : l17 = true := gg ⟨17, .data⟩ (by simp) (by rfl)
      have t18 : l18 = true := gg ⟨18, .data⟩ (by simp) (by rfl)
      have f0 : l19 = false := ff
      clear ff gg
      subst t13 t17 t18
      subst f0
      simp only [cond_true, cond_false]
      go_simp
      ((go_at_call 146; ((with_reducible refine (gnumber_any hl hh B1 _ (okAt_later hb0 hok)).mono ?_); rintro e w' ⟨rfl, hb⟩)))
      exact hK _ _ ⟨l0, l1, l2, l3, l4, l5, l6, l7, l8, l9, l10, l11, l12, true, l14, l15, l16, true, true, true, l20, l21, l22, EE, rfl, (by simp only [cond_true, List.setIfInBounds_toArray, List.set_cons_zero, List.set_cons_succ]), bl_step hb hb0, hq21, (fun t => (hr21 t).later hb)⟩
    case s20 =>
      intro ff gg KK hK
      have t0 : l0 = true := gg ⟨0, .data⟩ (by simp) (by rfl)
      have t12 : l12 = true := gg ⟨12, .data⟩ (by simp) (by rfl)
      have t19 : l19 = true := gg ⟨19, .data⟩ (by simp) (by rfl)
      have f0 : l20 = false := ff
      clear ff gg
      subst t0 t12 t19
      subst f0
      simp only [cond_true, cond_false]
      go_simp
      ((go_at_call 141; ((with_reducible refine (gmul_any ml mh hl hh sl sh B1 _ (okAt_later hb0 hok) M2).mono ?_); rintro e w' ⟨rfl, hb⟩)))
      exact hK _ _ ⟨true, l1, l2, l3, l4, l5, l6, l7, l8, l9, l10, l11, true, l13, l14, l15, l16, l17, l18, true, true, l21, l22, EE, rfl, (by simp only [cond_true, List.setIfInBounds_toArray, List.set_cons_zero, List.set_cons_succ]), bl_step hb hb0, hq21, (fun t => (hr21 t).later hb)⟩
    case s21 =>
      intro ff gg KK hK
      have f0 : l21 = false := ff
      clear ff gg
      subst f0
      simp only [cond_false]
      go_simp
      exact hK _ _ ⟨l0, l1, l2, l3, l4, l5, l6, l7, l8, l9, l10, l11, l12, l13, l14, l15, l16, l17, l18, l19, l20, true, l22, vv.heap.size, rfl, (by simp only [cond_true, List.setIfInBounds_toArray, List.set_cons_zero, List.set_cons_succ]), (by (repeat (first | (with_reducible exact Below.refl _ _) | (with_reducible refine Below.setCell ?_ (by (first | (simp; done) | (simp; omega) | omega)) _) | (with_reducible refine bl_alloc ?_ _) | (with_reducible refine bl_drewN ?_) | (with_reducible refine bl_drew ?_) | (with_reducible refine bl_step (by assumption) ?_)))), (fun _ => rfl), (fun _ => Room2.alloc hb0 _ _ _ _ _ _ hq21)⟩
    case s22 =>
      intro ff gg KK hK
      have t21 : l21 = true := gg ⟨21, .data⟩ (by simp) (by rfl)
      have t20 : l20 = true := gg ⟨20, .data⟩ (by simp) (by rfl)
      have f0 : l22 = false := ff
      clear ff gg
      subst t21 t20
      subst f0
      simp only [cond_true]
      have rr := hr21 rfl
      obtain ⟨m1, m2, fz0, fz1, y0, y1, cz0, cz1, m7⟩ := rr
      go_simp
      exact hK _ _ ⟨l0, l1, l2, l3, l4, l5, l6, l7, l8, l9, l10, l11, l12, l13, l14, l15, l16, l17, l18, l19, true, true, true, EE, rfl, (by simp only [cond_true, List.setIfInBounds_toArray, List.set_cons_zero, List.set_cons_succ]), ((hb0.setCell m1 _).setCell m1 _), (fun _ => rfl), (fun _ => (hr21 rfl).store _ _ _)⟩
  case hdone =>
    intro LL aa vv h hd
    obtain ⟨l0, l1, l2, l3, l4, l5, l6, l7, l8, l9, l10, l11, l12, l13, l14, l15, l16, l17, l18, l19, l20, l21, l22, EE, hL, ha, hb0, hq21, hr21⟩ := h
    rw [hL] at hd
    have t0 : l0 = true := hd 0 (by decide)
    have t1 : l1 = true := hd 1 (by decide)
    have t2 : l2 = true := hd 2 (by decide)
    have t3 : l3 = true := hd 3 (by decide)
    have t4 : l4 = true := hd 4 (by decide)
    have t5 : l5 = true := hd 5 (by decide)
    have t6 : l6 = true := hd 6 (by decide)
    have t7 : l7 = true := hd 7 (by decide)
    have t8 : l8 = true := hd 8 (by decide)
    have t9 : l9 = true := hd 9 (by decide)
    have t10 : l10 = true := hd 10 (by decide)
    have t11 : l11 = true := hd 11 (by decide)
    have t12 : l12 = true := hd 12 (by decide)
    have t13 : l13 = true := hd 13 (by decide)
    have t14 : l14 = true := hd 14 (by decide)
    have t15 : l15 = true := hd 15 (by decide)
    have t16 : l16 = true := hd 16 (by decide)
    have t17 : l17 = true := hd 17 (by decide)
    have t18 : l18 = true := hd 18 (by decide)
    have t19 : l19 = true := hd 19 (by decide)
    have t20 : l20 = true := hd 20 (by decide)
    have t21 : l21 = true := hd 21 (by decide)
    have t22 : l22 = true := hd 22 (by decide)
    clear hd hL hq21
    subst t0 t1 t2 t3 t4 t5 t6 t7 t8 t9 t10 t11 t12 t13 t14 t15 t16 t17 t18 t19 t20 t21 t22
    simp only [cond_true, List.setIfInBounds_toArray, List.set_cons_zero, List.set_cons_succ] at ha
    subst ha
    obtain ⟨EEg, EEl, _, _, y0, y1, EEc0, EEc1, hy⟩ := hr21 rfl
    obtain ⟨rfl, rfl⟩ := hy rfl
    clear hr21
    have a0 := cell_later hb0 a0
    have a1 := cell_later hb0 a1
    have b0 := cell_later hb0 b0
    have b1 := cell_later hb0 b1
    have r0 := cell_later hb0 r0
    have r1 := cell_later hb0 r1
    have rf : ∀ o, vv.frozen? ⟨w.heap.size + 1 + 1, o, none⟩ = false := fun o => (hb0.frozen (p := ⟨w.heap.size + 1 + 1, o, none⟩) g2).trans (rf o)
    have hok := okAt_later hb0 hok
    have hw1 : Below w.heap.size w vv := Below.trans hw0 (hb0.mono (by omega))
    have g9 := hb0.size
    have g2 : w.heap.size + 1 + 1 < vv.heap.size := by omega
    have g1 : w.heap.size + 1 < vv.heap.size := by omega
    have g0 : w.heap.size < vv.heap.size := by omega
    clear hw0 hb0 g9
    go_upto_region 3 with fail
    refine wp_region_quiet_tail 19 (by kernel_rfl) (by kernel_rfl) ?_
    simp only [List.take_succ_cons, List.take_zero, List.drop_succ_cons, List.drop_zero]
    repeat (first | go_big_quiet_step ((first | (go_at_call 140; (with_reducible exact Calls.regrown_of (gone_any _ _))) | (go_at_call 147; (with_reducible exact Calls.regrown_of (H2.out _))) | (go_at_call 146; (with_reducible exact Calls.regrown_of (gnumber_any h2l h2h B1 _ (okAt_rd hok)))) | (go_at_call 148; (with_reducible exact Calls.regrown_of (gadd_any h2l h2h sl sh tl th B1 _ (okAt_rd hok) A))) | (go_at_call 79; (with_reducible exact Calls.regrown_of (AH.out _))) | (go_at_call 145; (with_reducible exact Calls.regrown_of (garc_any L H B1 _ (okAt_rd hok)))))) | quiet_step ((first | (go_at_call 140; (with_reducible exact Calls.regrown_of (gone_any _ _))) | (go_at_call 147; (with_reducible exact Calls.regrown_of (H2.out _))) | (go_at_call 146; (with_reducible exact Calls.regrown_of (gnumber_any h2l h2h B1 _ (okAt_rd hok)))) | (go_at_call 148; (with_reducible exact Calls.regrown_of (gadd_any h2l h2h sl sh tl th B1 _ (okAt_rd hok) A))) | (go_at_call 79; (with_reducible exact Calls.regrown_of (AH.out _))) | (go_at_call 145; (with_reducible exact Calls.regrown_of (garc_any L H B1 _ (okAt_rd hok)))))))
    refine wpQuiet_nil ?_; intro w' hw'; have hb := below_of_regrown hw'; clear hw'; (try replace hb := below_undrew hb); (try replace hb := below_undrewN hb); obtain ⟨hcell, hfroz⟩ := bcell hb; have hz := hb.size; (try simp at hz); (try (have z9 := Nat.lt_of_lt_of_le (Nat.lt_succ_self _) hz)); (try have z0 : w.heap.size < w'.heap.size := by omega); (try have z1 : w.heap.size + 1 < w'.heap.size := by omega); (try have z2 : w.heap.size + 1 + 1 < w'.heap.size := by omega); (try have z3 : w.heap.size + 1 + 1 + 1 < w'.heap.size := by omega)
    go_wp2
    exact bodyPost_ret (v := .agg #[.int .i64 L, .int .i64 H]) (by first | (simp only [results, Tryz.results61]; go_simp; done) | simp [results, Tryz.results61, go_sem, *]) rfl ⟨rfl, by (repeat (first | (with_reducible exact Below.refl _ _) | (with_reducible refine Below.setCell ?_ (by (first | (simp; done) | (simp; omega) | omega)) _) | (with_reducible refine bl_alloc ?_ _) | (with_reducible refine bl_drewN ?_) | (with_reducible refine bl_drew ?_) | (with_reducible refine bl_step (by assumption) ?_)))⟩
set_option maxRecDepth 100000 in
set_option maxHeartbeats 8000000 in
theorem gcourse_walk (la lo lb lob dl sdl sdh cdl cdh cal cah cbl cbh sal sah sbl sbh yl yh ml mh nl nh kl kh xl xh L H : Int) (B1 : Nat) (w : World) (ok : okAt w B1) (q0 : -100000000 ≤ lob - lo) (q1 : lob - lo ≤ 100000000)
    (SG : Hid (∀ w, Calls Tryz.prog 21 #[.int .i64 (lob - lo)] w fun e w' => e = .returned (.int .i64 dl) ∧ w = w'))
    (SD : Hid (∀ w, Calls Tryz.prog 125 #[.agg #[.int .i64 dl, .int .i64 dl]] w fun e w' => e = .returned (.tuple #[.agg #[.int .i64 sdl, .int .i64 sdh], .int .i64 0]) ∧ Below w.heap.size w w'))
    (CD : Hid (∀ w, Calls Tryz.prog 124 #[.agg #[.int .i64 dl, .int .i64 dl]] w fun e w' => e = .returned (.tuple #[.agg #[.int .i64 cdl, .int .i64 cdh], .int .i64 0]) ∧ Below w.heap.size w w'))
    (CA : Hid (∀ w, Calls Tryz.prog 124 #[.agg #[.int .i64 la, .int .i64 la]] w fun e w' => e = .returned (.tuple #[.agg #[.int .i64 cal, .int .i64 cah], .int .i64 0]) ∧ Below w.heap.size w w'))
    (CB : Hid (∀ w, Calls Tryz.prog 124 #[.agg #[.int .i64 lb, .int .i64 lb]] w fun e w' => e = .returned (.tuple #[.agg #[.int .i64 cbl, .int .i64 cbh], .int .i64 0]) ∧ Below w.heap.size w w'))
    (SA : Hid (∀ w, Calls Tryz.prog 125 #[.agg #[.int .i64 la, .int .i64 la]] w fun e w' => e = .returned (.tuple #[.agg #[.int .i64 sal, .int .i64 sah], .int .i64 0]) ∧ Below w.heap.size w w'))
    (SB : Hid (∀ w, Calls Tryz.prog 125 #[.agg #[.int .i64 lb, .int .i64 lb]] w fun e w' => e = .returned (.tuple #[.agg #[.int .i64 sbl, .int .i64 sbh], .int .i64 0]) ∧ Below w.heap.size w w'))
    (MY : Hid (∀ w, Calls Tryz.prog 150 #[.agg #[.int .i64 sdl, .int .i64 sdh], .agg #[.int .i64 cbl, .int .i64 cbh]] w fun e w' => e = .returned (.tuple #[.agg #[.int .i64 yl, .int .i64 yh], .int .i64 0]) ∧ Below w.heap.size w w'))
    (M1 : Hid (∀ w, Calls Tryz.prog 150 #[.agg #[.int .i64 cal, .int .i64 cah], .agg #[.int .i64 sbl, .int .i64 sbh]] w fun e w' => e = .returned (.tuple #[.agg #[.int .i64 ml, .int .i64 mh], .int .i64 0]) ∧ Below w.heap.size w w'))
    (M2 : Hid (∀ w, Calls Tryz.prog 150 #[.agg #[.int .i64 sal, .int .i64 sah], .agg #[.int .i64 cbl, .int .i64 cbh]] w fun e w' => e = .returned (.tuple #[.agg #[.int .i64 nl, .int .i64 nh], .int .i64 0]) ∧ Below w.heap.size w w'))
    (M3 : Hid (∀ w, Calls Tryz.prog 150 #[.agg #[.int .i64 nl, .int .i64 nh], .agg #[.int .i64 cdl, .int .i64 cdh]] w fun e w' => e = .returned (.tuple #[.agg #[.int .i64 kl, .int .i64 kh], .int .i64 0]) ∧ Below w.heap.size w w'))
    (SX : Hid (∀ w, Calls Tryz.prog 224 #[.agg #[.int .i64 ml, .int .i64 mh], .agg #[.int .i64 kl, .int .i64 kh]] w fun e w' => e = .returned (.tuple #[.agg #[.int .i64 xl, .int .i64 xh], .int .i64 0]) ∧ Below w.heap.size w w'))
    (BR : Hid (∀ w, Calls Tryz.prog 47 #[.agg #[.int .i64 yl, .int .i64 yh], .agg #[.int .i64 xl, .int .i64 xh]] w fun e w' => e = .returned (.tuple #[.agg #[.int .i64 L, .int .i64 H], .int .i64 0]) ∧ Below w.heap.size w w')) :
    Calls Tryz.prog 60 #[.pointer (some ⟨B1, 0, none⟩), .agg #[.int .i64 la, .int .i64 lo], .agg #[.int .i64 lb, .int .i64 lob]] w fun e w' => e = .returned (.agg #[.int .i64 L, .int .i64 H]) ∧ Below w.heap.size w w' := by
  have hB := okAt_lt ok
  go_enter Tryz.func60, Tryz.ntmps60
  go_upto_region 2 with (first | (go_at_call 21; ((with_reducible refine (SG.out _).mono ?_); rintro e w' ⟨rfl, rfl⟩)) | (go_at_call 140; ((with_reducible refine (gone_any _ _).mono ?_); rintro e w' ⟨rfl, hb⟩); (try replace hb := below_undrew hb); (try replace hb := below_undrewN hb); obtain ⟨hcell, hfroz⟩ := bcell hb; have hz := hb.size; (try simp at hz); (try (have z9 := Nat.lt_of_lt_of_le (Nat.lt_succ_self _) hz)); (try have z0 : w.heap.size < w'.heap.size := by omega); (try have z1 : w.heap.size + 1 < w'.heap.size := by omega); (try have z2 : w.heap.size + 1 + 1 < w'.heap.size := by omega); (try have z3 : w.heap.size + 1 + 1 + 1 < w'.heap.size := by omega); obtain ⟨w1, rfl⟩ : ∃ v, v = w' := ⟨_, rfl⟩))
  (refine name_code ?_; intro w' hb; (try replace hb := below_undrew hb); (try replace hb := below_undrewN hb); obtain ⟨hcell, hfroz⟩ := bcell hb; have hz := hb.size; (try simp at hz); (try (have z9 := Nat.lt_of_lt_of_le (Nat.lt_succ_self _) hz)); (try have z0 : w.heap.size < w'.heap.size := by omega); (try have z1 : w.heap.size + 1 < w'.heap.size := by omega); (try have z2 : w.heap.size + 1 + 1 < w'.heap.size := by omega); (try have z3 : w.heap.size + 1 + 1 + 1 < w'.heap.size := by omega); (try have y1 : w1.heap.size < w'.heap.size := by omega); (try have y3 : w3.heap.size < w'.heap.size := by omega); (try have y4 : w4.heap.size < w'.heap.size := by omega); (try have x1 : w1.heap.size + 1 < w'.heap.size := by omega); (try have x3 : w3.heap.size + 1 < w'.heap.size := by omega); (try have x4 : w4.heap.size + 1 < w'.heap.size := by omega); (try have z10 : w1.heap.size < w'.heap.size + 1 := by omega); (try have z30 : w3.heap.size < w'.heap.size + 1 := by omega); (try have z40 : w4.heap.size < w'.heap.size + 1 := by omega))
  have hw0 : Below w.heap.size w w' := by (repeat (first | (with_reducible exact Below.refl _ _) | (with_reducible refine Below.setCell ?_ (by (first | (simp; done) | (simp; omega) | omega)) _) | (with_reducible refine bl_alloc ?_ _) | (with_reducible refine bl_drewN ?_) | (with_reducible refine bl_drew ?_) | (with_reducible refine bl_step (by assumption) ?_)))
  have a0 : w'.cell? ⟨w.heap.size, 0, none⟩ = some (.int .i64 la) := by simp [go_sem, *]
  have a1 : w'.cell? ⟨w.heap.size, 1, none⟩ = some (.int .i64 lo) := by simp [go_sem, *]
  have b0 : w'.cell? ⟨w.heap.size + 1, 0, none⟩ = some (.int .i64 lb) := by simp [go_sem, *]
  have b1 : w'.cell? ⟨w.heap.size + 1, 1, none⟩ = some (.int .i64 lob) := by simp [go_sem, *]
  have d0 : w'.cell? ⟨w1.heap.size, 0, none⟩ = some (.int .i64 dl) := by simp [go_sem, *]
  have d1 : w'.cell? ⟨w1.heap.size, 1, none⟩ = some (.int .i64 dl) := by simp [go_sem, *]
  have r0 : w'.cell? ⟨w.heap.size + 1 + 1, 0, none⟩ = some (.int .i64 0) := by simp [go_sem, *]
  have r1 : w'.cell? ⟨w.heap.size + 1 + 1, 1, none⟩ = some (.int .i64 0) := by simp [go_sem, *]
  have rf : ∀ o, w'.frozen? ⟨w.heap.size + 1 + 1, o, none⟩ = false := by intro o; simp [go_sem, *]
  have hok := okAt_later hw0 ok
  have hz1 : w.heap.size + 1 + 1 < w1.heap.size := by omega
  clear hcell hfroz hz hb
  obtain ⟨V0, rfl⟩ : ∃ v, v = w' := ⟨_, rfl⟩
  have gD : w1.heap.size < V0.heap.size := World.block_lt_of_cell? _ _ d0
  generalize w1.heap.size = BD at *
  have g2 : w.heap.size + 1 + 1 < V0.heap.size := World.block_lt_of_cell? _ _ r0
  have g1 : w.heap.size + 1 < V0.heap.size := by omega
  have g0 : w.heap.size < V0.heap.size := by omega
  refine wp_region_inv (fun a0 LL aa vv => ∃ (l0 l1 l2 l3 l4 l5 l6 l7 l8 l9 l10 l11 : Bool) (EY : Nat), LL = #[l0, l1, l2, l3, l4, l5, l6, l7, l8, l9, l10, l11] ∧ aa = { a0 with tmps := (((((((((((a0.tmps.setIfInBounds 17 (cond l0 (.pointer (some ⟨B1, 0, none⟩)) (undef))).setIfInBounds 18 (cond l1 (.pointer (some ⟨B1, 0, none⟩)) (undef))).setIfInBounds 19 (cond l2 (.agg #[.int .i64 dl, .int .i64 dl]) (undef))).setIfInBounds 20 (cond l3 (.agg #[.int .i64 sdl, .int .i64 sdh]) (undef))).setIfInBounds 21 (cond l4 (.pointer (some ⟨B1, 0, none⟩)) (undef))).setIfInBounds 22 (cond l5 (.pointer (some ⟨w.heap.size + 1, 0, none⟩)) (undef))).setIfInBounds 23 (cond l6 (.int .i64 lb) (undef))).setIfInBounds 24 (cond l7 (.agg #[.int .i64 lb, .int .i64 lb]) (undef))).setIfInBounds 25 (cond l8 (.agg #[.int .i64 cbl, .int .i64 cbh]) (undef))).setIfInBounds 26 (cond l9 (.agg #[.int .i64 yl, .int .i64 yh]) (undef))).setIfInBounds 8 (cond l10 (.pointer (some ⟨EY, 0, none⟩)) (undef))) } ∧ Below V0.heap.size V0 vv ∧ (l11 = true → l10 = true) ∧ (l10 = true → Room2 V0 vv EY l11 (yl) (yh))) (by kernel_rfl) (by kernel_rfl) ?h0 ?hsize ?hdone ?hstep
  case h0 =>
    refine ⟨false, false, false, false, false, false, false, false, false, false, false, false, 0, rfl, ?_, by (repeat (first | exact Below.refl _ _ | refine bl_drewN ?_ | refine bl_drew ?_ | refine bl_alloc ?_ _ | refine Below.setCell ?_ (by (first | (simp; done) | (simp; omega) | omega)) _ | refine bl_step (by assumption) ?_)), (fun h => by cases h), (fun h => by cases h)⟩
    simp only [cond_false, List.setIfInBounds_toArray, List.set_cons_zero, List.set_cons_succ]
  case hsize =>
    intro LL aa vv h
    obtain ⟨l0, l1, l2, l3, l4, l5, l6, l7, l8, l9, l10, l11, EY, hL, _⟩ := h
    rw [hL]
    rfl
  case hstep =>
    intro LL aa vv h
    obtain ⟨l0, l1, l2, l3, l4, l5, l6, l7, l8, l9, l10, l11, EY, hL, ha, hb0, hq10, hr10⟩ := h
    simp only [List.setIfInBounds_toArray, List.set_cons_zero, List.set_cons_succ] at ha
    subst hL
    subst ha
    refine ⟨?s0, ?s1, ?s2, ?s3, ?s4, ?s5, ?s6, ?s7, ?s8, ?s9, ?s10, ?s11, trivial⟩
    case s0 =>
      intro ff gg KK hK
      have f0 : l0 = false := ff
      clear ff gg
      subst f0
      simp only [cond_false]
      go_simp
      exact hK _ _ ⟨true, l1, l2, l3, l4, l5, l6, l7, l8, l9, l10, l11, EY, rfl, (by simp only [cond_true, List.setIfInBounds_toArray, List.set_cons_zero, List.set_cons_succ]), hb0, hq10, hr10⟩
    case s1 =>
      intro ff gg KK hK
      have f0 : l1 = false := ff
      clear ff gg
      subst f0
      simp only [cond_false]
      go_simp
      exact hK _ _ ⟨l0, true, l2, l3, l4, l5, l6, l7, l8, l9, l10, l11, EY, rfl, (by simp only [cond_true, List.setIfInBounds_toArray, List.set_cons_zero, List.set_cons_succ]), hb0, hq10, hr10⟩
    case s2 =>
      intro ff gg KK hK
      have f0 : l2 = false := ff
      clear ff gg
      subst f0
      simp only [cond_false]
      have cc0 : vv.cell? ⟨BD, 0, none⟩ = some (.int .i64 dl) := cell_later hb0 d0
      have cc1 : vv.cell? ⟨BD, 1, none⟩ = some (.int .i64 dl) := cell_later hb0 d1
      go_simp
      exact hK _ _ ⟨l0, l1, true, l3, l4, l5, l6, l7, l8, l9, l10, l11, EY, rfl, (by simp only [cond_true, List.setIfInBounds_toArray, List.set_cons_zero, List.set_cons_succ]), hb0, hq10, hr10⟩
    case s3 =>
      intro ff gg KK hK
      have t1 : l1 = true := gg ⟨1, .data⟩ (by simp) (by rfl)
      have t2 : l2 = true := gg ⟨2, .data⟩ (by simp) (by rfl)
      have f0 : l3 = false := ff
      clear ff gg
      subst t1 t2
      subst f0
      simp only [cond_true, cond_false]
      go_simp
      ((go_at_call 142; ((with_reducible refine (gsin_any dl dl sdl sdh B1 _ (okAt_later hb0 hok) SD).mono ?_); rintro e w' ⟨rfl, hb⟩)))
      exact hK _ _ ⟨l0, true, true, true, l4, l5, l6, l7, l8, l9, l10, l11, EY, rfl, (by simp only [cond_true, List.setIfInBounds_toArray, List.set_cons_zero, List.set_cons_succ]), bl_step hb hb0, hq10, (fun t => (hr10 t).later hb)⟩
    case s4 =>
      intro ff gg KK hK
      have f0 : l4 = false := ff
      clear ff gg
      subst f0
      simp only [cond_false]
      go_simp
      exact hK _ _ ⟨l0, l1, l2, l3, true, l5, l6, l7, l8, l9, l10, l11, EY, rfl, (by simp only [cond_true, List.setIfInBounds_toArray, List.set_cons_zero, List.set_cons_succ]), hb0, hq10, hr10⟩
    case s5 =>
      intro ff gg KK hK
      have f0 : l5 = false := ff
      clear ff gg
      subst f0
      simp only [cond_false]
      go_simp
      exact hK _ _ ⟨l0, l1, l2, l3, l4, true, l6, l7, l8, l9, l10, l11, EY, rfl, (by simp only [cond_true, List.setIfInBounds_toArray, List.set_cons_zero, List.set_cons_succ]), hb0, hq10, hr10⟩
    case s6 =>
      intro ff gg KK hK
      have t5 : l5 = true := gg ⟨5, .data⟩ (by simp) (by rfl)
      have f0 : l6 = false := ff
      clear ff gg
      subst t5
      subst f0
      simp only [cond_true, cond_false]
      have cc0 : vv.cell? ⟨w.heap.size + 1, 0, none⟩ = some (.int .i64 lb) := cell_later hb0 b0
      go_simp
      exact hK _ _ ⟨l0, l1, l2, l3, l4, true, true, l7, l8, l9, l10, l11, EY, rfl, (by simp only [cond_true, List.setIfInBounds_toArray, List.set_cons_zero, List.set_cons_succ]), hb0, hq10, hr10⟩
    case s7 =>
      intro ff gg KK hK
      have t6 : l6 = true := gg ⟨6, .data⟩ (by simp) (by rfl)
      have f0 : l7 = false := ff
      clear ff gg
      subst t6
      subst f0
      simp only [cond_true, cond_false]
      go_simp
      ((go_at_call 140; ((with_reducible refine (gone_any _ _).mono ?_); rintro e w' ⟨rfl, hb⟩)))
      exact hK _ _ ⟨l0, l1, l2, l3, l4, l5, true, true, l8, l9, l10, l11, EY, rfl, (by simp only [cond_true, List.setIfInBounds_toArray, List.set_cons_zero, List.set_cons_succ]), bl_step hb hb0, hq10, (fun t => (hr10 t).later hb)⟩
    case s8 =>
      intro ff gg KK hK
      have t4 : l4 = true := gg ⟨4, .data⟩ (by simp) (by rfl)
      have t7 : l7 = true := gg ⟨7, .data⟩ (by simp) (by rfl)
      have f0 : l8 = false := ff
      clear ff gg
      subst t4 t7
      subst f0
      simp only [cond_true, cond_false]
      go_simp
      ((go_at_call 143; ((with_reducible refine (gcos_any lb lb cbl cbh B1 _ (okAt_later hb0 hok) CB).mono ?_); rintro e w' ⟨rfl, hb⟩)))
      exact hK _ _ ⟨l0, l1, l2, l3, true, l5, l6, true, true, l9, l10, l11, EY, rfl, (by simp only [cond_true, List.setIfInBounds_toArray, List.set_cons_zero, List.set_cons_succ]), bl_step hb hb0, hq10, (fun t => (hr10 t).later hb)⟩
    case s9 =>
      intro ff gg KK hK
      have t0 : l0 = true := gg ⟨0, .data⟩ (by simp) (by rfl)
      have t3 : l3 = true := gg ⟨3, .data⟩ (by simp) (by rfl)
      have t8 : l8 = true := gg ⟨8, .data⟩ (by simp) (by rfl)
      have f0 : l9 = false := ff
      clear ff gg
      subst t0 t3 t8
      subst f0
      simp only [cond_true, cond_false]
      go_simp
      ((go_at_call 141; ((with_reducible refine (gmul_any sdl sdh cbl cbh yl yh B1 _ (okAt_later hb0 hok) MY).mono ?_); rintro e w' ⟨rfl, hb⟩)))
      exact hK _ _ ⟨true, l1, l2, true, l4, l5, l6, l7, true, true, l10, l11, EY, rfl, (by simp only [cond_true, List.setIfInBounds_toArray, List.set_cons_zero, List.set_cons_succ]), bl_step hb hb0, hq10, (fun t => (hr10 t).later hb)⟩
    case s10 =>
      intro ff gg KK hK
      have f0 : l10 = false := ff
      clear ff gg
      subst f0
      simp only [cond_false]
      go_simp
      exact hK _ _ ⟨l0, l1, l2, l3, l4, l5, l6, l7, l8, l9, true, l11, vv.heap.size, rfl, (by simp only [cond_true, List.setIfInBounds_toArray, List.set_cons_zero, List.set_cons_succ]), (by (repeat (first | (with_reducible exact Below.refl _ _) | (with_reducible refine Below.setCell ?_ (by (first | (simp; done) | (simp; omega) | omega)) _) | (with_reducible refine bl_alloc ?_ _) | (with_reducible refine bl_drewN ?_) | (with_reducible refine bl_drew ?_) | (with_reducible refine bl_step (by assumption) ?_)))), (fun _ => rfl), (fun _ => Room2.alloc hb0 _ _ _ _ _ _ hq10)⟩
    case s11 =>
      intro ff gg KK hK
      have t10 : l10 = true := gg ⟨10, .data⟩ (by simp) (by rfl)
      have t9 : l9 = true := gg ⟨9, .data⟩ (by simp) (by rfl)
      have f0 : l11 = false := ff
      clear ff gg
      subst t10 t9
      subst f0
      simp only [cond_true]
      have rr := hr10 rfl
      obtain ⟨m1, m2, fz0, fz1, y0, y1, cz0, cz1, m7⟩ := rr
      go_simp
      exact hK _ _ ⟨l0, l1, l2, l3, l4, l5, l6, l7, l8, true, true, true, EY, rfl, (by simp only [cond_true, List.setIfInBounds_toArray, List.set_cons_zero, List.set_cons_succ]), ((hb0.setCell m1 _).setCell m1 _), (fun _ => rfl), (fun _ => (hr10 rfl).store _ _ _)⟩
  case hdone =>
    intro LL aa vv h hd
    obtain ⟨l0, l1, l2, l3, l4, l5, l6, l7, l8, l9, l10, l11, EY, hL, ha, hb0, hq10, hr10⟩ := h
    rw [hL] at hd
    have t0 : l0 = true := hd 0 (by decide)
    have t1 : l1 = true := hd 1 (by decide)
    have t2 : l2 = true := hd 2 (by decide)
    have t3 : l3 = true := hd 3 (by decide)
    have t4 : l4 = true := hd 4 (by decide)
    have t5 : l5 = true := hd 5 (by decide)
    have t6 : l6 = true := hd 6 (by decide)
    have t7 : l7 = true := hd 7 (by decide)
    have t8 : l8 = true := hd 8 (by decide)
    have t9 : l9 = true := hd 9 (by decide)
    have t10 : l10 = true := hd 10 (by decide)
    have t11 : l11 = true := hd 11 (by decide)
    clear hd hL hq10
    subst t0 t1 t2 t3 t4 t5 t6 t7 t8 t9 t10 t11
    simp only [cond_true, List.setIfInBounds_toArray, List.set_cons_zero, List.set_cons_succ] at ha
    subst ha
    obtain ⟨EYg, EYl, _, _, y0, y1, EYc0, EYc1, hy⟩ := hr10 rfl
    obtain ⟨rfl, rfl⟩ := hy rfl
    clear hr10
    have a0 := cell_later hb0 a0
    have a1 := cell_later hb0 a1
    have b0 := cell_later hb0 b0
    have b1 := cell_later hb0 b1
    have d0 := cell_later hb0 d0
    have d1 := cell_later hb0 d1
    have r0 := cell_later hb0 r0
    have r1 := cell_later hb0 r1
    have rf : ∀ o, vv.frozen? ⟨w.heap.size + 1 + 1, o, none⟩ = false := fun o => (hb0.frozen (p := ⟨w.heap.size + 1 + 1, o, none⟩) g2).trans (rf o)
    have hok := okAt_later hb0 hok
    have hw1 : Below w.heap.size w vv := Below.trans hw0 (hb0.mono (by omega))
    have g9 := hb0.size
    have g2 : w.heap.size + 1 + 1 < vv.heap.size := by omega
    have g1 : w.heap.size + 1 < vv.heap.size := by omega
    have g0 : w.heap.size < vv.heap.size := by omega
    have gD : BD < vv.heap.size := by omega
    clear hw0 hb0 g9
    obtain ⟨V1, rfl⟩ : ∃ v, v = vv := ⟨_, rfl⟩
    go_upto_region 3 with fail
    refine wp_region_inv (fun a0 LL aa vx => ∃ (l0 l1 l2 l3 l4 l5 l6 l7 l8 l9 l10 l11 l12 l13 l14 l15 l16 l17 l18 l19 l20 l21 l22 l23 l24 l25 l26 l27 l28 l29 l30 l31 l32 : Bool) (EX : Nat), LL = #[l0, l1, l2, l3, l4, l5, l6, l7, l8, l9, l10, l11, l12, l13, l14, l15, l16, l17, l18, l19, l20, l21, l22, l23, l24, l25, l26, l27, l28, l29, l30, l31, l32] ∧ aa = { a0 with tmps := ((((((((((((((((((((((((((((((((a0.tmps.setIfInBounds 27 (cond l0 (.pointer (some ⟨B1, 0, none⟩)) (undef))).setIfInBounds 28 (cond l1 (.pointer (some ⟨B1, 0, none⟩)) (undef))).setIfInBounds 29 (cond l2 (.pointer (some ⟨B1, 0, none⟩)) (undef))).setIfInBounds 30 (cond l3 (.pointer (some ⟨w.heap.size, 0, none⟩)) (undef))).setIfInBounds 31 (cond l4 (.int .i64 la) (undef))).setIfInBounds 32 (cond l5 (.agg #[.int .i64 la, .int .i64 la]) (undef))).setIfInBounds 33 (cond l6 (.agg #[.int .i64 cal, .int .i64 cah]) (undef))).setIfInBounds 34 (cond l7 (.pointer (some ⟨B1, 0, none⟩)) (undef))).setIfInBounds 35 (cond l8 (.pointer (some ⟨w.heap.size + 1, 0, none⟩)) (undef))).setIfInBounds 36 (cond l9 (.int .i64 lb) (undef))).setIfInBounds 37 (cond l10 (.agg #[.int .i64 lb, .int .i64 lb]) (undef))).setIfInBounds 38 (cond l11 (.agg #[.int .i64 sbl, .int .i64 sbh]) (undef))).setIfInBounds 39 (cond l12 (.agg #[.int .i64 ml, .int .i64 mh]) (undef))).setIfInBounds 40 (cond l13 (.pointer (some ⟨B1, 0, none⟩)) (undef))).setIfInBounds 41 (cond l14 (.pointer (some ⟨B1, 0, none⟩)) (undef))).setIfInBounds 42 (cond l15 (.pointer (some ⟨B1, 0, none⟩)) (undef))).setIfInBounds 43 (cond l16 (.pointer (some ⟨w.heap.size, 0, none⟩)) (undef))).setIfInBounds 44 (cond l17 (.int .i64 la) (undef))).setIfInBounds 45 (cond l18 (.agg #[.int .i64 la, .int .i64 la]) (undef))).setIfInBounds 46 (cond l19 (.agg #[.int .i64 sal, .int .i64 sah]) (undef))).setIfInBounds 47 (cond l20 (.pointer (some ⟨B1, 0, none⟩)) (undef))).setIfInBounds 48 (cond l21 (.pointer (some ⟨w.heap.size + 1, 0, none⟩)) (undef))).setIfInBounds 49 (cond l22 (.int .i64 lb) (undef))).setIfInBounds 50 (cond l23 (.agg #[.int .i64 lb, .int .i64 lb]) (undef))).setIfInBounds 51 (cond l24 (.agg #[.int .i64 cbl, .int .i64 cbh]) (undef))).setIfInBounds 52 (cond l25 (.agg #[.int .i64 nl, .int .i64 nh]) (undef))).setIfInBounds 53 (cond l26 (.pointer (some ⟨B1, 0, none⟩)) (undef))).setIfInBounds 54 (cond l27 (.agg #[.int .i64 dl, .int .i64 dl]) (undef))).setIfInBounds 55 (cond l28 (.agg #[.int .i64 cdl, .int .i64 cdh]) (undef))).setIfInBounds 56 (cond l29 (.agg #[.int .i64 kl, .int .i64 kh]) (undef))).setIfInBounds 57 (cond l30 (.agg #[.int .i64 xl, .int .i64 xh]) (undef))).setIfInBounds 9 (cond l31 (.pointer (some ⟨EX, 0, none⟩)) (undef))) } ∧ Below V1.heap.size V1 vx ∧ (l32 = true → l31 = true) ∧ (l31 = true → Room2 V1 vx EX l32 (xl) (xh))) (by kernel_rfl) (by kernel_rfl) ?h0 ?hsize ?hdone ?hstep
    case h0 =>
      refine ⟨false, false, false, false, false, false, false, false, false, false, false, false, false, false, false, false, false, false, false, false, false, false, false, false, false, false, false, false, false, false, false, false, false, 0, rfl, ?_, by (repeat (first | exact Below.refl _ _ | refine bl_drewN ?_ | refine bl_drew ?_ | refine bl_alloc ?_ _ | refine Below.setCell ?_ (by (first | (simp; done) | (simp; omega) | omega)) _ | refine bl_step (by assumption) ?_)), (fun h => by cases h), (fun h => by cases h)⟩
      simp only [cond_false, List.setIfInBounds_toArray, List.set_cons_zero, List.set_cons_succ]
    case hsize =>
      intro LL aa vx h
      obtain ⟨l0, l1, l2, l3, l4, l5, l6, l7, l8, l9, l10, l11, l12, l13, l14, l15, l16, l17, l18, l19, l20, l21, l22, l23, l24, l25, l26, l27, l28, l29, l30, l31, l32, EX, hL, _⟩ := h
      rw [hL]
      rfl
    case hstep =>
      intro LL aa vx h
      obtain ⟨l0, l1, l2, l3, l4, l5, l6, l7, l8, l9, l10, l11, l12, l13, l14, l15, l16, l17, l18, l19, l20, l21, l22, l23, l24, l25, l26, l27, l28, l29, l30, l31, l32, EX, hL, ha, hb0, hq31, hr31⟩ := h
      simp only [List.setIfInBounds_toArray, List.set_cons_zero, List.set_cons_succ] at ha
      subst hL
      subst ha
      refine ⟨?s0, ?s1, ?s2, ?s3, ?s4, ?s5, ?s6, ?s7, ?s8, ?s9, ?s10, ?s11, ?s12, ?s13, ?s14, ?s15, ?s16, ?s17, ?s18, ?s19, ?s20, ?s21, ?s22, ?s23, ?s24, ?s25, ?s26, ?s27, ?s28, ?s29, ?s30, ?s31, ?s32, trivial⟩
      case s0 =>
        intro ff gg KK hK
        have f0 : l0 = false := ff
        clear ff gg
        subst f0
        simp only [cond_false]
        go_simp
        exact hK _ _ ⟨true, l1, l2, l3, l4, l5, l6, l7, l8, l9, l10, l11, l12, l13, l14, l15, l16, l17, l18, l19, l20, l21, l22, l23, l24, l25, l26, l27, l28, l29, l30, l31, l32, EX, rfl, (by simp only [cond_true, List.setIfInBounds_toArray, List.set_cons_zero, List.set_cons_succ]), hb0, hq31, hr31⟩
      case s1 =>
        intro ff gg KK hK
        have f0 : l1 = false := ff
        clear ff gg
        subst f0
        simp only [cond_false]
        go_simp
        exact hK _ _ ⟨l0, true, l2, l3, l4, l5, l6, l7, l8, l9, l10, l11, l12, l13, l14, l15, l16, l17, l18, l19, l20, l21, l22, l23, l24, l25, l26, l27, l28, l29, l30, l31, l32, EX, rfl, (by simp only [cond_true, List.setIfInBounds_toArray, List.set_cons_zero, List.set_cons_succ]), hb0, hq31, hr31⟩
      case s2 =>
        intro ff gg KK hK
        have f0 : l2 = false := ff
        clear ff gg
        subst f0
        simp only [cond_false]
        go_simp
        exact hK _ _ ⟨l0, l1, true, l3, l4, l5, l6, l7, l8, l9, l10, l11, l12, l13, l14, l15, l16, l17, l18, l19, l20, l21, l22, l23, l24, l25, l26, l27, l28, l29, l30, l31, l32, EX, rfl, (by simp only [cond_true, List.setIfInBounds_toArray, List.set_cons_zero, List.set_cons_succ]), hb0, hq31, hr31⟩
      case s3 =>
        intro ff gg KK hK
        have f0 : l3 = false := ff
        clear ff gg
        subst f0
        simp only [cond_false]
        go_simp
        exact hK _ _ ⟨l0, l1, l2, true, l4, l5, l6, l7, l8, l9, l10, l11, l12, l13, l14, l15, l16, l17, l18, l19, l20, l21, l22, l23, l24, l25, l26, l27, l28, l29, l30, l31, l32, EX, rfl, (by simp only [cond_true, List.setIfInBounds_toArray, List.set_cons_zero, List.set_cons_succ]), hb0, hq31, hr31⟩
      case s4 =>
        intro ff gg KK hK
        have t3 : l3 = true := gg ⟨3, .data⟩ (by simp) (by rfl)
        have f0 : l4 = false := ff
        clear ff gg
        subst t3
        subst f0
        simp only [cond_true, cond_false]
        have cc0 : vx.cell? ⟨w.heap.size, 0, none⟩ = some (.int .i64 la) := cell_later hb0 a0
        go_simp
        exact hK _ _ ⟨l0, l1, l2, true, true, l5, l6, l7, l8, l9, l10, l11, l12, l13, l14, l15, l16, l17, l18, l19, l20, l21, l22, l23, l24, l25, l26, l27, l28, l29, l30, l31, l32, EX, rfl, (by simp only [cond_true, List.setIfInBounds_toArray, List.set_cons_zero, List.set_cons_succ]), hb0, hq31, hr31⟩
      case s5 =>
        intro ff gg KK hK
        have t4 : l4 = true := gg ⟨4, .data⟩ (by simp) (by rfl)
        have f0 : l5 = false := ff
        clear ff gg
        subst t4
        subst f0
        simp only [cond_true, cond_false]
        go_simp
        ((go_at_call 140; ((with_reducible refine (gone_any _ _).mono ?_); rintro e w' ⟨rfl, hb⟩)))
        exact hK _ _ ⟨l0, l1, l2, l3, true, true, l6, l7, l8, l9, l10, l11, l12, l13, l14, l15, l16, l17, l18, l19, l20, l21, l22, l23, l24, l25, l26, l27, l28, l29, l30, l31, l32, EX, rfl, (by simp only [cond_true, List.setIfInBounds_toArray, List.set_cons_zero, List.set_cons_succ]), bl_step hb hb0, hq31, (fun t => (hr31 t).later hb)⟩
      case s6 =>
        intro ff gg KK hK
        have t2 : l2 = true := gg ⟨2, .data⟩ (by simp) (by rfl)
        have t5 : l5 = true := gg ⟨5, .data⟩ (by simp) (by rfl)
        have f0 : l6 = false := ff
        clear ff gg
        subst t2 t5
        subst f0
        simp only [cond_true, cond_false]
        go_simp
        ((go_at_call 143; ((with_reducible refine (gcos_any la la cal cah B1 _ (okAt_later hb0 hok) CA).mono ?_); rintro e w' ⟨rfl, hb⟩)))
        exact hK _ _ ⟨l0, l1, true, l3, l4, true, true, l7, l8, l9, l10, l11, l12, l13, l14, l15, l16, l17, l18, l19, l20, l21, l22, l23, l24, l25, l26, l27, l28, l29, l30, l31, l32, EX, rfl, (by simp only [cond_true, List.setIfInBounds_toArray, List.set_cons_zero, List.set_cons_succ]), bl_step hb hb0, hq31, (fun t => (hr31 t).later hb)⟩
      case s7 =>
        intro ff gg KK hK
        have f0 : l7 = false := ff
        clear ff gg
        subst f0
        simp only [cond_false]
        go_simp
        exact hK _ _ ⟨l0, l1, l2, l3, l4, l5, l6, true, l8, l9, l10, l11, l12, l13, l14, l15, l16, l17, l18, l19, l20, l21, l22, l23, l24, l25, l26, l27, l28, l29, l30, l31, l32, EX, rfl, (by simp only [cond_true, List.setIfInBounds_toArray, List.set_cons_zero, List.set_cons_succ]), hb0, hq31, hr31⟩
      case s8 =>
        intro ff gg KK hK
        have f0 : l8 = false := ff
        clear ff gg
        subst f0
        simp only [cond_false]
        go_simp
        exact hK _ _ ⟨l0, l1, l2, l3, l4, l5, l6, l7, true, l9, l10, l11, l12, l13, l14, l15, l16, l17, l18, l19, l20, l21, l22, l23, l24, l25, l26, l27, l28, l29, l30, l31, l32, EX, rfl, (by simp only [cond_true, List.setIfInBounds_toArray, List.set_cons_zero, List.set_cons_succ]), hb0, hq31, hr31⟩
      case s9 =>
        intro ff gg KK hK
        have t8 : l8 = true := gg ⟨8, .data⟩ (by simp) (by rfl)
        have f0 : l9 = false := ff
        clear ff gg
        subst t8
        subst f0
        simp only [cond_true, cond_false]
        have cc0 : vx.cell? ⟨w.heap.size + 1, 0, none⟩ = some (.int .i64 lb) := cell_later hb0 b0
        go_simp
        exact hK _ _ ⟨l0, l1, l2, l3, l4, l5, l6, l7, true, true, l10, l11, l12, l13, l14, l15, l16, l17, l18, l19, l20, l21, l22, l23, l24, l25, l26, l27, l28, l29, l30, l31, l32, EX, rfl, (by simp only [cond_true, List.setIfInBounds_toArray, List.set_cons_zero, List.set_cons_succ]), hb0, hq31, hr31⟩
      case s10 =>
        intro ff gg KK hK
        have t9 : l9 = true := gg ⟨9, .data⟩ (by simp) (by rfl)
        have f0 : l10 = false := ff
        clear ff gg
        subst t9
        subst f0
        simp only [cond_true, cond_false]
        go_simp
        ((go_at_call 140; ((with_reducible refine (gone_any _ _).mono ?_); rintro e w' ⟨rfl, hb⟩)))
        exact hK _ _ ⟨l0, l1, l2, l3, l4, l5, l6, l7, l8, true, true, l11, l12, l13, l14, l15, l16, l17, l18, l19, l20, l21, l22, l23, l24, l25, l26, l27, l28, l29, l30, l31, l32, EX, rfl, (by simp only [cond_true, List.setIfInBounds_toArray, List.set_cons_zero, List.set_cons_succ]), bl_step hb hb0, hq31, (fun t => (hr31 t).later hb)⟩
      case s11 =>
        intro ff gg KK hK
        have t7 : l7 = true := gg ⟨7, .data⟩ (by simp) (by rfl)
        have t10 : l10 = true := gg ⟨10, .data⟩ (by simp) (by rfl)
        have f0 : l11 = false := ff
        clear ff gg
        subst t7 t10
        subst f0
        simp only [cond_true, cond_false]
        go_simp
        ((go_at_call 142; ((with_reducible refine (gsin_any lb lb sbl sbh B1 _ (okAt_later hb0 hok) SB).mono ?_); rintro e w' ⟨rfl, hb⟩)))
        exact hK _ _ ⟨l0, l1, l2, l3, l4, l5, l6, true, l8, l9, true, true, l12, l13, l14, l15, l16, l17, l18, l19, l20, l21, l22, l23, l24, l25, l26, l27, l28, l29, l30, l31, l32, EX, rfl, (by simp only [cond_true, List.setIfInBounds_toArray, List.set_cons_zero, List.set_cons_succ]), bl_step hb hb0, hq31, (fun t => (hr31 t).later hb)⟩
      case s12 =>
        intro ff gg KK hK
        have t1 : l1 = true := gg ⟨1, .data⟩ (by simp) (by rfl)
        have t6 : l6 = true := gg ⟨6, .data⟩ (by simp) (by rfl)
        have t11 : l11 = true := gg ⟨11, .data⟩ (by simp) (by rfl)
        have f0 : l12 = false := ff
        clear ff gg
        subst t1 t6 t11
        subst f0
        simp only [cond_true, cond_false]
        go_simp
        ((go_at_call 141; ((with_reducible refine (gmul_any cal cah sbl sbh ml mh B1 _ (okAt_later hb0 hok) M1).mono ?_); rintro e w' ⟨rfl, hb⟩)))
        exact hK _ _ ⟨l0, true, l2, l3, l4, l5, true, l7, l8, l9, l10, true, true, l13, l14, l15, l16, l17, l18, l19, l20, l21, l22, l23, l24, l25, l26, l27, l28, l29, l30, l31, l32, EX, rfl, (by simp only [cond_true, List.setIfInBounds_toArray, List.set_cons_zero, List.set_cons_succ]), bl_step hb hb0, hq31, (fun t => (hr31 t).later hb)⟩
      case s13 =>
        intro ff gg KK hK
        have f0 : l13 = false := ff
        clear ff gg
        subst f0
        simp only [cond_false]
        go_simp
        exact hK _ _ ⟨l0, l1, l2, l3, l4, l5, l6, l7, l8, l9, l10, l11, l12, true, l14, l15, l16, l17, l18, l19, l20, l21, l22, l23, l24, l25, l26, l27, l28, l29, l30, l31, l32, EX, rfl, (by simp only [cond_true, List.setIfInBounds_toArray, List.set_cons_zero, List.set_cons_succ]), hb0, hq31, hr31⟩
      case s14 =>
        intro ff gg KK hK
        have f0 : l14 = false := ff
        clear ff gg
        subst f0
        simp only [cond_false]
        go_simp
        exact hK _ _ ⟨l0, l1, l2, l3, l4, l5, l6, l7, l8, l9, l10, l11, l12, l13, true, l15, l16, l17, l18, l19, l20, l21, l22, l23, l24, l25, l26, l27, l28, l29, l30, l31, l32, EX, rfl, (by simp only [cond_true, List.setIfInBounds_toArray, List.set_cons_zero, List.set_cons_succ]), hb0, hq31, hr31⟩
      case s15 =>
        intro ff gg KK hK
        have f0 : l15 = false := ff
        clear ff gg
        subst f0
        simp only [cond_false]
        go_simp
        exact hK _ _ ⟨l0, l1, l2, l3, l4, l5, l6, l7, l8, l9, l10, l11, l12, l13, l14, true, l16, l17, l18, l19, l20, l21, l22, l23, l24, l25, l26, l27, l28, l29, l30, l31, l32, EX, rfl, (by simp only [cond_true, List.setIfInBounds_toArray, List.set_cons_zero, List.set_cons_succ]), hb0, hq31, hr31⟩
      case s16 =>
        intro ff gg KK hK
        have f0 : l16 = false := ff
        clear ff gg
        subst f0
        simp only [cond_false]
        go_simp
        exact hK _ _ ⟨l0, l1, l2, l3, l4, l5, l6, l7, l8, l9, l10, l11, l12, l13, l14, l15, true, l17, l18, l19, l20, l21, l22, l23, l24, l25, l26, l27, l28, l29, l30, l31, l32, EX, rfl, (by simp only [cond_true, List.setIfInBounds_toArray, List.set_cons_zero, List.set_cons_succ]), hb0, hq31, hr31⟩
      case s17 =>
        intro ff gg KK hK
        have t16 : l16 = true := gg ⟨16, .data⟩ (by simp) (by rfl)
        have f0 : l17 = false := ff
        clear ff gg
        subst t16
        subst f0
        simp only [cond_true, cond_false]
        have cc0 : vx.cell? ⟨w.heap.size, 0, none⟩ = some (.int .i64 la) := cell_later hb0 a0
        go_simp
        exact hK _ _ ⟨l0, l1, l2, l3, l4, l5, l6, l7, l8, l9, l10, l11, l12, l13, l14, l15, true, true, l18, l19, l20, l21, l22, l23, l24, l25, l26, l27, l28, l29, l30, l31, l32, EX, rfl, (by simp only [cond_true, List.setIfInBounds_toArray, List.set_cons_zero, List.set_cons_succ]), hb0, hq31, hr31⟩
      case s18 =>
        intro ff gg KK hK
        have t17 : l17 = true := gg ⟨17, .data⟩ (by simp) (by rfl)
        have f0 : l18 = false := ff
        clear ff gg
        subst t17
        subst f0
        simp only [cond_true, cond_false]
        go_simp
        ((go_at_call 140; ((with_reducible refine (gone_any _ _).mono ?_); rintro e w' ⟨rfl, hb⟩)))
        exact hK _ _ ⟨l0, l1, l2, l3, l4, l5, l6, l7, l8, l9, l10, l11, l12, l13, l14, l15, l16, true, true, l19, l20, l21, l22, l23, l24, l25, l26, l27, l28, l29, l30, l31, l32, EX, rfl, (by simp only [cond_true, List.setIfInBounds_toArray, List.set_cons_zero, List.set_cons_succ]), bl_step hb hb0, hq31, (fun t => (hr31 t).later hb)⟩
      case s19 =>
        intro ff gg KK hK
        have t15 : l15 = true := gg ⟨15, .data⟩ (by simp) (by rfl)
        have t18 : l18 = true := gg ⟨18, .data⟩ (by simp) (by rfl)
        have f0 : l19 = false := ff
        clear ff gg
        subst t15 t18
        subst f0
        simp only [cond_true, cond_false]
        go_simp
        ((go_at_call 142; ((with_reducible refine (gsin_any la la sal sah B1 _ (okAt_later hb0 hok) SA).mono ?_); rintro e w' ⟨rfl, hb⟩)))
        exact hK _ _ ⟨l0, l1, l2, l3, l4, l5, l6, l7, l8, l9, l10, l11, l12, l13, l14, true, l16, l17, true, true, l20, l21, l22, l23, l24, l25, l26, l27, l28, l29, l30, l31, l32, EX, rfl, (by simp only [cond_true, List.setIfInBounds_toArray, List.set_cons_zero, List.set_cons_succ]), bl_step hb hb0, hq31, (fun t => (hr31 t).later hb)⟩
      case s20 =>
        intro ff gg KK hK
        have f0 : l20 = false := ff
        clear ff gg
        subst f0
        simp only [cond_false]
        go_simp
        exact hK _ _ ⟨l0, l1, l2, l3, l4, l5, l6, l7, l8, l9, l10, l11, l12, l13, l14, l15, l16, l17, l18, l19, true, l21, l22, l23, l24, l25, l26, l27, l28, l29, l30, l31, l32, EX, rfl, (by simp only [cond_true, List.setIfInBounds_toArray, List.set_cons_zero, List.set_cons_succ]), hb0, hq31, hr31⟩
      case s21 =>
        intro ff gg KK hK
        have f0 : l21 = false := ff
        clear ff gg
        subst f0
        simp only [cond_false]
        go_simp
        exact hK _ _ ⟨l0, l1, l2, l3, l4, l5, l6, l7, l8, l9, l10, l11, l12, l13, l14, l15, l16, l17, l18, l19, l20, true, l22, l23, l24, l25, l26, l27, l28, l29, l30, l31, l32, EX, rfl, (by simp only [cond_true, List.setIfInBounds_toArray, List.set_cons_zero, List.set_cons_succ]), hb0, hq31, hr31⟩
      case s22 =>
        intro ff gg KK hK
        have t21 : l21 = true := gg ⟨21, .data⟩ (by simp) (by rfl)
        have f0 : l22 = false := ff
        clear ff gg
        subst t21
        subst f0
        simp only [cond_true, cond_false]
        have cc0 : vx.cell? ⟨w.heap.size + 1, 0, none⟩ = some (.int .i64 lb) := cell_later hb0 b0
        go_simp
        exact hK _ _ ⟨l0, l1, l2, l3, l4, l5, l6, l7, l8, l9, l10, l11, l12, l13, l14, l15, l16, l17, l18, l19, l20, true, true, l23, l24, l25, l26, l27, l28, l29, l30, l31, l32, EX, rfl, (by simp only [cond_true, List.setIfInBounds_toArray, List.set_cons_zero, List.set_cons_succ]), hb0, hq31, hr31⟩
      case s23 =>
        intro ff gg KK hK
        have t22 : l22 = true := gg ⟨22, .data⟩ (by simp) (by rfl)
        have f0 : l23 = false := ff
        clear ff gg
        subst t22
        subst f0
        simp only [cond_true, cond_false]
        go_simp
        ((go_at_call 140; ((with_reducible refine (gone_any _ _).mono ?_); rintro e w' ⟨rfl, hb⟩)))
        exact hK _ _ ⟨l0, l1, l2, l3, l4, l5, l6, l7, l8, l9, l10, l11, l12, l13, l14, l15, l16, l17, l18, l19, l20, l21, true, true, l24, l25, l26, l27, l28, l29, l30, l31, l32, EX, rfl, (by simp only [cond_true, List.setIfInBounds_toArray, List.set_cons_zero, List.set_cons_succ]), bl_step hb hb0, hq31, (fun t => (hr31 t).later hb)⟩
      case s24 =>
        intro ff gg KK hK
        have t20 : l20 = true := gg ⟨20, .data⟩ (by simp) (by rfl)
        have t23 : l23 = true := gg ⟨23, .data⟩ (by simp) (by rfl)
        have f0 : l24 = false := ff
        clear ff gg
        subst t20 t23
        subst f0
        simp only [cond_true, cond_false]
        go_simp
        ((go_at_call 143; ((with_reducible refine (gcos_any lb lb cbl cbh B1 _ (okAt_later hb0 hok) CB).mono ?_); rintro e w' ⟨rfl, hb⟩)))
        exact hK _ _ ⟨l0, l1, l2, l3, l4, l5, l6, l7, l8, l9, l10, l11, l12, l13, l14, l15, l16, l17, l18, l19, true, l21, l22, true, true, l25, l26, l27, l28, l29, l30, l31, l32, EX, rfl, (by simp only [cond_true, List.setIfInBounds_toArray, List.set_cons_zero, List.set_cons_succ]), bl_step hb hb0, hq31, (fun t => (hr31 t).later hb)⟩
      case s25 =>
        intro ff gg KK hK
        have t14 : l14 = true := gg ⟨14, .data⟩ (by simp) (by rfl)
        have t19 : l19 = true := gg ⟨19, .data⟩ (by simp) (by rfl)
        have t24 : l24 = true := gg ⟨24, .data⟩ (by simp) (by rfl)
        have f0 : l25 = false := ff
        clear ff gg
        subst t14 t19 t24
        subst f0
        simp only [cond_true, cond_false]
        go_simp
        ((go_at_call 141; ((with_reducible refine (gmul_any sal sah cbl cbh nl nh B1 _ (okAt_later hb0 hok) M2).mono ?_); rintro e w' ⟨rfl, hb⟩)))
        exact hK _ _ ⟨l0, l1, l2, l3, l4, l5, l6, l7, l8, l9, l10, l11, l12, l13, true, l15, l16, l17, l18, true, l20, l21, l22, l23, true, true, l26, l27, l28, l29, l30, l31, l32, EX, rfl, (by simp only [cond_true, List.setIfInBounds_toArray, List.set_cons_zero, List.set_cons_succ]), bl_step hb hb0, hq31, (fun t => (hr31 t).later hb)⟩
      case s26 =>
        intro ff gg KK hK
        have f0 : l26 = false := ff
        clear ff gg
        subst f0
        simp only [cond_false]
        go_simp
        exact hK _ _ ⟨l0, l1, l2, l3, l4, l5, l6, l7, l8, l9, l10, l11, l12, l13, l14, l15, l16, l17, l18, l19, l20, l21, l22, l23, l24, l25, true, l27, l28, l29, l30, l31, l32, EX, rfl, (by simp only [cond_true, List.setIfInBounds_toArray, List.set_cons_zero, List.set_cons_succ]), hb0, hq31, hr31⟩
      case s27 =>
        intro ff gg KK hK
        have f0 : l27 = false := ff
        clear ff gg
        subst f0
        simp only [cond_false]
        have cc0 : vx.cell? ⟨BD, 0, none⟩ = some (.int .i64 dl) := cell_later hb0 d0
        have cc1 : vx.cell? ⟨BD, 1, none⟩ = some (.int .i64 dl) := cell_later hb0 d1
        go_simp
        exact hK _ _ ⟨l0, l1, l2, l3, l4, l5, l6, l7, l8, l9, l10, l11, l12, l13, l14, l15, l16, l17, l18, l19, l20, l21, l22, l23, l24, l25, l26, true, l28, l29, l30, l31, l32, EX, rfl, (by simp only [cond_true, List.setIfInBounds_toArray, List.set_cons_zero, List.set_cons_succ]), hb0, hq31, hr31⟩
      case s28 =>
        intro ff gg KK hK
        have t26 : l26 = true := gg ⟨26, .data⟩ (by simp) (by rfl)
        have t27 : l27 = true := gg ⟨27, .data⟩ (by simp) (by rfl)
        have f0 : l28 = false := ff
        clear ff gg
        subst t26 t27
        subst f0
        simp only [cond_true, cond_false]
        go_simp
        ((go_at_call 143; ((with_reducible refine (gcos_any dl dl cdl cdh B1 _ (okAt_later hb0 hok) CD).mono ?_); rintro e w' ⟨rfl, hb⟩)))
        exact hK _ _ ⟨l0, l1, l2, l3, l4, l5, l6, l7, l8, l9, l10, l11, l12, l13, l14, l15, l16, l17, l18, l19, l20, l21, l22, l23, l24, l25, true, true, true, l29, l30, l31, l32, EX, rfl, (by simp only [cond_true, List.setIfInBounds_toArray, List.set_cons_zero, List.set_cons_succ]), bl_step hb hb0, hq31, (fun t => (hr31 t).later hb)⟩
      case s29 =>
        intro ff gg KK hK
        have t13 : l13 = true := gg ⟨13, .data⟩ (by simp) (by rfl)
        have t25 : l25 = true := gg ⟨25, .data⟩ (by simp) (by rfl)
        have t28 : l28 = true := gg ⟨28, .data⟩ (by simp) (by rfl)
        have f0 : l29 = false := ff
        clear ff gg
        subst t13 t25 t28
        subst f0
        simp only [cond_true, cond_false]
        go_simp
        ((go_at_call 141; ((with_reducible refine (gmul_any nl nh cdl cdh kl kh B1 _ (okAt_later hb0 hok) M3).mono ?_); rintro e w' ⟨rfl, hb⟩)))
        exact hK _ _ ⟨l0, l1, l2, l3, l4, l5, l6, l7, l8, l9, l10, l11, l12, true, l14, l15, l16, l17, l18, l19, l20, l21, l22, l23, l24, true, l26, l27, true, true, l30, l31, l32, EX, rfl, (by simp only [cond_true, List.setIfInBounds_toArray, List.set_cons_zero, List.set_cons_succ]), bl_step hb hb0, hq31, (fun t => (hr31 t).later hb)⟩
      case s30 =>
        intro ff gg KK hK
        have t0 : l0 = true := gg ⟨0, .data⟩ (by simp) (by rfl)
        have t12 : l12 = true := gg ⟨12, .data⟩ (by simp) (by rfl)
        have t29 : l29 = true := gg ⟨29, .data⟩ (by simp) (by rfl)
        have f0 : l30 = false := ff
        clear ff gg
        subst t0 t12 t29
        subst f0
        simp only [cond_true, cond_false]
        go_simp
        ((go_at_call 144; ((with_reducible refine (gsub_any ml mh kl kh xl xh B1 _ (okAt_later hb0 hok) SX).mono ?_); rintro e w' ⟨rfl, hb⟩)))
        exact hK _ _ ⟨true, l1, l2, l3, l4, l5, l6, l7, l8, l9, l10, l11, true, l13, l14, l15, l16, l17, l18, l19, l20, l21, l22, l23, l24, l25, l26, l27, l28, true, true, l31, l32, EX, rfl, (by simp only [cond_true, List.setIfInBounds_toArray, List.set_cons_zero, List.set_cons_succ]), bl_step hb hb0, hq31, (fun t => (hr31 t).later hb)⟩
      case s31 =>
        intro ff gg KK hK
        have f0 : l31 = false := ff
        clear ff gg
        subst f0
        simp only [cond_false]
        go_simp
        exact hK _ _ ⟨l0, l1, l2, l3, l4, l5, l6, l7, l8, l9, l10, l11, l12, l13, l14, l15, l16, l17, l18, l19, l20, l21, l22, l23, l24, l25, l26, l27, l28, l29, l30, true, l32, vx.heap.size, rfl, (by simp only [cond_true, List.setIfInBounds_toArray, List.set_cons_zero, List.set_cons_succ]), (by (repeat (first | (with_reducible exact Below.refl _ _) | (with_reducible refine Below.setCell ?_ (by (first | (simp; done) | (simp; omega) | omega)) _) | (with_reducible refine bl_alloc ?_ _) | (with_reducible refine bl_drewN ?_) | (with_reducible refine bl_drew ?_) | (with_reducible refine bl_step (by assumption) ?_)))), (fun _ => rfl), (fun _ => Room2.alloc hb0 _ _ _ _ _ _ hq31)⟩
      case s32 =>
        intro ff gg KK hK
        have t31 : l31 = true := gg ⟨31, .data⟩ (by simp) (by rfl)
        have t30 : l30 = true := gg ⟨30, .data⟩ (by simp) (by rfl)
        have f0 : l32 = false := ff
        clear ff gg
        subst t31 t30
        subst f0
        simp only [cond_true]
        have rr := hr31 rfl
        obtain ⟨m1, m2, fz0, fz1, y0, y1, cz0, cz1, m7⟩ := rr
        go_simp
        exact hK _ _ ⟨l0, l1, l2, l3, l4, l5, l6, l7, l8, l9, l10, l11, l12, l13, l14, l15, l16, l17, l18, l19, l20, l21, l22, l23, l24, l25, l26, l27, l28, l29, true, true, true, EX, rfl, (by simp only [cond_true, List.setIfInBounds_toArray, List.set_cons_zero, List.set_cons_succ]), ((hb0.setCell m1 _).setCell m1 _), (fun _ => rfl), (fun _ => (hr31 rfl).store _ _ _)⟩
    case hdone =>
      intro LL aa vx h hd
      obtain ⟨l0, l1, l2, l3, l4, l5, l6, l7, l8, l9, l10, l11, l12, l13, l14, l15, l16, l17, l18, l19, l20, l21, l22, l23, l24, l25, l26, l27, l28, l29, l30, l31, l32, EX, hL, ha, hb0, hq31, hr31⟩ := h
      rw [hL] at hd
      have t0 : l0 = true := hd 0 (by decide)
      have t1 : l1 = true := hd 1 (by decide)
      have t2 : l2 = true := hd 2 (by decide)
      have t3 : l3 = true := hd 3 (by decide)
      have t4 : l4 = true := hd 4 (by decide)
      have t5 : l5 = true := hd 5 (by decide)
      have t6 : l6 = true := hd 6 (by decide)
      have t7 : l7 = true := hd 7 (by decide)
      have t8 : l8 = true := hd 8 (by decide)
      have t9 : l9 = true := hd 9 (by decide)
      have t10 : l10 = true := hd 10 (by decide)
      have t11 : l11 = true := hd 11 (by decide)
      have t12 : l12 = true := hd 12 (by decide)
      have t13 : l13 = true := hd 13 (by decide)
      have t14 : l14 = true := hd 14 (by decide)
      have t15 : l15 = true := hd 15 (by decide)
      have t16 : l16 = true := hd 16 (by decide)
      have t17 : l17 = true := hd 17 (by decide)
      have t18 : l18 = true := hd 18 (by decide)
      have t19 : l19 = true := hd 19 (by decide)
      have t20 : l20 = true := hd 20 (by decide)
      have t21 : l21 = true := hd 21 (by decide)
      have t22 : l22 = true := hd 22 (by decide)
      have t23 : l23 = true := hd 23 (by decide)
      have t24 : l24 = true := hd 24 (by decide)
      have t25 : l25 = true := hd 25 (by decide)
      have t26 : l26 = true := hd 26 (by decide)
      have t27 : l27 = true := hd 27 (by decide)
      have t28 : l28 = true := hd 28 (by decide)
      have t29 : l29 = true := hd 29 (by decide)
      have t30 : l30 = true := hd 30 (by decide)
      have t31 : l31 = true := hd 31 (by decide)
      have t32 : l32 = true := hd 32 (by decide)
      clear hd hL hq31
      subst t0 t1 t2 t3 t4 t5 t6 t7 t8 t9 t10 t11 t12 t13 t14 t15 t16 t17 t18 t19 t20 t21 t22 t23 t24 t25 t26 t27 t28 t29 t30 t31 t32
      simp only [cond_true, List.setIfInBounds_toArray, List.set_cons_zero, List.set_cons_succ] at ha
      subst ha
      obtain ⟨EXg, EXl, _, _, y0, y1, EXc0, EXc1, hy⟩ := hr31 rfl
      obtain ⟨rfl, rfl⟩ := hy rfl
      clear hr31
      have a0 := cell_later hb0 a0
      have a1 := cell_later hb0 a1
      have b0 := cell_later hb0 b0
      have b1 := cell_later hb0 b1
      have d0 := cell_later hb0 d0
      have d1 := cell_later hb0 d1
      have r0 := cell_later hb0 r0
      have r1 := cell_later hb0 r1
      have rf : ∀ o, vx.frozen? ⟨w.heap.size + 1 + 1, o, none⟩ = false := fun o => (hb0.frozen (p := ⟨w.heap.size + 1 + 1, o, none⟩) g2).trans (rf o)
      have hok := okAt_later hb0 hok
      have hw2 : Below w.heap.size w vx := Below.trans hw1 (hb0.mono (by omega))
      have g9 := hb0.size
      have g2 : w.heap.size + 1 + 1 < vx.heap.size := by omega
      have g1 : w.heap.size + 1 < vx.heap.size := by omega
      have g0 : w.heap.size < vx.heap.size := by omega
      have gD : BD < vx.heap.size := by omega
      have EYc0 := cell_later hb0 EYc0
      have EYc1 := cell_later hb0 EYc1
      have gY : EY < vx.heap.size := World.block_lt_of_cell? _ _ EYc0
      have gB := okAt_lt hok
      clear hw1 hb0 g9
      have K := hidden fun w' (hb : Below vx.heap.size vx w') => garc_any L H B1 w' (okAt_later hb hok)
      go_wp2_with (((first | (go_at_call 47; ((with_reducible refine (BR.out _).mono ?_); rintro e w' ⟨rfl, hb⟩); have nm0 := trivial) | (go_at_call 145; ((with_reducible refine (K.out _ ?kb).mono ?_); (case kb => ((repeat (first | (with_reducible exact Below.refl _ _) | (with_reducible refine Below.setCell ?_ (by (first | (simp; done) | (simp; omega) | omega)) _) | (with_reducible refine bl_alloc ?_ _) | (with_reducible refine bl_drewN ?_) | (with_reducible refine bl_drew ?_) | (with_reducible refine bl_step (by assumption) ?_))); done)); rintro e w' ⟨rfl, hb⟩); have nm1 := trivial)); (try replace hb := below_undrew hb); (try replace hb := below_undrewN hb); obtain ⟨hcell, hfroz⟩ := bcell hb; have hz := hb.size; (try simp at hz); (try (have z9 := Nat.lt_of_lt_of_le (Nat.lt_succ_self _) hz)); (try have z0 : w.heap.size < w'.heap.size := by omega); (try have z1 : w.heap.size + 1 < w'.heap.size := by omega); (try have z2 : w.heap.size + 1 + 1 < w'.heap.size := by omega); (try have z3 : w.heap.size + 1 + 1 + 1 < w'.heap.size := by omega); (try have y1 : w1.heap.size < w'.heap.size := by omega); (try have y3 : w3.heap.size < w'.heap.size := by omega); (try have x1 : w1.heap.size + 1 < w'.heap.size := by omega); (try have x3 : w3.heap.size + 1 < w'.heap.size := by omega); (try have hB1 : B1 < w'.heap.size := by omega); (try have hB3 : B1 < w'.heap.size + 1 := by omega); (first | (clear nm0; obtain ⟨w3, rfl⟩ : ∃ v, v = w' := ⟨_, rfl⟩) | (clear nm1; obtain ⟨w4, rfl⟩ : ∃ v, v = w' := ⟨_, rfl⟩))))
      exact bodyPost_ret (v := .agg #[.int .i64 L, .int .i64 H]) (by first | (simp only [results, Tryz.results60]; go_simp; done) | simp [results, Tryz.results60, go_sem, *]) rfl ⟨rfl, by (repeat (first | (with_reducible exact Below.refl _ _) | (with_reducible refine Below.setCell ?_ (by (first | (simp; done) | (simp; omega) | omega)) _) | (with_reducible refine bl_alloc ?_ _) | (with_reducible refine bl_drewN ?_) | (with_reducible refine bl_drew ?_) | (with_reducible refine bl_step (by assumption) ?_)))⟩
theorem vpoint_ok (a b : Int) (w : World) (h1 : -5400000 ≤ a) (h2 : a ≤ 5400000) (h3 : -10800000 ≤ b) (h4 : b < 10800000) :
    Calls Tryz.prog 59 #[.agg #[.int .i64 a, .int .i64 b]] w fun e w' => e = .returned (.bool true) ∧ Below w.heap.size w w' := by
  go_enter Tryz.func59, Tryz.ntmps59
  go_wp2
  go_ret
  exact ⟨rfl, by (repeat (first | (with_reducible exact Below.refl _ _) | (with_reducible refine Below.setCell ?_ (by (first | (simp; done) | (simp; omega) | omega)) _) | (with_reducible refine bl_alloc ?_ _) | (with_reducible refine bl_drewN ?_) | (with_reducible refine bl_drew ?_) | (with_reducible refine bl_step (by assumption) ?_)))⟩
set_option maxRecDepth 100000 in
set_option maxHeartbeats 8000000 in
theorem ginv_walk (la lo lb lob p q L H : Int) (w : World) (h1 : -5400000 ≤ la) (h2 : la ≤ 5400000) (h3 : -10800000 ≤ lo) (h4 : lo < 10800000) (k1 : -5400000 ≤ lb) (k2 : lb ≤ 5400000) (k3 : -10800000 ≤ lob) (k4 : lob < 10800000)
    (C : Hid (∀ B1 w, okAt w B1 → Calls Tryz.prog 60 #[.pointer (some ⟨B1, 0, none⟩), .agg #[.int .i64 la, .int .i64 lo], .agg #[.int .i64 lb, .int .i64 lob]] w fun e w' => e = .returned (.agg #[.int .i64 p, .int .i64 q]) ∧ Below w.heap.size w w'))
    (D : Hid (∀ B1 w, okAt w B1 → Calls Tryz.prog 61 #[.pointer (some ⟨B1, 0, none⟩), .agg #[.int .i64 la, .int .i64 lo], .agg #[.int .i64 lb, .int .i64 lob]] w fun e w' => e = .returned (.agg #[.int .i64 L, .int .i64 H]) ∧ Below w.heap.size w w')) :
    Calls Tryz.prog 17 #[.agg #[.int .i64 la, .int .i64 lo], .agg #[.int .i64 lb, .int .i64 lob]] w fun e w' => e = .returned (.tuple #[.agg #[.int .i64 p, .int .i64 q, .int .i64 L, .int .i64 H], .int .i64 0]) ∧ Below w.heap.size w w' := by
  have V1 := hidden fun w => vpoint_ok la lo w h1 h2 h3 h4
  have V2 := hidden fun w => vpoint_ok lb lob w k1 k2 k3 k4
  clear h1 h2 h3 h4 k1 k2 k3 k4
  go_enter Tryz.func17, Tryz.ntmps17
  go_upto_region 4 with (((first | (go_at_call 59; ((with_reducible refine (V1.out _).mono ?_); rintro e w' ⟨rfl, hb⟩); have nm0 := trivial) | (go_at_call 59; ((with_reducible refine (V2.out _).mono ?_); rintro e w' ⟨rfl, hb⟩); have nm1 := trivial)); (try replace hb := below_undrew hb); (try replace hb := below_undrewN hb); obtain ⟨hcell, hfroz⟩ := bcell hb; have hz := hb.size; (try simp at hz); (try (have z9 := Nat.lt_of_lt_of_le (Nat.lt_succ_self _) hz)); (try have z0 : w.heap.size < w'.heap.size := by omega); (try have z1 : w.heap.size + 1 < w'.heap.size := by omega); (try have z2 : w.heap.size + 1 + 1 < w'.heap.size := by omega); (try have z3 : w.heap.size + 1 + 1 + 1 < w'.heap.size := by omega); (try have y1 : w1.heap.size < w'.heap.size := by omega); (try have x1 : w1.heap.size + 1 < w'.heap.size := by omega); (try have z10 : w1.heap.size < w'.heap.size + 1 := by omega); (first | (clear nm0; obtain ⟨w1, rfl⟩ : ∃ v, v = w' := ⟨_, rfl⟩) | (clear nm1; obtain ⟨w2, rfl⟩ : ∃ v, v = w' := ⟨_, rfl⟩))))
  (refine name_code ?_; intro w' hb; (try replace hb := below_undrew hb); (try replace hb := below_undrewN hb); obtain ⟨hcell, hfroz⟩ := bcell hb; have hz := hb.size; (try simp at hz); (try (have z9 := Nat.lt_of_lt_of_le (Nat.lt_succ_self _) hz)); (try have z0 : w.heap.size < w'.heap.size := by omega); (try have z1 : w.heap.size + 1 < w'.heap.size := by omega); (try have z2 : w.heap.size + 1 + 1 < w'.heap.size := by omega); (try have z3 : w.heap.size + 1 + 1 + 1 < w'.heap.size := by omega); (try have y1 : w1.heap.size < w'.heap.size := by omega); (try have y2 : w2.heap.size < w'.heap.size := by omega); (try have x1 : w1.heap.size + 1 < w'.heap.size := by omega); (try have x2 : w2.heap.size + 1 < w'.heap.size := by omega); (try have z10 : w1.heap.size < w'.heap.size + 1 := by omega); (try have z20 : w2.heap.size < w'.heap.size + 1 := by omega))
  have hw0 : Below w.heap.size w w' := by (repeat (first | (with_reducible exact Below.refl _ _) | (with_reducible refine Below.setCell ?_ (by (first | (simp; done) | (simp; omega) | omega)) _) | (with_reducible refine bl_alloc ?_ _) | (with_reducible refine bl_drewN ?_) | (with_reducible refine bl_drew ?_) | (with_reducible refine bl_step (by assumption) ?_)))
  have hd1 : w.heap.size < w2.heap.size + 1 := by omega
  have hd2 : w.heap.size + 1 < w2.heap.size + 1 := by omega
  have hd3 : w.heap.size + 1 + 1 < w2.heap.size + 1 := by omega
  have a0 : w'.cell? ⟨w.heap.size, 0, none⟩ = some (.int .i64 la) := by simp [go_sem, *]
  have a1 : w'.cell? ⟨w.heap.size, 1, none⟩ = some (.int .i64 lo) := by simp [go_sem, *]
  have b0 : w'.cell? ⟨w.heap.size + 1, 0, none⟩ = some (.int .i64 lb) := by simp [go_sem, *]
  have b1 : w'.cell? ⟨w.heap.size + 1, 1, none⟩ = some (.int .i64 lob) := by simp [go_sem, *]
  have r0 : w'.cell? ⟨w.heap.size + 1 + 1, 0, none⟩ = some (.int .i64 0) := by simp [go_sem, *]
  have r1 : w'.cell? ⟨w.heap.size + 1 + 1, 1, none⟩ = some (.int .i64 0) := by simp [go_sem, *]
  have r2 : w'.cell? ⟨w.heap.size + 1 + 1, 2, none⟩ = some (.int .i64 0) := by simp [go_sem, *]
  have r3 : w'.cell? ⟨w.heap.size + 1 + 1, 3, none⟩ = some (.int .i64 0) := by simp [go_sem, *]
  have rf : ∀ o, w'.frozen? ⟨w.heap.size + 1 + 1, o, none⟩ = false := by intro o; simp [go_sem, *]
  have hok : okAt w' w2.heap.size := ⟨by simp [go_sem, *], by simp [go_sem, *]⟩
  have hz1 : w.heap.size + 1 + 1 < w2.heap.size := by omega
  clear hcell hfroz hz hb
  obtain ⟨V0, rfl⟩ : ∃ v, v = w' := ⟨_, rfl⟩
  generalize w2.heap.size = BW at *
  have g2 : w.heap.size + 1 + 1 < V0.heap.size := World.block_lt_of_cell? _ _ r0
  refine wp_region_inv (fun a0 LL aa vv => ∃ (l0 l1 l2 l3 l4 l5 l6 l7 l8 : Bool) (EL : Nat), LL = #[l0, l1, l2, l3, l4, l5, l6, l7, l8] ∧ aa = { a0 with tmps := ((((((((a0.tmps.setIfInBounds 17 (cond l0 (.agg #[.int .i64 la, .int .i64 lo]) (undef))).setIfInBounds 18 (cond l1 (.agg #[.int .i64 lb, .int .i64 lob]) (undef))).setIfInBounds 19 (cond l2 (.agg #[.int .i64 p, .int .i64 q]) (undef))).setIfInBounds 20 (cond l3 (.agg #[.int .i64 la, .int .i64 lo]) (undef))).setIfInBounds 21 (cond l4 (.agg #[.int .i64 lb, .int .i64 lob]) (undef))).setIfInBounds 22 (cond l5 (.agg #[.int .i64 L, .int .i64 H]) (undef))).setIfInBounds 23 (cond l6 (.agg #[.int .i64 p, .int .i64 q, .int .i64 L, .int .i64 H]) (undef))).setIfInBounds 7 (cond l7 (.pointer (some ⟨EL, 0, none⟩)) (undef))) } ∧ Below V0.heap.size V0 vv ∧ (l8 = true → l7 = true) ∧ (l7 = true → Room4 V0 vv EL l8 (p) (q) (L) (H))) (by kernel_rfl) (by kernel_rfl) ?h0 ?hsize ?hdone ?hstep
  case h0 =>
    refine ⟨false, false, false, false, false, false, false, false, false, 0, rfl, ?_, by (repeat (first | exact Below.refl _ _ | refine bl_drewN ?_ | refine bl_drew ?_ | refine bl_alloc ?_ _ | refine Below.setCell ?_ (by (first | (simp; done) | (simp; omega) | omega)) _ | refine bl_step (by assumption) ?_)), (fun h => by cases h), (fun h => by cases h)⟩
    simp only [cond_false, List.setIfInBounds_toArray, List.set_cons_zero, List.set_cons_succ]
  case hsize =>
    intro LL aa vv h
    obtain ⟨l0, l1, l2, l3, l4, l5, l6, l7, l8, EL, hL, _⟩ := h
    rw [hL]
    rfl
  case hstep =>
    intro LL aa vv h
    obtain ⟨l0, l1, l2, l3, l4, l5, l6, l7, l8, EL, hL, ha, hb0, hq7, hr7⟩ := h
    simp only [List.setIfInBounds_toArray, List.set_cons_zero, List.set_cons_succ] at ha
    subst hL
    subst ha
    refine ⟨?s0, ?s1, ?s2, ?s3, ?s4, ?s5, ?s6, ?s7, ?s8, trivial⟩
    case s0 =>
      intro ff gg KK hK
      have f0 : l0 = false := ff
      clear ff gg
      subst f0
      simp only [cond_false]
      have cc0 : vv.cell? ⟨w.heap.size, 0, none⟩ = some (.int .i64 la) := cell_later hb0 a0
      have cc1 : vv.cell? ⟨w.heap.size, 1, none⟩ = some (.int .i64 lo) := cell_later hb0 a1
      go_simp
      exact hK _ _ ⟨true, l1, l2, l3, l4, l5, l6, l7, l8, EL, rfl, (by simp only [cond_true, List.setIfInBounds_toArray, List.set_cons_zero, List.set_cons_succ]), hb0, hq7, hr7⟩
    case s1 =>
      intro ff gg KK hK
      have f0 : l1 = false := ff
      clear ff gg
      subst f0
      simp only [cond_false]
      have cc0 : vv.cell? ⟨w.heap.size + 1, 0, none⟩ = some (.int .i64 lb) := cell_later hb0 b0
      have cc1 : vv.cell? ⟨w.heap.size + 1, 1, none⟩ = some (.int .i64 lob) := cell_later hb0 b1
      go_simp
      exact hK _ _ ⟨l0, true, l2, l3, l4, l5, l6, l7, l8, EL, rfl, (by simp only [cond_true, List.setIfInBounds_toArray, List.set_cons_zero, List.set_cons_succ]), hb0, hq7, hr7⟩
    case s2 =>
      intro ff gg KK hK
      have t0 : l0 = true := gg ⟨0, .data⟩ (by simp) (by rfl)
      have t1 : l1 = true := gg ⟨1, .data⟩ (by simp) (by rfl)
      have f0 : l2 = false := ff
      clear ff gg
      subst t0 t1
      subst f0
      simp only [cond_true, cond_false]
      go_simp
      ((go_at_call 60; ((with_reducible refine (C.out BW _ (okAt_later hb0 hok)).mono ?_); rintro e w' ⟨rfl, hb⟩)))
      exact hK _ _ ⟨true, true, true, l3, l4, l5, l6, l7, l8, EL, rfl, (by simp only [cond_true, List.setIfInBounds_toArray, List.set_cons_zero, List.set_cons_succ]), bl_step hb hb0, hq7, (fun t => (hr7 t).later hb)⟩
    case s3 =>
      intro ff gg KK hK
      have f0 : l3 = false := ff
      clear ff gg
      subst f0
      simp only [cond_false]
      have cc0 : vv.cell? ⟨w.heap.size, 0, none⟩ = some (.int .i64 la) := cell_later hb0 a0
      have cc1 : vv.cell? ⟨w.heap.size, 1, none⟩ = some (.int .i64 lo) := cell_later hb0 a1
      go_simp
      exact hK _ _ ⟨l0, l1, l2, true, l4, l5, l6, l7, l8, EL, rfl, (by simp only [cond_true, List.setIfInBounds_toArray, List.set_cons_zero, List.set_cons_succ]), hb0, hq7, hr7⟩
    case s4 =>
      intro ff gg KK hK
      have f0 : l4 = false := ff
      clear ff gg
      subst f0
      simp only [cond_false]
      have cc0 : vv.cell? ⟨w.heap.size + 1, 0, none⟩ = some (.int .i64 lb) := cell_later hb0 b0
      have cc1 : vv.cell? ⟨w.heap.size + 1, 1, none⟩ = some (.int .i64 lob) := cell_later hb0 b1
      go_simp
      exact hK _ _ ⟨l0, l1, l2, l3, true, l5, l6, l7, l8, EL, rfl, (by simp only [cond_true, List.setIfInBounds_toArray, List.set_cons_zero, List.set_cons_succ]), hb0, hq7, hr7⟩
    case s5 =>
      intro ff gg KK hK
      have t3 : l3 = true := gg ⟨3, .data⟩ (by simp) (by rfl)
      have t4 : l4 = true := gg ⟨4, .data⟩ (by simp) (by rfl)
      have f0 : l5 = false := ff
      clear ff gg
      subst t3 t4
      subst f0
      simp only [cond_true, cond_false]
      go_simp
      ((go_at_call 61; ((with_reducible refine (D.out BW _ (okAt_later hb0 hok)).mono ?_); rintro e w' ⟨rfl, hb⟩)))
      exact hK _ _ ⟨l0, l1, l2, true, true, true, l6, l7, l8, EL, rfl, (by simp only [cond_true, List.setIfInBounds_toArray, List.set_cons_zero, List.set_cons_succ]), bl_step hb hb0, hq7, (fun t => (hr7 t).later hb)⟩
    case s6 =>
      intro ff gg KK hK
      have t2 : l2 = true := gg ⟨2, .data⟩ (by simp) (by rfl)
      have t5 : l5 = true := gg ⟨5, .data⟩ (by simp) (by rfl)
      have f0 : l6 = false := ff
      clear ff gg
      subst t2 t5
      subst f0
      simp only [cond_true, cond_false]
      go_simp
      exact hK _ _ ⟨l0, l1, true, l3, l4, true, true, l7, l8, EL, rfl, (by simp only [cond_true, List.setIfInBounds_toArray, List.set_cons_zero, List.set_cons_succ]), hb0, hq7, hr7⟩
    case s7 =>
      intro ff gg KK hK
      have f0 : l7 = false := ff
      clear ff gg
      subst f0
      simp only [cond_false]
      go_simp
      exact hK _ _ ⟨l0, l1, l2, l3, l4, l5, l6, true, l8, vv.heap.size, rfl, (by simp only [cond_true, List.setIfInBounds_toArray, List.set_cons_zero, List.set_cons_succ]), (by (repeat (first | (with_reducible exact Below.refl _ _) | (with_reducible refine Below.setCell ?_ (by (first | (simp; done) | (simp; omega) | omega)) _) | (with_reducible refine bl_alloc ?_ _) | (with_reducible refine bl_drewN ?_) | (with_reducible refine bl_drew ?_) | (with_reducible refine bl_step (by assumption) ?_)))), (fun _ => rfl), (fun _ => Room4.alloc hb0 _ _ _ _ _ _ _ _ _ _ hq7)⟩
    case s8 =>
      intro ff gg KK hK
      have t7 : l7 = true := gg ⟨7, .data⟩ (by simp) (by rfl)
      have t6 : l6 = true := gg ⟨6, .data⟩ (by simp) (by rfl)
      have f0 : l8 = false := ff
      clear ff gg
      subst t7 t6
      subst f0
      simp only [cond_true]
      have rr := hr7 rfl
      obtain ⟨m1, m2, fz0, fz1, fz2, fz3, y0, y1, y2, y3, cz0, cz1, cz2, cz3, m7⟩ := rr
      go_simp
      exact hK _ _ ⟨l0, l1, l2, l3, l4, l5, true, true, true, EL, rfl, (by simp only [cond_true, List.setIfInBounds_toArray, List.set_cons_zero, List.set_cons_succ]), ((((hb0.setCell m1 _).setCell m1 _).setCell m1 _).setCell m1 _), (fun _ => rfl), (fun _ => (hr7 rfl).store _ _ _ _ _)⟩
  case hdone =>
    intro LL aa vv h hd
    obtain ⟨l0, l1, l2, l3, l4, l5, l6, l7, l8, EL, hL, ha, hb0, hq7, hr7⟩ := h
    rw [hL] at hd
    have t0 : l0 = true := hd 0 (by decide)
    have t1 : l1 = true := hd 1 (by decide)
    have t2 : l2 = true := hd 2 (by decide)
    have t3 : l3 = true := hd 3 (by decide)
    have t4 : l4 = true := hd 4 (by decide)
    have t5 : l5 = true := hd 5 (by decide)
    have t6 : l6 = true := hd 6 (by decide)
    have t7 : l7 = true := hd 7 (by decide)
    have t8 : l8 = true := hd 8 (by decide)
    clear hd hL hq7
    subst t0 t1 t2 t3 t4 t5 t6 t7 t8
    simp only [cond_true, List.setIfInBounds_toArray, List.set_cons_zero, List.set_cons_succ] at ha
    subst ha
    obtain ⟨ELg, ELl, ELf0, ELf1, ELf2, ELf3, y0, y1, y2, y3, ELc0, ELc1, ELc2, ELc3, hy⟩ := hr7 rfl
    obtain ⟨rfl, rfl, rfl, rfl⟩ := hy rfl
    clear hr7
    have hok := okAt_later hb0 hok
    have r0 := cell_later hb0 r0
    have r1 := cell_later hb0 r1
    have r2 := cell_later hb0 r2
    have r3 := cell_later hb0 r3
    have rf : ∀ o, vv.frozen? ⟨w.heap.size + 1 + 1, o, none⟩ = false := fun o => (hb0.frozen (p := ⟨w.heap.size + 1 + 1, o, none⟩) g2).trans (rf o)
    have hw1 : Below w.heap.size w vv := Below.trans hw0 (hb0.mono (by omega))
    have g9 := hb0.size
    have g2 : w.heap.size + 1 + 1 < vv.heap.size := by omega
    have gW := okAt_lt hok
    obtain ⟨ok1, ok2⟩ := hok
    clear hw0 hb0 g9 a0 a1 b0 b1
    go_wp2
    exact bodyPost_ret (v := .tuple #[.agg #[.int .i64 p, .int .i64 q, .int .i64 L, .int .i64 H], .int .i64 0]) (by first | (simp only [results, Tryz.results17]; go_simp; done) | simp [results, Tryz.results17, go_sem, *]) rfl ⟨rfl, by (repeat (first | (with_reducible exact Below.refl _ _) | (with_reducible refine Below.setCell ?_ (by (first | (simp; done) | (simp; omega) | omega)) _) | (with_reducible refine bl_alloc ?_ _) | (with_reducible refine bl_drewN ?_) | (with_reducible refine bl_drew ?_) | (with_reducible refine bl_step (by assumption) ?_)))⟩
end Go.Proofs.YtdhbeoahpfimbaaGreat
