/- meridian.Longitude of a star, and the reference's arcs of a star. -/
import Derived.Test.YtdhbeoahpfimbaaGreatTra
import Derived.Test.YtdhbeoahpfimbaaGreatRef05
namespace Go.Proofs.YtdhbeoahpfimbaaGreat
open Go.RowKit
set_option maxHeartbeats 1000000 in
theorem around13_any (n : Int) (w : World) (h0 : -1000000 ≤ n) (h1 : n ≤ 1000000) :
    Calls Tryz.prog 107 #[.int .i64 n] w fun e w' => e = .returned (.agg #[.int .i64 (100 * n - 50), .int .i64 (100 * n + 50)]) ∧ Below w.heap.size w w' := by
  go_enter Tryz.func107, Tryz.ntmps107
  go_wp2
  exact bodyPost_ret (v := .agg #[.int .i64 (100 * n - 50), .int .i64 (100 * n + 50)]) (by first | (simp only [results, Tryz.results107]; go_simp; done) | simp [results, Tryz.results107, go_sem, *]) rfl ⟨rfl, by (repeat (first | (with_reducible exact Below.refl _ _) | (with_reducible refine Below.setCell ?_ (by (first | (simp; done) | (simp; omega) | omega)) _) | (with_reducible refine bl_alloc ?_ _) | (with_reducible refine bl_drewN ?_) | (with_reducible refine bl_drew ?_) | (with_reducible refine bl_step (by assumption) ?_)))⟩
set_option maxHeartbeats 1000000 in
theorem gha13_any (n : Int) (w : World) (h0 : -1000000 ≤ n) (h1 : n ≤ 1000000) :
    Calls Tryz.prog 33 #[.int .i64 n] w fun e w' => e = .returned (.agg #[.int .i64 (arcLo (100 * n - 50) (100 * n + 50)), .int .i64 (arcHi (100 * n - 50) (100 * n + 50))]) ∧ Below w.heap.size w w' := by
  have A := hidden fun w => around13_any n w h0 h1
  have T := hidden fun w => turn5_any (100 * n - 50) (100 * n + 50) w (by omega) (by omega) (by omega)
  go_enter Tryz.func33, Tryz.ntmps33
  go_wp2_with (((first | (go_at_call 107; ((with_reducible refine (A.out _).mono ?_); rintro e w' ⟨rfl, hb⟩); have nm0 := trivial) | (go_at_call 106; ((with_reducible refine (T.out _).mono ?_); rintro e w' ⟨rfl, hb⟩); have nm1 := trivial)); (try replace hb := below_undrew hb); (try replace hb := below_undrewN hb); obtain ⟨hcell, hfroz⟩ := bcell hb; have hz := hb.size; (try simp at hz); (try (have z6 := Nat.lt_of_lt_of_le z7 hz)); (try (have z7 := Nat.lt_of_lt_of_le z8 hz)); (try (have z8 := Nat.lt_of_lt_of_le z9 hz)); (try (have z9 := Nat.lt_of_lt_of_le (Nat.lt_succ_self _) hz)); (try have z0 : w.heap.size < w'.heap.size := by omega); (try have z1 : w.heap.size + 1 < w'.heap.size := by omega); (try have z2 : w.heap.size + 1 + 1 < w'.heap.size := by omega); (try have z3 : w.heap.size + 1 + 1 + 1 < w'.heap.size := by omega); (try have y1 : w1.heap.size < w'.heap.size := by omega); (try have x1 : w1.heap.size + 1 < w'.heap.size := by omega); (try have z10 : w1.heap.size < w'.heap.size + 1 := by omega); (first | (clear nm0; obtain ⟨w1, rfl⟩ : ∃ v, v = w' := ⟨_, rfl⟩) | (clear nm1; obtain ⟨w2, rfl⟩ : ∃ v, v = w' := ⟨_, rfl⟩))))
  exact bodyPost_ret (v := .agg #[.int .i64 (arcLo (100 * n - 50) (100 * n + 50)), .int .i64 (arcHi (100 * n - 50) (100 * n + 50))]) (by first | (simp only [results, Tryz.results33]; go_simp; done) | simp [results, Tryz.results33, go_sem, *]) rfl ⟨rfl, by (repeat (first | (with_reducible exact Below.refl _ _) | (with_reducible refine Below.setCell ?_ (by (first | (simp; done) | (simp; omega) | omega)) _) | (with_reducible refine bl_alloc ?_ _) | (with_reducible refine bl_drewN ?_) | (with_reducible refine bl_drew ?_) | (with_reducible refine bl_step (by assumption) ?_)))⟩
set_option maxHeartbeats 1000000 in
theorem neg5_any (a b : Int) (w : World) (h1 : -1125899906842624 ≤ a) (h2 : a ≤ 1125899906842624) (h3 : -1125899906842624 ≤ b) (h4 : b ≤ 1125899906842624) :
    Calls Tryz.prog 32 #[.agg #[.int .i64 a, .int .i64 b]] w fun e w' => e = .returned (.agg #[.int .i64 (0 - b), .int .i64 (0 - a)]) ∧ Below w.heap.size w w' := by
  go_enter Tryz.func32, Tryz.ntmps32
  go_wp2
  first
    | exact bodyPost_ret (v := .agg #[.int .i64 (0 - b), .int .i64 (0 - a)]) (by first | (simp only [results, Tryz.results32]; go_simp; done) | simp [results, Tryz.results32, go_sem, *]) rfl ⟨rfl, by (repeat (first | (with_reducible exact Below.refl _ _) | (with_reducible refine Below.setCell ?_ (by (first | (simp; done) | (simp; omega) | omega)) _) | (with_reducible refine bl_alloc ?_ _) | (with_reducible refine bl_drewN ?_) | (with_reducible refine bl_drew ?_) | (with_reducible refine bl_step (by assumption) ?_)))⟩
    | exact bodyPost_ret (v := .agg #[.int .i64 (-b), .int .i64 (-a)]) (by first | (simp only [results, Tryz.results32]; go_simp; done) | simp [results, Tryz.results32, go_sem, *]) rfl ⟨by simp, by (repeat (first | (with_reducible exact Below.refl _ _) | (with_reducible refine Below.setCell ?_ (by (first | (simp; done) | (simp; omega) | omega)) _) | (with_reducible refine bl_alloc ?_ _) | (with_reducible refine bl_drewN ?_) | (with_reducible refine bl_drew ?_) | (with_reducible refine bl_step (by assumption) ?_)))⟩
set_option maxHeartbeats 1000000 in
theorem inst10_any (n : Int) (w : World) (h0 : -70368744177664 ≤ n) (h1 : n ≤ 70368744177664) :
    Calls Tryz.prog 103 #[.int .i64 n] w fun e w' => e = .returned (.bool true) ∧ w = w' := by
  have q0 : decide (-70368744177664 ≤ n) = true := by simp; omega
  have q1 : decide (n ≤ 70368744177664) = true := by simp; omega
  go_enter Tryz.func103, Tryz.ntmps103
  go_wp2
  go_ret
  exact ⟨rfl, rfl⟩
set_option maxHeartbeats 1000000 in
theorem tvalid10_ok (a b : Int) (w : World) (h0 : -70368744177664 ≤ a) (h : a ≤ b) (h1 : b ≤ 70368744177664) :
    Calls Tryz.prog 30 #[.agg #[.int .i64 a, .int .i64 b]] w fun e w' => e = .returned (.bool true) ∧ Below w.heap.size w w' := by
  have A := hidden fun w => inst10_any a w h0 (by omega)
  have B := hidden fun w => inst10_any b w (by omega) h1
  have q0 : decide (a ≤ b) = true := by simp; omega
  go_enter Tryz.func30, Tryz.ntmps30
  go_wp2_with (first | (go_at_call 103; ((with_reducible refine (A.out _).mono ?_); rintro e w' ⟨rfl, rfl⟩)) | (go_at_call 103; ((with_reducible refine (B.out _).mono ?_); rintro e w' ⟨rfl, rfl⟩)))
  go_ret
  exact ⟨rfl, by (repeat (first | (with_reducible exact Below.refl _ _) | (with_reducible refine Below.setCell ?_ (by (first | (simp; done) | (simp; omega) | omega)) _) | (with_reducible refine bl_alloc ?_ _) | (with_reducible refine bl_drewN ?_) | (with_reducible refine bl_drew ?_) | (with_reducible refine bl_step (by assumption) ?_)))⟩
/-- The end of the longitudes at which a star is on the meridian. -/
def lonLo (s a c : Int) : Int := sgn (-ghHi s a c)
def lonHi (s a c : Int) : Int := sgn (-ghHi s a c) + ghHi s a c - ghLo s a c
set_option maxHeartbeats 4000000 in
theorem longitude_ok (b n k : Nat) (nm : Nat → ByteArray) (f : Nat → Nat → Int) (a c : Int) (w : World) (hB : BkS w b n nm f) (hn : n ≤ 100) (hk : k < n) (hf : fstI (fun j => sameB (nm j) (nm k)) n = k) (hA : nm k ≠ AR) (ht : timeB a c = true) (hd : c - a < 86400000) (hw : ghHi (f k 0) a c - ghLo (f k 0) a c < 21600000)
    (s0 : 0 ≤ f k 0) (s1 : f k 0 ≤ 215999) (d0 : -54000 ≤ f k 1) (d1 : f k 1 ≤ 54000) :
    Calls Tryz.prog 34 #[.pointer (some ⟨b, 0, none⟩), .string (nm k), .agg #[.int .i64 a, .int .i64 c]] w fun e w' => e = .returned (.tuple #[.agg #[.int .i64 (lonLo (f k 0) a c), .int .i64 (lonHi (f k 0) a c)], .int .i64 0]) ∧ Below w.heap.size w w' := by
  have W := hidden fun wq (hb : Below w.heap.size w wq) => where_ok b n k nm f a c wq (hB.later hb) hn hk hf hA ht hd s0 s1 d0 d1
  have q := gh_bd (s := f k 0) (low_le_up (timeB_t ht).1)
  unfold lonLo lonHi
  obtain ⟨x, hx⟩ : ∃ x, ghLo (f k 0) a c = x := ⟨_, rfl⟩
  obtain ⟨y, hy⟩ : ∃ y, ghHi (f k 0) a c = y := ⟨_, rfl⟩
  rw [hx, hy] at q W hw ⊢
  obtain ⟨u, hu⟩ : ∃ u, dcLo (f k 1) = u := ⟨_, rfl⟩
  obtain ⟨v, hv⟩ : ∃ v, dcHi (f k 1) = v := ⟨_, rfl⟩
  rw [hu, hv] at W
  obtain ⟨t, hT⟩ : ∃ t, nm k = t := ⟨_, rfl⟩
  rw [hT] at W ⊢
  have S := hidden fun w => signed_any (-y) w (by omega) (by omega)
  have sb : -10800000 ≤ sgn (-y) ∧ sgn (-y) < 10800000 := by unfold sgn; split <;> omega
  obtain ⟨z, hz⟩ : ∃ z, sgn (-y) = z := ⟨_, rfl⟩
  rw [hz] at S sb ⊢
  have q5 : decide (21600000 ≤ y - x) = false := by simp; omega
  clear hx hy hu hv hz hT hB hf hA s0 s1 d0 d1 ht hd
  go_enter Tryz.func34, Tryz.ntmps34
  go_wp2_with (first | (go_at_call 108; ((with_reducible refine (W.out _ (by (repeat (first | (with_reducible exact Below.refl _ _) | (with_reducible refine Below.setCell ?_ (by (first | (simp; done) | (simp; omega) | omega)) _) | (with_reducible refine bl_alloc ?_ _) | (with_reducible refine bl_drewN ?_) | (with_reducible refine bl_drew ?_) | (with_reducible refine bl_step (by assumption) ?_))))).mono ?_); rintro e w' ⟨rfl, hb⟩); (try replace hb := below_undrew hb); (try replace hb := below_undrewN hb); obtain ⟨hcell, hfroz⟩ := bcell hb; have hz := hb.size; (try simp at hz); (try (have z6 := Nat.lt_of_lt_of_le z7 hz)); (try (have z7 := Nat.lt_of_lt_of_le z8 hz)); (try (have z8 := Nat.lt_of_lt_of_le z9 hz)); (try (have z9 := Nat.lt_of_lt_of_le (Nat.lt_succ_self _) hz)); (try have z0 : w.heap.size < w'.heap.size := by omega); (try have z1 : w.heap.size + 1 < w'.heap.size := by omega); (try have z2 : w.heap.size + 1 + 1 < w'.heap.size := by omega); (try have z3 : w.heap.size + 1 + 1 + 1 < w'.heap.size := by omega); obtain ⟨w3, rfl⟩ : ∃ v, v = w' := ⟨_, rfl⟩) | (go_at_call 21; ((with_reducible refine (S.out _).mono ?_); rintro e w' ⟨rfl, rfl⟩)))
  exact bodyPost_ret (v := .tuple #[.agg #[.int .i64 z, .int .i64 (z + y - x)], .int .i64 0]) (by first | (simp only [results, Tryz.results34]; go_simp; done) | simp [results, Tryz.results34, go_sem, *]) rfl ⟨rfl, by (repeat (first | (with_reducible exact Below.refl _ _) | (with_reducible refine Below.setCell ?_ (by (first | (simp; done) | (simp; omega) | omega)) _) | (with_reducible refine bl_alloc ?_ _) | (with_reducible refine bl_drewN ?_) | (with_reducible refine bl_drew ?_) | (with_reducible refine bl_step (by assumption) ?_)))⟩
end Go.Proofs.YtdhbeoahpfimbaaGreat
