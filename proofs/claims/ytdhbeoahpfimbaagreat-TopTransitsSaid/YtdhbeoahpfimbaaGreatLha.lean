/- Book.Lha, of a star, and whether a span agrees with a transit. -/
import Derived.Test.YtdhbeoahpfimbaaGreatWhr2
namespace Go.Proofs.YtdhbeoahpfimbaaGreat
open Go.RowKit
theorem BkS.later {w wr : World} {b n : Nat} {nm : Nat → ByteArray} {f : Nat → Nat → Int} (h : BkS w b n nm f) (hb : Below w.heap.size w wr) : BkS wr b n nm f := by
  obtain ⟨h0, h1, g, c, h2, h3⟩ := h
  exact ⟨cell_later hb h0, cell_later hb h1, g, c, cell_later hb h2, h3.later hb⟩
theorem arcLo_one (l : Int) : arcLo l l = l % 21600000 := by simp [arcLo]
theorem arcHi_one (l : Int) : arcHi l l = l % 21600000 := by simp [arcHi]
theorem gh_bd {s a b : Int} (h : lowA a ≤ upA b) : 0 ≤ ghLo s a b ∧ ghLo s a b < 21600000 ∧ ghLo s a b ≤ ghHi s a b ∧ ghHi s a b < 43200000 := by
  unfold ghLo ghHi
  have q := arc_dir _ _ h
  have := arc_dir (arcLo (lowA a) (upA b) + (100 * s - 50)) (arcHi (lowA a) (upA b) + (100 * s + 50)) (by omega)
  exact this
set_option maxHeartbeats 4000000 in
theorem lha_ok (b n k : Nat) (nm : Nat → ByteArray) (f : Nat → Nat → Int) (l a c : Int) (w : World) (hB : BkS w b n nm f) (hn : n ≤ 100) (hk : k < n) (hf : fstI (fun j => sameB (nm j) (nm k)) n = k) (hA : nm k ≠ AR) (ht : timeB a c = true) (hd : c - a < 86400000)
    (s0 : 0 ≤ f k 0) (s1 : f k 0 ≤ 215999) (d0 : -54000 ≤ f k 1) (d1 : f k 1 ≤ 54000) (l0 : -10800000 ≤ l) (l1 : l ≤ 10800000) :
    Calls Tryz.prog 36 #[.pointer (some ⟨b, 0, none⟩), .string (nm k), .agg #[.int .i64 a, .int .i64 c], .agg #[.int .i64 l, .int .i64 l]] w fun e w' => e = .returned (.tuple #[.agg #[.int .i64 (lhLo (f k 0) l a c), .int .i64 (lhHi (f k 0) l a c)], .int .i64 0]) ∧ Below w.heap.size w w' := by
  have W := hidden fun wq (hb : Below w.heap.size w wq) => where_ok b n k nm f a c wq (hB.later hb) hn hk hf hA ht hd s0 s1 d0 d1
  have q := gh_bd (s := f k 0) (low_le_up (timeB_t ht).1)
  have H1 := hidden ht
  unfold lhLo lhHi
  obtain ⟨x, hx⟩ : ∃ x, ghLo (f k 0) a c = x := ⟨_, rfl⟩
  obtain ⟨y, hy⟩ : ∃ y, ghHi (f k 0) a c = y := ⟨_, rfl⟩
  rw [hx, hy] at q W ⊢
  obtain ⟨u, hu⟩ : ∃ u, dcLo (f k 1) = u := ⟨_, rfl⟩
  obtain ⟨v, hv⟩ : ∃ v, dcHi (f k 1) = v := ⟨_, rfl⟩
  rw [hu, hv] at W
  have T := hidden fun w => turn_ok l l w (arcB_mk (by omega))
  rw [arcLo_one, arcHi_one] at T
  have m0 : 0 ≤ l % 21600000 := by omega
  have m1 : l % 21600000 < 21600000 := by omega
  obtain ⟨p, hp⟩ : ∃ p, l % 21600000 = p := ⟨_, rfl⟩
  rw [hp] at T m0 m1 ⊢
  have A := hidden fun w => add_ok x y p p w (arcB_mk (by omega)) (arcB_mk (by omega)) (fitsB_mk (by omega)) (fitsB_mk (by omega))
  have R := hidden fun w => turn_ok (x + p) (y + p) w (arcB_mk (by omega))
  have LV : arcB l l = true := arcB_mk (by omega)
  obtain ⟨t, hT⟩ : ∃ t, nm k = t := ⟨_, rfl⟩
  rw [hT] at W ⊢
  have ht' := ht
  clear hx hy hu hv hp hT hB hf hA s0 s1 d0 d1 ht hd q H1
  go_enter Tryz.func36, Tryz.ntmps36
  go_wp2_with (((first | (go_at_call 53; ((with_reducible refine (tvalid_any _ _ _).mono ?_); rintro e w' ⟨rfl, hb⟩); have nm0 := trivial) | (go_at_call 45; ((with_reducible refine (valid_any _ _ _).mono ?_); rintro e w' ⟨rfl, hb⟩); have nm1 := trivial) | (go_at_call 108; ((with_reducible refine (W.out _ (by (repeat (first | (with_reducible exact Below.refl _ _) | (with_reducible refine Below.setCell ?_ (by (first | (simp; done) | (simp; omega) | omega)) _) | (with_reducible refine bl_alloc ?_ _) | (with_reducible refine bl_drewN ?_) | (with_reducible refine bl_drew ?_) | (with_reducible refine bl_step (by assumption) ?_))))).mono ?_); rintro e w' ⟨rfl, hb⟩); have nm2 := trivial) | (go_at_call 105; ((with_reducible refine (T.out _).mono ?_); rintro e w' ⟨rfl, hb⟩); have nm3 := trivial) | (go_at_call 42; ((with_reducible refine (A.out _).mono ?_); rintro e w' ⟨rfl, hb⟩); have nm4 := trivial) | (go_at_call 105; ((with_reducible refine (R.out _).mono ?_); rintro e w' ⟨rfl, hb⟩); have nm5 := trivial)); (try replace hb := below_undrew hb); (try replace hb := below_undrewN hb); obtain ⟨hcell, hfroz⟩ := bcell hb; have hz := hb.size; (try simp at hz); (try (have z6 := Nat.lt_of_lt_of_le z7 hz)); (try (have z7 := Nat.lt_of_lt_of_le z8 hz)); (try (have z8 := Nat.lt_of_lt_of_le z9 hz)); (try (have z9 := Nat.lt_of_lt_of_le (Nat.lt_succ_self _) hz)); (try have z0 : w.heap.size < w'.heap.size := by omega); (try have z1 : w.heap.size + 1 < w'.heap.size := by omega); (try have z2 : w.heap.size + 1 + 1 < w'.heap.size := by omega); (try have z3 : w.heap.size + 1 + 1 + 1 < w'.heap.size := by omega); (try have y1 : w1.heap.size < w'.heap.size := by omega); (try have y2 : w2.heap.size < w'.heap.size := by omega); (try have y3 : w3.heap.size < w'.heap.size := by omega); (try have y4 : w4.heap.size < w'.heap.size := by omega); (try have y5 : w5.heap.size < w'.heap.size := by omega); (try have x1 : w1.heap.size + 1 < w'.heap.size := by omega); (try have x2 : w2.heap.size + 1 < w'.heap.size := by omega); (try have x3 : w3.heap.size + 1 < w'.heap.size := by omega); (try have x4 : w4.heap.size + 1 < w'.heap.size := by omega); (try have x5 : w5.heap.size + 1 < w'.heap.size := by omega); (try have z10 : w1.heap.size < w'.heap.size + 1 := by omega); (try have z20 : w2.heap.size < w'.heap.size + 1 := by omega); (try have z30 : w3.heap.size < w'.heap.size + 1 := by omega); (try have z40 : w4.heap.size < w'.heap.size + 1 := by omega); (try have z50 : w5.heap.size < w'.heap.size + 1 := by omega); (first | (clear nm0; obtain ⟨w1, rfl⟩ : ∃ v, v = w' := ⟨_, rfl⟩) | (clear nm1; obtain ⟨w2, rfl⟩ : ∃ v, v = w' := ⟨_, rfl⟩) | (clear nm2; obtain ⟨w3, rfl⟩ : ∃ v, v = w' := ⟨_, rfl⟩) | (clear nm3; obtain ⟨w4, rfl⟩ : ∃ v, v = w' := ⟨_, rfl⟩) | (clear nm4; obtain ⟨w5, rfl⟩ : ∃ v, v = w' := ⟨_, rfl⟩) | (clear nm5; obtain ⟨w6, rfl⟩ : ∃ v, v = w' := ⟨_, rfl⟩))))
  exact bodyPost_ret (v := .tuple #[.agg #[.int .i64 (arcLo (x + p) (y + p)), .int .i64 (arcHi (x + p) (y + p))], .int .i64 0]) (by first | (simp only [results, Tryz.results36]; go_simp; done) | simp [results, Tryz.results36, go_sem, *]) rfl ⟨rfl, by (repeat (first | (with_reducible exact Below.refl _ _) | (with_reducible refine Below.setCell ?_ (by (first | (simp; done) | (simp; omega) | omega)) _) | (with_reducible refine bl_alloc ?_ _) | (with_reducible refine bl_drewN ?_) | (with_reducible refine bl_drew ?_) | (with_reducible refine bl_step (by assumption) ?_)))⟩
/-- Whether a span agrees with a transit. -/
def agB (s l a c : Int) : Bool := agreeB (lhLo s l a c) (lhHi s l a c) 0 0
theorem agB_iff {s l a c : Int} (h : c - a ≤ 10800001) (h0 : a ≤ c) : agB s l a c = true ↔ ShT s l a c := lh_agree h h0
theorem lh_bd {s l a b : Int} (h : lowA a ≤ upA b) : 0 ≤ lhLo s l a b ∧ lhLo s l a b < 21600000 ∧ lhLo s l a b ≤ lhHi s l a b ∧ lhHi s l a b < 43200000 := by
  unfold lhLo lhHi
  have q := gh_bd (s := s) h
  exact arc_dir (ghLo s a b + l % 21600000) (ghHi s a b + l % 21600000) (by omega)
set_option maxHeartbeats 4000000 in
theorem agrees_ok (b n k : Nat) (nm : Nat → ByteArray) (f : Nat → Nat → Int) (l a c : Int) (w : World) (hB : BkS w b n nm f) (hn : n ≤ 100) (hk : k < n) (hf : fstI (fun j => sameB (nm j) (nm k)) n = k) (hA : nm k ≠ AR) (ht : timeB a c = true) (hd : c - a < 86400000)
    (s0 : 0 ≤ f k 0) (s1 : f k 0 ≤ 215999) (d0 : -54000 ≤ f k 1) (d1 : f k 1 ≤ 54000) (l0 : -10800000 ≤ l) (l1 : l ≤ 10800000) :
    Calls Tryz.prog 102 #[.pointer (some ⟨b, 0, none⟩), .string (nm k), .agg #[.int .i64 l, .int .i64 l], .int .i64 a, .int .i64 c] w fun e w' => e = .returned (.tuple #[.bool (agB (f k 0) l a c), .int .i64 0]) ∧ Below w.heap.size w w' := by
  have W := hidden fun wq (hb : Below w.heap.size w wq) => lha_ok b n k nm f l a c wq (hB.later hb) hn hk hf hA ht hd s0 s1 d0 d1 l0 l1
  have q := lh_bd (s := f k 0) (l := l) (low_le_up (timeB_t ht).1)
  obtain ⟨r, hr⟩ : ∃ r, agB (f k 0) l a c = r := ⟨_, rfl⟩
  have A := hidden fun w => agree_ok (lhLo (f k 0) l a c) (lhHi (f k 0) l a c) 0 0 w (arcB_mk (by omega)) (by decide)
  rw [show agreeB (lhLo (f k 0) l a c) (lhHi (f k 0) l a c) 0 0 = r from hr] at A
  rw [hr]
  obtain ⟨x, hx⟩ : ∃ x, lhLo (f k 0) l a c = x := ⟨_, rfl⟩
  obtain ⟨y, hy⟩ : ∃ y, lhHi (f k 0) l a c = y := ⟨_, rfl⟩
  rw [hx, hy] at A W
  obtain ⟨t, hT⟩ : ∃ t, nm k = t := ⟨_, rfl⟩
  rw [hT] at W ⊢
  clear hr hx hy hT hB hf hA s0 s1 d0 d1 ht hd q
  go_enter Tryz.func102, Tryz.ntmps102
  go_wp2_with (((first | (go_at_call 36; ((with_reducible refine (W.out _ (by (repeat (first | (with_reducible exact Below.refl _ _) | (with_reducible refine Below.setCell ?_ (by (first | (simp; done) | (simp; omega) | omega)) _) | (with_reducible refine bl_alloc ?_ _) | (with_reducible refine bl_drewN ?_) | (with_reducible refine bl_drew ?_) | (with_reducible refine bl_step (by assumption) ?_))))).mono ?_); rintro e w' ⟨rfl, hb⟩); have nm0 := trivial) | (go_at_call 14; ((with_reducible refine (A.out _).mono ?_); rintro e w' ⟨rfl, hb⟩); have nm1 := trivial)); (try replace hb := below_undrew hb); (try replace hb := below_undrewN hb); obtain ⟨hcell, hfroz⟩ := bcell hb; have hz := hb.size; (try simp at hz); (try (have z6 := Nat.lt_of_lt_of_le z7 hz)); (try (have z7 := Nat.lt_of_lt_of_le z8 hz)); (try (have z8 := Nat.lt_of_lt_of_le z9 hz)); (try (have z9 := Nat.lt_of_lt_of_le (Nat.lt_succ_self _) hz)); (try have z0 : w.heap.size < w'.heap.size := by omega); (try have z1 : w.heap.size + 1 < w'.heap.size := by omega); (try have z2 : w.heap.size + 1 + 1 < w'.heap.size := by omega); (try have z3 : w.heap.size + 1 + 1 + 1 < w'.heap.size := by omega); (try have y1 : w1.heap.size < w'.heap.size := by omega); (try have x1 : w1.heap.size + 1 < w'.heap.size := by omega); (try have z10 : w1.heap.size < w'.heap.size + 1 := by omega); (first | (clear nm0; obtain ⟨w1, rfl⟩ : ∃ v, v = w' := ⟨_, rfl⟩) | (clear nm1; obtain ⟨w2, rfl⟩ : ∃ v, v = w' := ⟨_, rfl⟩))))
  exact bodyPost_ret (v := .tuple #[.bool r, .int .i64 0]) (by first | (simp only [results, Tryz.results102]; go_simp; done) | simp [results, Tryz.results102, go_sem, *]) rfl ⟨rfl, by (repeat (first | (with_reducible exact Below.refl _ _) | (with_reducible refine Below.setCell ?_ (by (first | (simp; done) | (simp; omega) | omega)) _) | (with_reducible refine bl_alloc ?_ _) | (with_reducible refine bl_drewN ?_) | (with_reducible refine bl_drew ?_) | (with_reducible refine bl_step (by assumption) ?_)))⟩
end Go.Proofs.YtdhbeoahpfimbaaGreat
