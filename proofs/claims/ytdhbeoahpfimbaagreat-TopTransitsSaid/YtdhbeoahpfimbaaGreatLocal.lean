/- The local hour angle of Aries, as a contract. -/
import Derived.Test.YtdhbeoahpfimbaaGreatSid2
import Derived.Deep.RegionHeld3
namespace Go.Proofs.YtdhbeoahpfimbaaGreat
open Go.RowKit
set_option maxHeartbeats 1000000 in
theorem local_ok' (a b c d x y : Int) (w : World) (h1 : timeB a b = true) (h2 : arcB c d = true) (hx : arcLo (lowA a) (upA b) = x) (hy : arcHi (lowA a) (upA b) = y) (h3 : arcB x y = true) (h4 : fitsB (x + c) = true) (h5 : fitsB (y + d) = true) (h6 : arcB (x + c) (y + d) = true) :
    Calls Tryz.prog 31 #[.agg #[.int .i64 a, .int .i64 b], .agg #[.int .i64 c, .int .i64 d]] w fun e w' => e = .returned (.tuple #[.agg #[.int .i64 (arcLo (x + c) (y + d)), .int .i64 (arcHi (x + c) (y + d))], .int .i64 0]) ∧ Below w.heap.size w w' := by
  have q := timeB_t h1
  have q1 := q.1; have q2 := q.2.1; have q3 := q.2.2
  clear q
  have H2 := hidden h2
  have H3 := hidden h3
  have H4 := hidden h4
  have H5 := hidden h5
  have H6 := hidden h6
  have HB : ∀ w, Calls Tryz.prog 104 #[.int .i64 a, .int .i64 b] w fun e w' => e = .returned (.agg #[.int .i64 x, .int .i64 y]) ∧ Below w.heap.size w w' := by
    intro w; rw [← hx, ← hy]; exact between_any a b w (by omega) (by omega) (by omega) (by omega)
  replace HB := hidden HB
  clear h3 h4 h5 h6 hx hy
  go_enter Tryz.func31, Tryz.ntmps31
  go_wp2_with (((first | (go_at_call 53; refine (tvalid_any _ _ _).mono ?_; rintro e w' ⟨rfl, hb⟩) | (go_at_call 45; refine (valid_any _ _ _).mono ?_; rintro e w' ⟨rfl, hb⟩)); (try replace hb := below_undrew hb); (try replace hb := below_undrewN hb); obtain ⟨hcell, hfroz⟩ := bcell hb; have hz := hb.size; (try simp at hz); (try (have z6 := Nat.lt_of_lt_of_le z7 hz)); (try (have z7 := Nat.lt_of_lt_of_le z8 hz)); (try (have z8 := Nat.lt_of_lt_of_le z9 hz)); (try (have z9 := Nat.lt_of_lt_of_le (Nat.lt_succ_self _) hz)); (try have z0 : w.heap.size < w'.heap.size := by omega); (try have z1 : w.heap.size + 1 < w'.heap.size := by omega); (try have z2 : w.heap.size + 1 + 1 < w'.heap.size := by omega); (try have z3 : w.heap.size + 1 + 1 + 1 < w'.heap.size := by omega)))
  go_region_held3 (fun v => Below w'.heap.size w' v ∧ (∀ b o, b < w'.heap.size → v.cell? ⟨b, o, none⟩ = w'.cell? ⟨b, o, none⟩) ∧ (∀ b o, b < w'.heap.size → v.frozen? ⟨b, o, none⟩ = w'.frozen? ⟨b, o, none⟩)) (first | exact held_start _ | (refine held_of ?_; (repeat (first | exact Below.refl _ _ | refine bl_drewN ?_ | refine bl_drew ?_ | refine bl_alloc ?_ _ | refine Below.setCell ?_ (by (first | (simp; done) | (simp; omega) | omega)) _ | refine bl_step (by assumption) ?_)); done))
    (((first | (go_at_call 104; refine (HB.out _).mono ?_; rintro e w' ⟨rfl, hb⟩) | (go_at_call 42; refine (add_ok _ _ _ _ _ H3.out H2.out H4.out H5.out).mono ?_; rintro e w' ⟨rfl, hb⟩)); (try replace hb := below_undrew hb); (try replace hb := below_undrewN hb); obtain ⟨hcell, hfroz⟩ := bcell hb; have hz := hb.size; (try simp at hz); (try (have z6 := Nat.lt_of_lt_of_le z7 hz)); (try (have z7 := Nat.lt_of_lt_of_le z8 hz)); (try (have z8 := Nat.lt_of_lt_of_le z9 hz)); (try (have z9 := Nat.lt_of_lt_of_le (Nat.lt_succ_self _) hz)); (try have z0 : w.heap.size < w'.heap.size := by omega); (try have z1 : w.heap.size + 1 < w'.heap.size := by omega); (try have z2 : w.heap.size + 1 + 1 < w'.heap.size := by omega); (try have z3 : w.heap.size + 1 + 1 + 1 < w'.heap.size := by omega)))
  all_goals go_wp2_with (go_at_call 105; refine (turn_ok _ _ _ H6.out).mono ?_; rintro e w' ⟨rfl, hb⟩; (try replace hb := below_undrew hb); (try replace hb := below_undrewN hb); obtain ⟨hcell, hfroz⟩ := bcell hb; have hz := hb.size; (try simp at hz); (try (have z6 := Nat.lt_of_lt_of_le z7 hz)); (try (have z7 := Nat.lt_of_lt_of_le z8 hz)); (try (have z8 := Nat.lt_of_lt_of_le z9 hz)); (try (have z9 := Nat.lt_of_lt_of_le (Nat.lt_succ_self _) hz)); (try have z0 : w.heap.size < w'.heap.size := by omega); (try have z1 : w.heap.size + 1 < w'.heap.size := by omega); (try have z2 : w.heap.size + 1 + 1 < w'.heap.size := by omega); (try have z3 : w.heap.size + 1 + 1 + 1 < w'.heap.size := by omega))
  all_goals exact bodyPost_ret (v := .tuple #[.agg #[.int .i64 (arcLo (x + c) (y + d)), .int .i64 (arcHi (x + c) (y + d))], .int .i64 0]) (by first | (simp only [results, Tryz.results31]; go_simp; done) | simp [results, Tryz.results31, go_sem, *]) rfl ⟨rfl, by (repeat (first | exact Below.refl _ _ | refine bl_drewN ?_ | refine bl_drew ?_ | refine bl_alloc ?_ _ | refine Below.setCell ?_ (by (first | (simp; done) | (simp; omega) | omega)) _ | refine bl_step (by assumption) ?_))⟩
theorem arc_dir (lo hi : Int) (h : lo ≤ hi) : 0 ≤ arcLo lo hi ∧ arcLo lo hi < 21600000 ∧ arcLo lo hi ≤ arcHi lo hi ∧ arcHi lo hi < 43200000 := by
  unfold arcLo arcHi; split <;> omega
theorem low_le_up {a b : Int} (h : a ≤ b) : lowA a ≤ upA b := by
  unfold lowA upA NN; omega
/-- the end of a local arc, ahead of its direction form -/
def locLo (a b c : Int) : Int := arcLo (lowA a) (upA b) + c
def locHi (a b d : Int) : Int := arcHi (lowA a) (upA b) + d
def locB (a b c d : Int) : Bool := fitsB (locLo a b c) && fitsB (locHi a b d)
theorem local_ok (a b c d : Int) (w : World) (h1 : timeB a b = true) (h2 : arcB c d = true) (h3 : locB a b c d = true) :
    Calls Tryz.prog 31 #[.agg #[.int .i64 a, .int .i64 b], .agg #[.int .i64 c, .int .i64 d]] w fun e w' => e = .returned (.tuple #[.agg #[.int .i64 (arcLo (locLo a b c) (locHi a b d)), .int .i64 (arcHi (locLo a b c) (locHi a b d))], .int .i64 0]) ∧ Below w.heap.size w w' := by
  have q := arc_dir _ _ (low_le_up (timeB_t h1).1)
  simp only [locB, Bool.and_eq_true] at h3
  have f1 := fitsB_t h3.1
  have f2 := fitsB_t h3.2
  have g := arcB_t h2
  unfold locLo at f1; unfold locHi at f2
  exact local_ok' a b c d _ _ w h1 h2 rfl rfl (arcB_mk (by omega)) h3.1 h3.2 (arcB_mk (by omega))
end Go.Proofs.YtdhbeoahpfimbaaGreat
