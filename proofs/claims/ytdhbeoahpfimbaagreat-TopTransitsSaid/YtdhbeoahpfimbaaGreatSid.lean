/- What the small functions of package sidereal compute, each as a contract; the world is below as it was. -/
import Derived.Test.YtdhbeoahpfimbaaGreatAries
import Derived.Test.YtdhbeoahpfimbaaGreatAg
namespace Go.Proofs.YtdhbeoahpfimbaaGreat
open Go.RowKit
def lowA (t : Int) : Int := NN t / 86400000000000
def upA (t : Int) : Int := (NN t + 86399999999999) / 86400000000000
def instB (n : Int) : Bool := decide (-70368744177664 ≤ n) && decide (n ≤ 70368744177664)
def timeB (a b : Int) : Bool := decide (a ≤ b) && instB a && instB b
theorem instB_mk {n : Int} (h : -70368744177664 ≤ n ∧ n ≤ 70368744177664) : instB n = true := by simpa [instB] using h
theorem instB_not {n : Int} (h : n < -70368744177664 ∨ 70368744177664 < n) : instB n = false := by simp [instB]; omega
theorem timeB_t {a b : Int} (h : timeB a b = true) : a ≤ b ∧ -70368744177664 ≤ a ∧ b ≤ 70368744177664 := by simp [timeB, instB] at h; omega
theorem NN_bd (t : Int) (h0 : -140737488355328 ≤ t) (h1 : t ≤ 140737488355328) : -35286000000000 ≤ lowA t ∧ lowA t ≤ 35286000000000 ∧ -35286000000000 ≤ upA t ∧ upA t ≤ 35286000000000 := by
  unfold lowA upA NN; omega
set_option maxHeartbeats 400000 in
theorem up_any (t : Int) (w : World) (h0 : -140737488355328 ≤ t) (h1 : t ≤ 140737488355328) :
    Calls Tryz.prog 184 #[.int .i64 t] w fun e w' => e = .returned (.int .i64 (upA t)) ∧ ∃ n, w.drewN n = w' := by
  have b := NN_bd t h0 h1
  have b1 := b.1; have b2 := b.2.1
  clear b
  unfold lowA at b1 b2
  by_cases hc : 0 < NN t % 86400000000000
  · have H : Hid (NN t / 86400000000000 + 1 = upA t) := by unfold upA Hid; omega
    go_enter Tryz.func184, Tryz.ntmps184
    go_wp2_with (go_at_call 183; refine (aries_any _ _ (by omega) (by omega)).mono ?_; rintro e w' ⟨rfl, n, rfl⟩)
    go_ret
    exact ⟨ret_one H.out, n, rfl⟩
  · have H : Hid (NN t / 86400000000000 = upA t) := by unfold upA Hid; omega
    go_enter Tryz.func184, Tryz.ntmps184
    go_wp2_with (go_at_call 183; refine (aries_any _ _ (by omega) (by omega)).mono ?_; rintro e w' ⟨rfl, n, rfl⟩)
    go_ret
    exact ⟨ret_one H.out, n, rfl⟩
set_option maxHeartbeats 400000 in
theorem between_any (a b : Int) (w : World) (h0 : -140737488355328 ≤ a) (h1 : a ≤ 140737488355328) (h2 : -140737488355328 ≤ b) (h3 : b ≤ 140737488355328) :
    Calls Tryz.prog 104 #[.int .i64 a, .int .i64 b] w fun e w' => e = .returned (.agg #[.int .i64 (arcLo (lowA a) (upA b)), .int .i64 (arcHi (lowA a) (upA b))]) ∧ Below w.heap.size w w' := by
  have d1 := NN_bd a h0 h1
  have d2 := NN_bd b h2 h3
  have e1 := d1.1; have e2 := d1.2.1; have e3 := d2.2.2.1; have e4 := d2.2.2.2
  clear d1 d2
  have EA : Hid (NN a / 86400000000000 = lowA a) := rfl
  have U : ∀ w, Calls Tryz.prog 183 #[.int .i64 a] w fun e w' => ∃ r : Int, e = .returned (.tuple #[.int .i64 (lowA a), .int .i64 r]) ∧ ∃ n, w.drewN n = w' := fun w => (aries_any a w h0 h1).mono fun e w' ⟨x, y⟩ => ⟨_, x, y⟩
  generalize lowA a = lo at *
  by_cases hc : 21600000 ≤ upA b - lo
  · have H : Hid (arcLo lo (upA b) = 0 ∧ arcHi lo (upA b) = 21600000) := by simp [arcLo, arcHi, hc, Hid]
    go_enter Tryz.func104, Tryz.ntmps104
    go_wp2_with (first | (go_at_call 183; refine (U _).mono ?_; rintro e w' ⟨r, rfl, n, rfl⟩) | (go_at_call 184; refine (up_any _ _ (by omega) (by omega)).mono ?_; rintro e w' ⟨rfl, n2, rfl⟩))
    exact bodyPost_ret (v := .agg #[.int .i64 0, .int .i64 21600000]) (by simp [results, Tryz.results104, go_sem]) rfl ⟨by rw [H.out.1, H.out.2], by (repeat (first | exact Below.refl _ _ | refine bl_drewN ?_ | refine bl_drew ?_ | refine bl_alloc ?_ _ | refine Below.setCell ?_ (by (first | (simp; done) | (simp; omega) | omega)) _ | refine bl_step (by assumption) ?_))⟩
  · have H : Hid (arcLo lo (upA b) = lo % 21600000 ∧ arcHi lo (upA b) = lo % 21600000 + (upA b - lo)) := by simp [arcLo, arcHi, hc, Hid]
    go_enter Tryz.func104, Tryz.ntmps104
    go_wp2_with (first | (go_at_call 183; refine (U _).mono ?_; rintro e w' ⟨r, rfl, n, rfl⟩) | (go_at_call 184; refine (up_any _ _ (by omega) (by omega)).mono ?_; rintro e w' ⟨rfl, n2, rfl⟩) | (go_at_call 56; refine (wrap_any _ _ (by omega) (by omega)).mono ?_; rintro e w' ⟨rfl, rfl⟩))
    exact bodyPost_ret (v := .agg #[.int .i64 (lo % 21600000), .int .i64 (lo % 21600000 + (upA b - lo))]) (by simp [results, Tryz.results104, go_sem]) rfl ⟨by rw [H.out.1, H.out.2], by (repeat (first | exact Below.refl _ _ | refine bl_drewN ?_ | refine bl_drew ?_ | refine bl_alloc ?_ _ | refine Below.setCell ?_ (by (first | (simp; done) | (simp; omega) | omega)) _ | refine bl_step (by assumption) ?_))⟩
end Go.Proofs.YtdhbeoahpfimbaaGreat
