/- What the functions of the reference of layer 12 compute, each as a contract. -/
import Derived.Test.YtccmpibljahpbaaRef05
import Derived.Test.YtccmpibljahpbaaLocal
import Derived.Test.YtccmpibljahpbaaWhen
import Derived.Deep.RegionHeld3
namespace Go.Proofs.Ytccmpibljahpbaa
open Go.RowKit

theorem ret_bool {a b : Bool} (h : a = b) : Ending.returned (.bool a) = Ending.returned (.bool b) := by rw [h]

set_option maxHeartbeats 1000000 in
theorem aries12_any (t : Int) (w : World) (h0 : -140737488355328 ≤ t) (h1 : t ≤ 140737488355328) :
    Calls Try.prog 34 #[.int .i64 t] w fun e w' => e = .returned (.tuple #[.int .i64 (NN t / 86400000000000), .int .i64 (NN t % 86400000000000)]) ∧ w = w' := by
  obtain ⟨d, hd⟩ : ∃ d, t / 86400000 = d := ⟨_, rfl⟩
  obtain ⟨m, hm⟩ : ∃ m, t - d * 86400000 = m := ⟨_, rfl⟩
  obtain ⟨q, hq⟩ : ∃ q, 59138841977 * d / 1000000 = q := ⟨_, rfl⟩
  have b1 : -1628907 ≤ d := by omega
  have b2 : d ≤ 1628907 := by omega
  have b3 : 0 ≤ m := by omega
  have b4 : m < 86400000 := by omega
  have b5 : 0 ≤ 59138841977 * d - q * 1000000 := by omega
  have b6 : 59138841977 * d - q * 1000000 < 1000000 := by omega
  have b7 : -96332000000 ≤ q := by omega
  have b8 : q ≤ 96332000000 := by omega
  have F : Hid (21600000 * d + 5998067 + m / 4 + q + 59138841977 * m / 86400000000000 + (58838400000000 + m % 4 * 21600000000000 + (59138841977 * d - q * 1000000) * 86400000 + 59138841977 * m % 86400000000000) / 86400000000000 = NN t / 86400000000000 ∧ (58838400000000 + m % 4 * 21600000000000 + (59138841977 * d - q * 1000000) * 86400000 + 59138841977 * m % 86400000000000) % 86400000000000 = NN t % 86400000000000) := by
    constructor <;> (unfold NN; omega)
  go_enter Try.func34, Try.ntmps34
  go_wp2_with (go_at_call 36; refine (floor5_any _ _ _ (by omega) (by omega) (by omega) (by omega)).mono ?_; rintro e w' ⟨rfl, rfl⟩)
  clear hd hm hq
  go_ret2
  have f := F.out
  exact ⟨ret_two ⟨by omega, by omega⟩, rfl⟩

set_option maxHeartbeats 400000 in
theorem ranges12_any (n : Int) (w : World) :
    Calls Try.prog 14 #[.int .i64 n] w fun e w' => e = .returned (.bool (instB n)) ∧ w = w' := by
  by_cases h1 : -70368744177664 ≤ n
  · by_cases h2 : n ≤ 70368744177664
    · have H := hidden (instB_mk ⟨h1, h2⟩)
      go_enter Try.func14, Try.ntmps14
      go_wp2
      go_ret
      exact ⟨by rw [H.out]; rfl, rfl⟩
    · have H := hidden (instB_not (n := n) (by omega))
      go_enter Try.func14, Try.ntmps14
      go_wp2
      go_ret
      exact ⟨by rw [H.out]; rfl, rfl⟩
  · have H := hidden (instB_not (n := n) (by omega))
    go_enter Try.func14, Try.ntmps14
    go_wp2
    go_ret
    exact ⟨by rw [H.out]; rfl, rfl⟩

set_option maxHeartbeats 400000 in
theorem tvalid12_any (a b : Int) (w : World) :
    Calls Try.prog 19 #[.agg #[.int .i64 (a), .int .i64 (b)]] w fun e w' => e = .returned (.bool (timeB a b)) ∧ Below w.heap.size w w' := by
  cases h2 : instB a
  · have H := hidden (show timeB a b = false by simp [timeB, h2])
    go_enter Try.func19, Try.ntmps19
    go_wp2_with (go_at_call 14; refine (ranges12_any _ _).mono ?_; rintro e w' ⟨rfl, rfl⟩)
    go_ret
    exact ⟨by rw [H.out]; rfl, by (repeat (first | exact Below.refl _ _ | refine bl_drewN ?_ | refine bl_drew ?_ | refine bl_alloc ?_ _ | refine Below.setCell ?_ (by (first | (simp; done) | (simp; omega) | omega)) _ | refine bl_step (by assumption) ?_))⟩
  · cases h3 : instB b
    · have H := hidden (show timeB a b = false by simp [timeB, h3])
      go_enter Try.func19, Try.ntmps19
      go_wp2_with (go_at_call 14; refine (ranges12_any _ _).mono ?_; rintro e w' ⟨rfl, rfl⟩)
      go_ret
      exact ⟨by rw [H.out]; rfl, by (repeat (first | exact Below.refl _ _ | refine bl_drewN ?_ | refine bl_drew ?_ | refine bl_alloc ?_ _ | refine Below.setCell ?_ (by (first | (simp; done) | (simp; omega) | omega)) _ | refine bl_step (by assumption) ?_))⟩
    · by_cases h1 : a ≤ b
      · have H := hidden (show timeB a b = true by simp [timeB, h1, h2, h3])
        go_enter Try.func19, Try.ntmps19
        go_wp2_with (go_at_call 14; refine (ranges12_any _ _).mono ?_; rintro e w' ⟨rfl, rfl⟩)
        go_ret
        exact ⟨by rw [H.out]; rfl, by (repeat (first | exact Below.refl _ _ | refine bl_drewN ?_ | refine bl_drew ?_ | refine bl_alloc ?_ _ | refine Below.setCell ?_ (by (first | (simp; done) | (simp; omega) | omega)) _ | refine bl_step (by assumption) ?_))⟩
      · have H := hidden (show timeB a b = false by simp [timeB, h1])
        go_enter Try.func19, Try.ntmps19
        go_wp2_with (go_at_call 14; refine (ranges12_any _ _).mono ?_; rintro e w' ⟨rfl, rfl⟩)
        go_ret
        exact ⟨by rw [H.out]; exact ret_bool (decide_eq_false (by omega)), by (repeat (first | exact Below.refl _ _ | refine bl_drewN ?_ | refine bl_drew ?_ | refine bl_alloc ?_ _ | refine Below.setCell ?_ (by (first | (simp; done) | (simp; omega) | omega)) _ | refine bl_step (by assumption) ?_))⟩

def restA (t : Int) : Int := NN t % 86400000000000
theorem rest_up (t : Int) : 0 ≤ restA t ∧ (0 < restA t → lowA t + 1 = upA t) ∧ (restA t = 0 → lowA t = upA t) := by unfold restA lowA upA; omega
theorem aries12_low (t : Int) (w : World) (h0 : -140737488355328 ≤ t) (h1 : t ≤ 140737488355328) :
    Calls Try.prog 34 #[.int .i64 t] w fun e w' => e = .returned (.tuple #[.int .i64 (lowA t), .int .i64 (restA t)]) ∧ w = w' := aries12_any t w h0 h1

set_option maxHeartbeats 400000 in
theorem interval12_any (a b : Int) (w : World) (h0 : -140737488355328 ≤ a) (h1 : a ≤ b) (h2 : b ≤ 140737488355328) :
    Calls Try.prog 15 #[.agg #[.int .i64 (a), .int .i64 (b)]] w fun e w' => e = .returned (.agg #[.int .i64 (arcLo (lowA a) (upA b)), .int .i64 (arcHi (lowA a) (upA b))]) ∧ Below w.heap.size w w' := by
  have d1 := NN_bd a h0 (by omega)
  have d2 := NN_bd b (by omega) h2
  have e1 := d1.1; have e2 := d1.2.1; have e3 := d2.1; have e4 := d2.2.1; have e5 := d2.2.2.1; have e6 := d2.2.2.2
  clear d1 d2
  have hle := low_le_up h1
  have ru := rest_up b
  by_cases hc : 0 < restA b
  · have H1 := ru.2.1 hc
    clear ru
    go_enter Try.func15, Try.ntmps15
    go_wp2_with (first | (go_at_call 34; refine (aries12_low _ _ (by omega) (by omega)).mono ?_; rintro e w' ⟨rfl, rfl⟩) | (go_at_call 38; refine (turn5_any _ _ _ (by omega) (by omega) (by omega)).mono ?_; rintro e w' ⟨rfl, hb⟩; (try replace hb := below_undrew hb); (try replace hb := below_undrewN hb); obtain ⟨hcell, hfroz⟩ := bcell hb; have hz := hb.size; (try simp at hz); (try (have z6 := Nat.lt_of_lt_of_le z7 hz)); (try (have z7 := Nat.lt_of_lt_of_le z8 hz)); (try (have z8 := Nat.lt_of_lt_of_le z9 hz)); (try (have z9 := Nat.lt_of_lt_of_le (Nat.lt_succ_self _) hz)); (try (have z0 : w.heap.size < w'.heap.size := by omega)); (try (have z1 : w.heap.size + 1 < w'.heap.size := by omega)); (try (have z2 : w.heap.size + 1 + 1 < w'.heap.size := by omega)); (try (have z3 : w.heap.size + 1 + 1 + 1 < w'.heap.size := by omega))))
    exact bodyPost_ret (v := .agg #[.int .i64 (arcLo (lowA a) (upA b)), .int .i64 (arcHi (lowA a) (upA b))]) (by first | (simp only [results, Try.results15]; go_simp; done) | simp [results, Try.results15, go_sem, *]) rfl ⟨rfl, by (repeat (first | exact Below.refl _ _ | refine bl_drewN ?_ | refine bl_drew ?_ | refine bl_alloc ?_ _ | refine Below.setCell ?_ (by (first | (simp; done) | (simp; omega) | omega)) _ | refine bl_step (by assumption) ?_))⟩
  · have H0 : restA b = 0 := by omega
    have H1 := ru.2.2 H0
    clear ru
    go_enter Try.func15, Try.ntmps15
    go_wp2_with (first | (go_at_call 34; refine (aries12_low _ _ (by omega) (by omega)).mono ?_; rintro e w' ⟨rfl, rfl⟩) | (go_at_call 38; refine (turn5_any _ _ _ (by omega) (by omega) (by omega)).mono ?_; rintro e w' ⟨rfl, hb⟩; (try replace hb := below_undrew hb); (try replace hb := below_undrewN hb); obtain ⟨hcell, hfroz⟩ := bcell hb; have hz := hb.size; (try simp at hz); (try (have z6 := Nat.lt_of_lt_of_le z7 hz)); (try (have z7 := Nat.lt_of_lt_of_le z8 hz)); (try (have z8 := Nat.lt_of_lt_of_le z9 hz)); (try (have z9 := Nat.lt_of_lt_of_le (Nat.lt_succ_self _) hz)); (try (have z0 : w.heap.size < w'.heap.size := by omega)); (try (have z1 : w.heap.size + 1 < w'.heap.size := by omega)); (try (have z2 : w.heap.size + 1 + 1 < w'.heap.size := by omega)); (try (have z3 : w.heap.size + 1 + 1 + 1 < w'.heap.size := by omega))))
    exact bodyPost_ret (v := .agg #[.int .i64 (arcLo (lowA a) (upA b)), .int .i64 (arcHi (lowA a) (upA b))]) (by first | (simp only [results, Try.results15]; go_simp; done) | simp [results, Try.results15, go_sem, *]) rfl ⟨rfl, by (repeat (first | exact Below.refl _ _ | refine bl_drewN ?_ | refine bl_drew ?_ | refine bl_alloc ?_ _ | refine Below.setCell ?_ (by (first | (simp; done) | (simp; omega) | omega)) _ | refine bl_step (by assumption) ?_))⟩

end Go.Proofs.Ytccmpibljahpbaa
