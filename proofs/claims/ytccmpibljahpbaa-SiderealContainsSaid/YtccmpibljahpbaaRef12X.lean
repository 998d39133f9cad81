/- When of the reference of layer 12, as a contract: its binary search. -/
import Derived.Test.YtccmpibljahpbaaRef12W
namespace Go.Proofs.Ytccmpibljahpbaa
open Go.RowKit

theorem half_bd (l h : Int) (hlt : l < h - 1) : l < (l + h) / 2 ∧ (l + h) / 2 < h := by omega

set_option maxHeartbeats 1000000 in
theorem when12_ok (a s : Int) (w : World) (b0 : -9223372036854775808 ≤ a) (b1 : a ≤ 9223372036854775807) (h : instB s = true) (ht : timeB (lastT (goal a s)) (firstT (goal a s)) = true) :
    Calls Try.prog 12 #[.int .i64 a, .int .i64 s] w fun e w' => e = .returned (.tuple #[.agg #[.int .i64 (lastT (goal a s)), .int .i64 (firstT (goal a s))], .int .i64 (0)]) ∧ Below w.heap.size w w' := by
  have q := instB_t h
  have q0 := q.1; have q1 := q.2
  clear q
  have nb := NN_bd s (by omega) (by omega)
  have n0 := nb.2.2.1; have n1 := nb.2.2.2; have n2 := nb.1; have n3 := nb.2.1
  clear nb
  have wb := when_bd a s
  obtain ⟨wb0, wb1, wb2, wb3⟩ := wb
  obtain ⟨ws0, ws1⟩ := when_start a s
  have G : Hid (upA s + (a - upA s) % 21600000 = goal a s) := rfl
  have gb := goal_bd a s
  have gb0 := gb.1; have gb1 := gb.2
  clear gb
  have ru := rest_up s
  generalize goal a s = g at *
  generalize upA s = u at *
  have WS0 : Hid (upA (s - 1) ≤ g) := ws0
  have WS1 : Hid (g < upA (s + 86400000)) := ws1
  clear ws0 ws1
  by_cases hr : 0 < restA s
  all_goals
    first
      | (have k1 := ru.2.1 hr)
      | (have k0 : restA s = 0 := by omega
         have k1 := ru.2.2 k0)
    clear ru
    have G1 := G.out
    go_enter Try.func12, Try.ntmps12
    go_wp2_with (first | (go_at_call 14; refine (ranges12_any _ _).mono ?_; rintro e w' ⟨rfl, rfl⟩) | (go_at_call 34; refine (aries12_low _ _ (by omega) (by omega)).mono ?_; rintro e w' ⟨rfl, rfl⟩) | (go_at_call 35; refine (wrap5_any _ _ (by omega) (by omega)).mono ?_; rintro e w' ⟨rfl, rfl⟩))
    clear k1 G1
    go_loop [9, 10] (fun x y => ∃ l h : Int, x = .int .i64 l ∧ y = .int .i64 h ∧ s - 1 ≤ l ∧ l < h ∧ h ≤ s + 86400000 ∧ Hid (upA l ≤ g ∧ g < upA h)) (fun x y => (intOf y - intOf x).toNat)
    case atStart => exact ⟨_, _, rfl, rfl, by omega, by omega, by omega, WS0.out, WS1.out⟩
    case round =>
      obtain ⟨l, h, rfl, rfl, r0, r1, r2, R⟩ := hrel
      by_cases hlt : l < h - 1
      · have hb0 := (half_bd l h hlt).1
        have hb1 := (half_bd l h hlt).2
        rcases when_ways g ((l + h) / 2) with ⟨c1, c2⟩ | ⟨c1, c2, c3⟩ | ⟨c1, c2, c3⟩ | ⟨c1, c2⟩
        · have C2 : Hid (upA ((l + h) / 2) ≤ g) := c2
          clear c2
          go_wp2_with (first | (go_at_call 36; refine (floor5_any _ _ _ (by omega) (by omega) (by omega) (by omega)).mono ?_; rintro e w' ⟨rfl, rfl⟩) | (go_at_call 34; refine (aries12_low _ _ (by omega) (by omega)).mono ?_; rintro e w' ⟨rfl, rfl⟩))
          go_round
          case rel => exact ⟨_, _, rfl, rfl, by omega, by omega, by omega, C2.out, R.out.2⟩
          case measure => simp [intOf]; omega
        · have C2 : Hid (upA ((l + h) / 2) ≤ g) := c3
          clear c3
          go_wp2_with (first | (go_at_call 36; refine (floor5_any _ _ _ (by omega) (by omega) (by omega) (by omega)).mono ?_; rintro e w' ⟨rfl, rfl⟩) | (go_at_call 34; refine (aries12_low _ _ (by omega) (by omega)).mono ?_; rintro e w' ⟨rfl, rfl⟩))
          go_round
          case rel => exact ⟨_, _, rfl, rfl, by omega, by omega, by omega, C2.out, R.out.2⟩
          case measure => simp [intOf]; omega
        · have C2 : Hid (g < upA ((l + h) / 2)) := c3
          have c4 : (restA ((l + h) / 2) == 0) = false := by simpa using c2
          clear c3
          go_wp2_with (first | (go_at_call 36; refine (floor5_any _ _ _ (by omega) (by omega) (by omega) (by omega)).mono ?_; rintro e w' ⟨rfl, rfl⟩) | (go_at_call 34; refine (aries12_low _ _ (by omega) (by omega)).mono ?_; rintro e w' ⟨rfl, rfl⟩))
          go_round
          case rel => exact ⟨_, _, rfl, rfl, by omega, by omega, by omega, R.out.1, C2.out⟩
          case measure => simp [intOf]; omega
        · have C2 : Hid (g < upA ((l + h) / 2)) := c2
          clear c2
          go_wp2_with (first | (go_at_call 36; refine (floor5_any _ _ _ (by omega) (by omega) (by omega) (by omega)).mono ?_; rintro e w' ⟨rfl, rfl⟩) | (go_at_call 34; refine (aries12_low _ _ (by omega) (by omega)).mono ?_; rintro e w' ⟨rfl, rfl⟩))
          go_round
          case rel => exact ⟨_, _, rfl, rfl, by omega, by omega, by omega, R.out.1, C2.out⟩
          case measure => simp [intOf]; omega
      · obtain rfl : h = l + 1 := by omega
        have we := when_end g l R.out.1 R.out.2
        obtain ⟨rfl, we⟩ := we
        rcases we with ⟨c1, c2, c3⟩ | ⟨c1, c3⟩
        · have C3 : Hid (firstT g = lastT g) := c3
          have ht' : timeB (lastT g) (lastT g) = true := by rw [c3] at ht; exact ht
          clear c3 ht
          go_wp2_with (first | (go_at_call 34; refine (aries12_low _ _ (by omega) (by omega)).mono ?_; rintro e w' ⟨rfl, rfl⟩) | (go_at_call 19; refine (tvalid12_any _ _ _).mono ?_; rintro e w' ⟨rfl, hb⟩; (try replace hb := below_undrew hb); (try replace hb := below_undrewN hb); obtain ⟨hcell, hfroz⟩ := bcell hb; have hz := hb.size; (try simp at hz); (try (have z6 := Nat.lt_of_lt_of_le z7 hz)); (try (have z7 := Nat.lt_of_lt_of_le z8 hz)); (try (have z8 := Nat.lt_of_lt_of_le z9 hz)); (try (have z9 := Nat.lt_of_lt_of_le (Nat.lt_succ_self _) hz)); (try (have z0 : w.heap.size < w'.heap.size := by omega)); (try (have z1 : w.heap.size + 1 < w'.heap.size := by omega)); (try (have z2 : w.heap.size + 1 + 1 < w'.heap.size := by omega)); (try (have z3 : w.heap.size + 1 + 1 + 1 < w'.heap.size := by omega))))
          exact bodyPost_ret (v := .tuple #[.agg #[.int .i64 (lastT g), .int .i64 (lastT g)], .int .i64 (0)]) (by first | (simp only [results, Try.results12]; go_simp; done) | simp [results, Try.results12, go_sem, *]) rfl ⟨by rw [C3.out], by (repeat (first | exact Below.refl _ _ | refine bl_drewN ?_ | refine bl_drew ?_ | refine bl_alloc ?_ _ | refine Below.setCell ?_ (by (first | (simp; done) | (simp; omega) | omega)) _ | refine bl_step (by assumption) ?_))⟩
        · have C3 : Hid (firstT g = lastT g + 1) := c3
          have ht' : timeB (lastT g) (lastT g + 1) = true := by rw [c3] at ht; exact ht
          clear c3 ht
          go_wp2_with (first | (go_at_call 34; refine (aries12_low _ _ (by omega) (by omega)).mono ?_; rintro e w' ⟨rfl, rfl⟩) | (go_at_call 19; refine (tvalid12_any _ _ _).mono ?_; rintro e w' ⟨rfl, hb⟩; (try replace hb := below_undrew hb); (try replace hb := below_undrewN hb); obtain ⟨hcell, hfroz⟩ := bcell hb; have hz := hb.size; (try simp at hz); (try (have z6 := Nat.lt_of_lt_of_le z7 hz)); (try (have z7 := Nat.lt_of_lt_of_le z8 hz)); (try (have z8 := Nat.lt_of_lt_of_le z9 hz)); (try (have z9 := Nat.lt_of_lt_of_le (Nat.lt_succ_self _) hz)); (try (have z0 : w.heap.size < w'.heap.size := by omega)); (try (have z1 : w.heap.size + 1 < w'.heap.size := by omega)); (try (have z2 : w.heap.size + 1 + 1 < w'.heap.size := by omega)); (try (have z3 : w.heap.size + 1 + 1 + 1 < w'.heap.size := by omega))))
          exact bodyPost_ret (v := .tuple #[.agg #[.int .i64 (lastT g), .int .i64 (lastT g + 1)], .int .i64 (0)]) (by first | (simp only [results, Try.results12]; go_simp; done) | simp [results, Try.results12, go_sem, *]) rfl ⟨by rw [C3.out], by (repeat (first | exact Below.refl _ _ | refine bl_drewN ?_ | refine bl_drew ?_ | refine bl_alloc ?_ _ | refine Below.setCell ?_ (by (first | (simp; done) | (simp; omega) | omega)) _ | refine bl_step (by assumption) ?_))⟩

set_option maxHeartbeats 1000000 in
theorem when12_big (a s : Int) (w : World) (b0 : -9223372036854775808 ≤ a) (b1 : a ≤ 9223372036854775807) (h : instB s = true) (ht : timeB (lastT (goal a s)) (firstT (goal a s)) = false) :
    Calls Try.prog 12 #[.int .i64 a, .int .i64 s] w fun e w' => e = .returned (.tuple #[.agg #[.int .i64 (0), .int .i64 (0)], .int .i64 (5)]) ∧ Below w.heap.size w w' := by
  have q := instB_t h
  have q0 := q.1; have q1 := q.2
  clear q
  have nb := NN_bd s (by omega) (by omega)
  have n0 := nb.2.2.1; have n1 := nb.2.2.2; have n2 := nb.1; have n3 := nb.2.1
  clear nb
  have wb := when_bd a s
  obtain ⟨wb0, wb1, wb2, wb3⟩ := wb
  obtain ⟨ws0, ws1⟩ := when_start a s
  have G : Hid (upA s + (a - upA s) % 21600000 = goal a s) := rfl
  have gb := goal_bd a s
  have gb0 := gb.1; have gb1 := gb.2
  clear gb
  have ru := rest_up s
  generalize goal a s = g at *
  generalize upA s = u at *
  have WS0 : Hid (upA (s - 1) ≤ g) := ws0
  have WS1 : Hid (g < upA (s + 86400000)) := ws1
  clear ws0 ws1
  by_cases hr : 0 < restA s
  all_goals
    first
      | (have k1 := ru.2.1 hr)
      | (have k0 : restA s = 0 := by omega
         have k1 := ru.2.2 k0)
    clear ru
    have G1 := G.out
    go_enter Try.func12, Try.ntmps12
    go_wp2_with (first | (go_at_call 14; refine (ranges12_any _ _).mono ?_; rintro e w' ⟨rfl, rfl⟩) | (go_at_call 34; refine (aries12_low _ _ (by omega) (by omega)).mono ?_; rintro e w' ⟨rfl, rfl⟩) | (go_at_call 35; refine (wrap5_any _ _ (by omega) (by omega)).mono ?_; rintro e w' ⟨rfl, rfl⟩))
    clear k1 G1
    go_loop [9, 10] (fun x y => ∃ l h : Int, x = .int .i64 l ∧ y = .int .i64 h ∧ s - 1 ≤ l ∧ l < h ∧ h ≤ s + 86400000 ∧ Hid (upA l ≤ g ∧ g < upA h)) (fun x y => (intOf y - intOf x).toNat)
    case atStart => exact ⟨_, _, rfl, rfl, by omega, by omega, by omega, WS0.out, WS1.out⟩
    case round =>
      obtain ⟨l, h, rfl, rfl, r0, r1, r2, R⟩ := hrel
      by_cases hlt : l < h - 1
      · have hb0 := (half_bd l h hlt).1
        have hb1 := (half_bd l h hlt).2
        rcases when_ways g ((l + h) / 2) with ⟨c1, c2⟩ | ⟨c1, c2, c3⟩ | ⟨c1, c2, c3⟩ | ⟨c1, c2⟩
        · have C2 : Hid (upA ((l + h) / 2) ≤ g) := c2
          clear c2
          go_wp2_with (first | (go_at_call 36; refine (floor5_any _ _ _ (by omega) (by omega) (by omega) (by omega)).mono ?_; rintro e w' ⟨rfl, rfl⟩) | (go_at_call 34; refine (aries12_low _ _ (by omega) (by omega)).mono ?_; rintro e w' ⟨rfl, rfl⟩))
          go_round
          case rel => exact ⟨_, _, rfl, rfl, by omega, by omega, by omega, C2.out, R.out.2⟩
          case measure => simp [intOf]; omega
        · have C2 : Hid (upA ((l + h) / 2) ≤ g) := c3
          clear c3
          go_wp2_with (first | (go_at_call 36; refine (floor5_any _ _ _ (by omega) (by omega) (by omega) (by omega)).mono ?_; rintro e w' ⟨rfl, rfl⟩) | (go_at_call 34; refine (aries12_low _ _ (by omega) (by omega)).mono ?_; rintro e w' ⟨rfl, rfl⟩))
          go_round
          case rel => exact ⟨_, _, rfl, rfl, by omega, by omega, by omega, C2.out, R.out.2⟩
          case measure => simp [intOf]; omega
        · have C2 : Hid (g < upA ((l + h) / 2)) := c3
          have c4 : (restA ((l + h) / 2) == 0) = false := by simpa using c2
          clear c3
          go_wp2_with (first | (go_at_call 36; refine (floor5_any _ _ _ (by omega) (by omega) (by omega) (by omega)).mono ?_; rintro e w' ⟨rfl, rfl⟩) | (go_at_call 34; refine (aries12_low _ _ (by omega) (by omega)).mono ?_; rintro e w' ⟨rfl, rfl⟩))
          go_round
          case rel => exact ⟨_, _, rfl, rfl, by omega, by omega, by omega, R.out.1, C2.out⟩
          case measure => simp [intOf]; omega
        · have C2 : Hid (g < upA ((l + h) / 2)) := c2
          clear c2
          go_wp2_with (first | (go_at_call 36; refine (floor5_any _ _ _ (by omega) (by omega) (by omega) (by omega)).mono ?_; rintro e w' ⟨rfl, rfl⟩) | (go_at_call 34; refine (aries12_low _ _ (by omega) (by omega)).mono ?_; rintro e w' ⟨rfl, rfl⟩))
          go_round
          case rel => exact ⟨_, _, rfl, rfl, by omega, by omega, by omega, R.out.1, C2.out⟩
          case measure => simp [intOf]; omega
      · obtain rfl : h = l + 1 := by omega
        have we := when_end g l R.out.1 R.out.2
        obtain ⟨rfl, we⟩ := we
        rcases we with ⟨c1, c2, c3⟩ | ⟨c1, c3⟩
        · have C3 : Hid (firstT g = lastT g) := c3
          have ht' : timeB (lastT g) (lastT g) = false := by rw [c3] at ht; exact ht
          clear c3 ht
          go_wp2_with (first | (go_at_call 34; refine (aries12_low _ _ (by omega) (by omega)).mono ?_; rintro e w' ⟨rfl, rfl⟩) | (go_at_call 19; refine (tvalid12_any _ _ _).mono ?_; rintro e w' ⟨rfl, hb⟩; (try replace hb := below_undrew hb); (try replace hb := below_undrewN hb); obtain ⟨hcell, hfroz⟩ := bcell hb; have hz := hb.size; (try simp at hz); (try (have z6 := Nat.lt_of_lt_of_le z7 hz)); (try (have z7 := Nat.lt_of_lt_of_le z8 hz)); (try (have z8 := Nat.lt_of_lt_of_le z9 hz)); (try (have z9 := Nat.lt_of_lt_of_le (Nat.lt_succ_self _) hz)); (try (have z0 : w.heap.size < w'.heap.size := by omega)); (try (have z1 : w.heap.size + 1 < w'.heap.size := by omega)); (try (have z2 : w.heap.size + 1 + 1 < w'.heap.size := by omega)); (try (have z3 : w.heap.size + 1 + 1 + 1 < w'.heap.size := by omega))))
          exact bodyPost_ret (v := .tuple #[.agg #[.int .i64 (0), .int .i64 (0)], .int .i64 (5)]) (by first | (simp only [results, Try.results12]; go_simp; done) | simp [results, Try.results12, go_sem, *]) rfl ⟨rfl, by (repeat (first | exact Below.refl _ _ | refine bl_drewN ?_ | refine bl_drew ?_ | refine bl_alloc ?_ _ | refine Below.setCell ?_ (by (first | (simp; done) | (simp; omega) | omega)) _ | refine bl_step (by assumption) ?_))⟩
        · have C3 : Hid (firstT g = lastT g + 1) := c3
          have ht' : timeB (lastT g) (lastT g + 1) = false := by rw [c3] at ht; exact ht
          clear c3 ht
          go_wp2_with (first | (go_at_call 34; refine (aries12_low _ _ (by omega) (by omega)).mono ?_; rintro e w' ⟨rfl, rfl⟩) | (go_at_call 19; refine (tvalid12_any _ _ _).mono ?_; rintro e w' ⟨rfl, hb⟩; (try replace hb := below_undrew hb); (try replace hb := below_undrewN hb); obtain ⟨hcell, hfroz⟩ := bcell hb; have hz := hb.size; (try simp at hz); (try (have z6 := Nat.lt_of_lt_of_le z7 hz)); (try (have z7 := Nat.lt_of_lt_of_le z8 hz)); (try (have z8 := Nat.lt_of_lt_of_le z9 hz)); (try (have z9 := Nat.lt_of_lt_of_le (Nat.lt_succ_self _) hz)); (try (have z0 : w.heap.size < w'.heap.size := by omega)); (try (have z1 : w.heap.size + 1 < w'.heap.size := by omega)); (try (have z2 : w.heap.size + 1 + 1 < w'.heap.size := by omega)); (try (have z3 : w.heap.size + 1 + 1 + 1 < w'.heap.size := by omega))))
          exact bodyPost_ret (v := .tuple #[.agg #[.int .i64 (0), .int .i64 (0)], .int .i64 (5)]) (by first | (simp only [results, Try.results12]; go_simp; done) | simp [results, Try.results12, go_sem, *]) rfl ⟨rfl, by (repeat (first | exact Below.refl _ _ | refine bl_drewN ?_ | refine bl_drew ?_ | refine bl_alloc ?_ _ | refine Below.setCell ?_ (by (first | (simp; done) | (simp; omega) | omega)) _ | refine bl_step (by assumption) ?_))⟩

end Go.Proofs.Ytccmpibljahpbaa
