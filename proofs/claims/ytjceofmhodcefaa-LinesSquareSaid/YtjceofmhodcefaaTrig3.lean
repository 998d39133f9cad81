/- The series of trig, as a contract. -/
import Derived.Test.YtjceofmhodcefaaTrig2
namespace Go.Proofs.Ytjceofmhodcefaa
open Go.RowKit

/-- what holds at the head of each round of the series: u, in a block of the call's own, is the series after m terms, and j terms are left -/
def lessI (w4 : World) (Y odd : Int) (K : Value) (wr : World) : Prop :=
  ∃ (j m : Nat) (u0 u1 u2 u3 : Int), j + m = 34 ∧ K = .int .u64 j ∧ Below w4.heap.size w4 wr ∧ w4.heap.size < wr.heap.size ∧ (∀ o, wr.frozen? ⟨w4.heap.size, o, none⟩ = false) ∧ isNum (lessR Y odd m) u0 u1 u2 u3 ∧
    wr.cell? ⟨w4.heap.size, 0, none⟩ = some (.int .u64 u0) ∧ wr.cell? ⟨w4.heap.size, 1, none⟩ = some (.int .u64 u1) ∧ wr.cell? ⟨w4.heap.size, 2, none⟩ = some (.int .u64 u2) ∧ wr.cell? ⟨w4.heap.size, 3, none⟩ = some (.int .u64 u3)

theorem dTerm_is (odd : Int) (j m : Nat) (h : j + m = 34) (ho : 0 ≤ odd ∧ odd ≤ 1) (hj : 0 < j) : IntKind.u64.wrap ((2 * (j : Int) - 1 + odd) * (2 * (j : Int) + odd)) = dTerm odd (34 - m) := by
  have e : 34 - m = j := by omega
  rw [e]
  unfold dTerm
  have a1 : 1 ≤ 2 * (j : Int) - 1 + odd := by omega
  have a2 : 2 * (j : Int) - 1 + odd ≤ 68 := by omega
  have b1 : 1 ≤ 2 * (j : Int) + odd := by omega
  have b2 : 2 * (j : Int) + odd ≤ 69 := by omega
  have := Int.mul_le_mul a1 b1 (by omega) (by omega)
  have := Int.mul_le_mul a2 b2 (by omega) (by omega)
  rw [IntKind.wrap_u64]; omega

theorem less_rel {w4 w6 wN : World} {Y odd : Int} {j m : Nat} {u0 u1 u2 u3 v0 v1 v2 v3 : Int} (hjm : j + m = 34) (hj : 0 < j) (hb0 : Below w4.heap.size w4 w6) (hb6 : Below w6.heap.size w6 wN) (z : w4.heap.size < w6.heap.size) (fz : ∀ o, w6.frozen? ⟨w4.heap.size, o, none⟩ = false)
    (nV : isNum (lessR Y odd (m + 1)) v0 v1 v2 v3) (g0 : w6.cell? ⟨w4.heap.size, 0, none⟩ = some (.int .u64 u0)) (g1 : w6.cell? ⟨w4.heap.size, 1, none⟩ = some (.int .u64 u1)) (g2 : w6.cell? ⟨w4.heap.size, 2, none⟩ = some (.int .u64 u2)) (g3 : w6.cell? ⟨w4.heap.size, 3, none⟩ = some (.int .u64 u3)) :
    lessI w4 Y odd (.int .u64 ((j : Int) - 1)) ((((wN.setCell ⟨w4.heap.size, 0, none⟩ (.int .u64 v0)).setCell ⟨w4.heap.size, 1, none⟩ (.int .u64 v1)).setCell ⟨w4.heap.size, 2, none⟩ (.int .u64 v2)).setCell ⟨w4.heap.size, 3, none⟩ (.int .u64 v3)) := by
  have hs := hb6.size
  have bc := bcell hb6
  have k : ∀ o, wN.cell? ⟨w4.heap.size, o, none⟩ = w6.cell? ⟨w4.heap.size, o, none⟩ := fun o => bc.1 _ o z
  have f : ∀ o, wN.frozen? ⟨w4.heap.size, o, none⟩ = w6.frozen? ⟨w4.heap.size, o, none⟩ := fun o => bc.2 _ o z
  refine ⟨j - 1, m + 1, v0, v1, v2, v3, by omega, congrArg _ (by omega), ?_, by simp; omega, ?_, nV, ?_, ?_, ?_, ?_⟩
  · exact (((((hb0.trans (hb6.mono (Nat.le_of_lt z))).setCell (Nat.le_refl _) _).setCell (Nat.le_refl _) _).setCell (Nat.le_refl _) _).setCell (Nat.le_refl _) _)
  · intro o; simp [f, fz]
  all_goals simp [go_sem, k, g0, g1, g2, g3]

set_option maxRecDepth 100000 in
set_option maxHeartbeats 4000000 in
theorem less_walk (odd Y xa xb xc xd ya yb yc yd : Int) (w : World) (hY : 0 ≤ Y ∧ Y < W256) (ho0 : 0 ≤ odd) (ho1 : odd ≤ 1) (nY : isNum Y ya yb yc yd)
    (MY : Hid (∀ w, Calls Try.prog 84 #[.agg #[.int .u64 xa, .int .u64 xb, .int .u64 xc, .int .u64 xd], .agg #[.int .u64 xa, .int .u64 xb, .int .u64 xc, .int .u64 xd]] w fun e w' => e = .returned (.agg #[.int .u64 ya, .int .u64 yb, .int .u64 yc, .int .u64 yd]) ∧ Below w.heap.size w w')) (v : Value) (hv : NUM (lessR Y odd 34) = v) :
    Calls Try.prog 85 #[.agg #[.int .u64 xa, .int .u64 xb, .int .u64 xc, .int .u64 xd], .int .u64 odd] w fun e w' => e = .returned v ∧ Below w.heap.size w w' := by
  replace nY := hidden nY
  replace hv := hidden hv
  replace hY := hidden hY
  go_enter Try.func85, Try.ntmps85
  go_upto_region 2 with (go_at_call 84; ((with_reducible refine (MY.out _).mono ?_); rintro e w' ⟨rfl, hb⟩); (try replace hb := below_undrew hb); (try replace hb := below_undrewN hb); obtain ⟨hcell, hfroz⟩ := bcell hb; have hz := hb.size; (try simp at hz); (try (have z6 := Nat.lt_of_lt_of_le z7 hz)); (try (have z7 := Nat.lt_of_lt_of_le z8 hz)); (try (have z8 := Nat.lt_of_lt_of_le z9 hz)); (try (have z9 := Nat.lt_of_lt_of_le (Nat.lt_succ_self _) hz)); (try (have z0 : w.heap.size < w'.heap.size := by omega)); (try (have z1 : w.heap.size + 1 < w'.heap.size := by omega)); (try (have z2 : w.heap.size + 1 + 1 < w'.heap.size := by omega)); (try (have z3 : w.heap.size + 1 + 1 + 1 < w'.heap.size := by omega)); (try (have y1 : w1.heap.size < w'.heap.size := by omega)); (try (have y2 : w2.heap.size < w'.heap.size := by omega)); (try (have y3 : w3.heap.size < w'.heap.size := by omega)); (try (have y4 : w4.heap.size < w'.heap.size := by omega)); (try (have y5 : w5.heap.size < w'.heap.size := by omega)); (try (have y6 : w6.heap.size < w'.heap.size := by omega)); (try (have x1 : w1.heap.size + 1 < w'.heap.size := by omega)); (try (have x2 : w2.heap.size + 1 < w'.heap.size := by omega)); (try (have x3 : w3.heap.size + 1 < w'.heap.size := by omega)); (try (have x4 : w4.heap.size + 1 < w'.heap.size := by omega)); (try (have x5 : w5.heap.size + 1 < w'.heap.size := by omega)); (try (have x6 : w6.heap.size + 1 < w'.heap.size := by omega)); obtain ⟨w3, rfl⟩ : ∃ v, v = w' := ⟨_, rfl⟩)
  (refine name_code ?_; intro w' hb; (try replace hb := below_undrew hb); (try replace hb := below_undrewN hb); obtain ⟨hcell, hfroz⟩ := bcell hb; have hz := hb.size; (try simp at hz); (try (have z6 := Nat.lt_of_lt_of_le z7 hz)); (try (have z7 := Nat.lt_of_lt_of_le z8 hz)); (try (have z8 := Nat.lt_of_lt_of_le z9 hz)); (try (have z9 := Nat.lt_of_lt_of_le (Nat.lt_succ_self _) hz)); (try (have z0 : w.heap.size < w'.heap.size := by omega)); (try (have z1 : w.heap.size + 1 < w'.heap.size := by omega)); (try (have z2 : w.heap.size + 1 + 1 < w'.heap.size := by omega)); (try (have z3 : w.heap.size + 1 + 1 + 1 < w'.heap.size := by omega)); (try (have y1 : w1.heap.size < w'.heap.size := by omega)); (try (have y2 : w2.heap.size < w'.heap.size := by omega)); (try (have y3 : w3.heap.size < w'.heap.size := by omega)); (try (have y4 : w4.heap.size < w'.heap.size := by omega)); (try (have y5 : w5.heap.size < w'.heap.size := by omega)); (try (have y6 : w6.heap.size < w'.heap.size := by omega)))
  obtain ⟨w4, rfl⟩ : ∃ v, v = w' := ⟨_, rfl⟩
  go_wp2
  go_loopw [7] (fun K wr => lessI w4 Y odd K wr) (fun K _ => (intOf K).toNat)
  case atStart =>
    refine ⟨34, 0, 0, 0, 0, 0, rfl, rfl, by (repeat (first | exact Below.refl _ _ | refine bl_drewN ?_ | refine bl_drew ?_ | refine bl_alloc ?_ _ | refine Below.setCell ?_ (by (first | (simp; done) | (simp; omega) | omega)) _ | refine bl_step (by assumption) ?_)), by simp, ?_, NUM_zero, ?_, ?_, ?_, ?_⟩
    all_goals (simp [go_sem, *]; done)
  case round =>
    obtain ⟨j, m, u0, u1, u2, u3, hjm, rfl, hb, z, fz, nU, g0, g1, g2, g3⟩ := hrel
    obtain ⟨w', rfl⟩ : ∃ v, v = wr := ⟨_, rfl⟩
    (try replace hb := below_undrew hb); (try replace hb := below_undrewN hb); obtain ⟨hcell, hfroz⟩ := bcell hb; have hz := hb.size; (try simp at hz); (try (have z6 := Nat.lt_of_lt_of_le z7 hz)); (try (have z7 := Nat.lt_of_lt_of_le z8 hz)); (try (have z8 := Nat.lt_of_lt_of_le z9 hz)); (try (have z9 := Nat.lt_of_lt_of_le (Nat.lt_succ_self _) hz)); (try (have z0 : w.heap.size < w'.heap.size := by omega)); (try (have z1 : w.heap.size + 1 < w'.heap.size := by omega)); (try (have z2 : w.heap.size + 1 + 1 < w'.heap.size := by omega)); (try (have z3 : w.heap.size + 1 + 1 + 1 < w'.heap.size := by omega)); (try (have y1 : w1.heap.size < w'.heap.size := by omega)); (try (have y2 : w2.heap.size < w'.heap.size := by omega)); (try (have y3 : w3.heap.size < w'.heap.size := by omega)); (try (have y4 : w4.heap.size < w'.heap.size := by omega)); (try (have y5 : w5.heap.size < w'.heap.size := by omega)); (try (have y6 : w6.heap.size < w'.heap.size := by omega)); (try (have x1 : w1.heap.size + 1 < w'.heap.size := by omega)); (try (have x2 : w2.heap.size + 1 < w'.heap.size := by omega)); (try (have x3 : w3.heap.size + 1 < w'.heap.size := by omega)); (try (have x4 : w4.heap.size + 1 < w'.heap.size := by omega)); (try (have x5 : w5.heap.size + 1 < w'.heap.size := by omega)); (try (have x6 : w6.heap.size + 1 < w'.heap.size := by omega))
    obtain ⟨w6, rfl⟩ : ∃ v, v = w' := ⟨_, rfl⟩
    by_cases hj : 0 < j
    · obtain ⟨q0, q1, q2, q3, p0, p1, p2, p3, v0, v1, v2, v3, DQ, MP, SV, nV⟩ := round_calls Y odd m ya yb yc yd u0 u1 u2 u3 hY.out ⟨ho0, ho1⟩ (by omega) nY.out nU
      have hD := dTerm_is odd j m hjm ⟨ho0, ho1⟩ hj
      generalize dTerm odd (34 - m) = D at *
      replace nU := hidden nU
      replace nV := hidden nV
      have j34 : j ≤ 34 := by omega
      replace hjm := hidden hjm
      go_wp2_with (go_at_call 88; ((with_reducible refine (DQ.out _).mono ?_); rintro e w' ⟨rfl, hb⟩); (try replace hb := below_undrew hb); (try replace hb := below_undrewN hb); obtain ⟨hcell, hfroz⟩ := bcell hb; have hz := hb.size; (try simp at hz); (try (have z6 := Nat.lt_of_lt_of_le z7 hz)); (try (have z7 := Nat.lt_of_lt_of_le z8 hz)); (try (have z8 := Nat.lt_of_lt_of_le z9 hz)); (try (have z9 := Nat.lt_of_lt_of_le (Nat.lt_succ_self _) hz)); (try (have z0 : w.heap.size < w'.heap.size := by omega)); (try (have z1 : w.heap.size + 1 < w'.heap.size := by omega)); (try (have z2 : w.heap.size + 1 + 1 < w'.heap.size := by omega)); (try (have z3 : w.heap.size + 1 + 1 + 1 < w'.heap.size := by omega)); (try (have y1 : w1.heap.size < w'.heap.size := by omega)); (try (have y2 : w2.heap.size < w'.heap.size := by omega)); (try (have y3 : w3.heap.size < w'.heap.size := by omega)); (try (have y4 : w4.heap.size < w'.heap.size := by omega)); (try (have y5 : w5.heap.size < w'.heap.size := by omega)); (try (have y6 : w6.heap.size < w'.heap.size := by omega)); (try (have x1 : w1.heap.size + 1 < w'.heap.size := by omega)); (try (have x2 : w2.heap.size + 1 < w'.heap.size := by omega)); (try (have x3 : w3.heap.size + 1 < w'.heap.size := by omega)); (try (have x4 : w4.heap.size + 1 < w'.heap.size := by omega)); (try (have x5 : w5.heap.size + 1 < w'.heap.size := by omega)); (try (have x6 : w6.heap.size + 1 < w'.heap.size := by omega)); obtain ⟨w5, rfl⟩ : ∃ v, v = w' := ⟨_, rfl⟩)
      go_region_with (first | ((go_at_call 84; ((with_reducible refine (MP.out _).mono ?_); rintro e w' ⟨rfl, hb⟩); (try replace hb := below_undrew hb); (try replace hb := below_undrewN hb); obtain ⟨hcell, hfroz⟩ := bcell hb; have hz := hb.size; (try simp at hz); (try (have z6 := Nat.lt_of_lt_of_le z7 hz)); (try (have z7 := Nat.lt_of_lt_of_le z8 hz)); (try (have z8 := Nat.lt_of_lt_of_le z9 hz)); (try (have z9 := Nat.lt_of_lt_of_le (Nat.lt_succ_self _) hz)); (try (have z0 : w.heap.size < w'.heap.size := by omega)); (try (have z1 : w.heap.size + 1 < w'.heap.size := by omega)); (try (have z2 : w.heap.size + 1 + 1 < w'.heap.size := by omega)); (try (have z3 : w.heap.size + 1 + 1 + 1 < w'.heap.size := by omega)); (try (have y1 : w1.heap.size < w'.heap.size := by omega)); (try (have y2 : w2.heap.size < w'.heap.size := by omega)); (try (have y3 : w3.heap.size < w'.heap.size := by omega)); (try (have y4 : w4.heap.size < w'.heap.size := by omega)); (try (have y5 : w5.heap.size < w'.heap.size := by omega)); (try (have y6 : w6.heap.size < w'.heap.size := by omega)); (try (have x1 : w1.heap.size + 1 < w'.heap.size := by omega)); (try (have x2 : w2.heap.size + 1 < w'.heap.size := by omega)); (try (have x3 : w3.heap.size + 1 < w'.heap.size := by omega)); (try (have x4 : w4.heap.size + 1 < w'.heap.size := by omega)); (try (have x5 : w5.heap.size + 1 < w'.heap.size := by omega)); (try (have x6 : w6.heap.size + 1 < w'.heap.size := by omega)))) | ((go_at_call 83; ((with_reducible refine (SV.out _).mono ?_); rintro e w' ⟨rfl, hb⟩); (try replace hb := below_undrew hb); (try replace hb := below_undrewN hb); obtain ⟨hcell, hfroz⟩ := bcell hb; have hz := hb.size; (try simp at hz); (try (have z6 := Nat.lt_of_lt_of_le z7 hz)); (try (have z7 := Nat.lt_of_lt_of_le z8 hz)); (try (have z8 := Nat.lt_of_lt_of_le z9 hz)); (try (have z9 := Nat.lt_of_lt_of_le (Nat.lt_succ_self _) hz)); (try (have z0 : w.heap.size < w'.heap.size := by omega)); (try (have z1 : w.heap.size + 1 < w'.heap.size := by omega)); (try (have z2 : w.heap.size + 1 + 1 < w'.heap.size := by omega)); (try (have z3 : w.heap.size + 1 + 1 + 1 < w'.heap.size := by omega)); (try (have y1 : w1.heap.size < w'.heap.size := by omega)); (try (have y2 : w2.heap.size < w'.heap.size := by omega)); (try (have y3 : w3.heap.size < w'.heap.size := by omega)); (try (have y4 : w4.heap.size < w'.heap.size := by omega)); (try (have y5 : w5.heap.size < w'.heap.size := by omega)); (try (have y6 : w6.heap.size < w'.heap.size := by omega)); (try (have x1 : w1.heap.size + 1 < w'.heap.size := by omega)); (try (have x2 : w2.heap.size + 1 < w'.heap.size := by omega)); (try (have x3 : w3.heap.size + 1 < w'.heap.size := by omega)); (try (have x4 : w4.heap.size + 1 < w'.heap.size := by omega)); (try (have x5 : w5.heap.size + 1 < w'.heap.size := by omega)); (try (have x6 : w6.heap.size + 1 < w'.heap.size := by omega)))))
      all_goals go_wp2
      all_goals go_roundw
      all_goals (first
        | (exact less_rel hjm.out hj (by assumption) (by (repeat (first | exact Below.refl _ _ | refine bl_drewN ?_ | refine bl_drew ?_ | refine bl_alloc ?_ _ | refine Below.setCell ?_ (by (first | (simp; done) | (simp; omega) | omega)) _ | refine bl_step (by assumption) ?_))) z fz nV.out g0 g1 g2 g3)
        | (simp [intOf]; omega))
    · obtain rfl : j = 0 := by omega
      obtain rfl : m = 34 := by omega
      replace nU := hidden nU
      go_wp2
      exact bodyPost_ret (v := .agg #[.int .u64 u0, .int .u64 u1, .int .u64 u2, .int .u64 u3]) (by first | (simp only [results, Try.results85]; go_simp; done) | simp [results, Try.results85, go_sem, *]) rfl ⟨by rw [← hv.out]; exact congrArg _ nU.out.symm, by (repeat (first | exact Below.refl _ _ | refine bl_drewN ?_ | refine bl_drew ?_ | refine bl_alloc ?_ _ | refine Below.setCell ?_ (by (first | (simp; done) | (simp; omega) | omega)) _ | refine bl_step (by assumption) ?_))⟩

theorem less_any (X odd : Int) (w : World) (a0 : 0 ≤ X) (a1 : X < W256) (ho0 : 0 ≤ odd) (ho1 : odd ≤ 1) :
    Calls Try.prog 85 #[NUM X, .int .u64 odd] w fun e w' => e = .returned (NUM (lessV X odd)) ∧ Below w.heap.size w w' := by
  have m := mulV_bd X X a0 a1 a0 a1
  obtain ⟨xa, xb, xc, xd, _, _, _, _, _, nX⟩ := NUM_words X a0 a1
  obtain ⟨ya, yb, yc, yd, _, _, _, _, _, nY⟩ := NUM_words (mulV X X) m.1 m.2
  have MY := fun w => nmul_any X X w a0 a1 a0 a1
  rw [nX]
  refine less_walk odd (mulV X X) xa xb xc xd ya yb yc yd w m ho0 ho1 nY (hidden fun w => ?_) _ rfl
  rw [← nX, ← nY]
  exact (MY w).mono fun _ _ h => ⟨h.1, h.2.1⟩

end Go.Proofs.Ytjceofmhodcefaa
