/- The reference of layer 4: Quotient, as a contract. -/
import Derived.Test.YtbglnncejfhlmaaRef4e
namespace Go.Proofs.Ytbglnncejfhlmaa
open Go.RowKit

def bigB (x n y : Int) : Bool := decide (2 ≤ absI x / y) && decide (4194304 < absI n / 1048576 * (absI x / y))
theorem bigB_t {x n y : Int} (h : bigB x n y = true) : 2 ≤ absI x / y ∧ 4194304 < absI n / 1048576 * (absI x / y) := by simp [bigB] at h; exact h
theorem bigB_f {x n y : Int} (h : bigB x n y = false) : absI x / y < 2 ∨ absI n / 1048576 * (absI x / y) ≤ 4194304 := by
  rcases Int.lt_or_le (absI x / y) 2 with g | g
  · exact Or.inl g
  · right
    simp [bigB, g] at h; omega
theorem bigB_mk {x n y : Int} (h1 : 2 ≤ absI x / y) (h2 : 4194304 < absI n / 1048576 * (absI x / y)) : bigB x n y = true := by simp [bigB, h1, h2]
theorem bigB_no1 {x n y : Int} (h1 : ¬ 2 ≤ absI x / y) : bigB x n y = false := by simp [bigB, h1]
theorem bigB_no2 {x n y : Int} (h2 : ¬ 4194304 < absI n / 1048576 * (absI x / y)) : bigB x n y = false := by simp [bigB, h2]
theorem absI_neg {x : Int} (h : x < 0) : absI x = -x := by unfold absI; rw [if_pos h]
theorem absI_pos {x : Int} (h : ¬ x < 0) : absI x = x := by unfold absI; rw [if_neg h]

set_option maxHeartbeats 1000000 in
theorem big_any (x n y : Int) (w : World) (x0 : -2147483648 ≤ x) (x1 : x ≤ 2147483648) (n0 : -1099511627776 ≤ n) (n1 : n ≤ 1099511627776) (y0 : 1 ≤ y) (y1 : y ≤ 2147483648) :
    Calls Try.prog 64 #[.int .i64 x, .int .i64 n, .int .i64 y] w fun e w' => e = .returned (.bool (bigB x n y)) ∧ w = w' := by
  have X0 := absI_nn x
  have X1 : absI x ≤ 2147483648 := by unfold absI; split <;> omega
  have N1 : absI n ≤ 1099511627776 := by unfold absI; split <;> omega
  have N0 := absI_nn n
  have q0 : 0 ≤ absI x / y := Int.ediv_nonneg X0 (by omega)
  have q1 : absI x / y ≤ 2147483648 := by have := Int.ediv_le_self y X0; omega
  have tx := tdiv_abs x y
  have tn := tdiv_abs n 1048576
  have e1 : absI y = y := absI_pos (by omega)
  have e2 : absI 1048576 = 1048576 := absI_pos (by omega)
  have e3 : ¬ y < 0 := by omega
  rw [e1] at tx
  rw [e2] at tn
  have m0 : 0 ≤ absI n / 1048576 := by omega
  have m1 : absI n / 1048576 ≤ 1048576 := by omega
  have G : ∀ v, bigB x n y = v → Hid (bigB x n y = v) := fun v h => hidden h
  have k1 : 2 ≤ absI x / y → 4194304 < absI n / 1048576 * (absI x / y) → Hid (bigB x n y = true) := fun h1 h2 => hidden (bigB_mk h1 h2)
  have k2 : ¬ 4194304 < absI n / 1048576 * (absI x / y) → Hid (bigB x n y = false) := fun h2 => hidden (bigB_no2 h2)
  have k3 : ¬ 2 ≤ absI x / y → Hid (bigB x n y = false) := fun h1 => hidden (bigB_no1 h1)
  have kx : ¬ x < 0 → x / y = absI x / y := fun h => by rw [absI_pos h]
  have kn : ¬ n < 0 → n / 1048576 = absI n / 1048576 := fun h => by rw [absI_pos h]
  generalize absI x / y = Q at *
  generalize absI n / 1048576 = M at *
  have pb := mul_bd (X := 1048576) (Y := 2147483648) (x := M) (y := Q) (by omega) (by omega)
  have wr : IntKind.i64.wrap (M * Q) = M * Q := wrap_id (by omega) (by omega)
  clear X1 N1 X0 N0 G e1 e2
  by_cases hx : x < 0
  · simp [hx, e3] at tx
    clear kx
    by_cases hn : n < 0
    · simp [hn] at tn
      clear kn
      by_cases h1 : 2 ≤ Q
      · by_cases h2 : 4194304 < M * Q
        · have H := k1 h1 h2
          clear k1 k2 k3
          go_enter Try.func64, Try.ntmps64
          go_wp2
          go_ret
          exact ⟨by rw [H.out]; rfl, rfl⟩
        · have H := k2 h2
          clear k1 k2 k3
          go_enter Try.func64, Try.ntmps64
          go_wp2
          go_ret
          exact ⟨by rw [H.out]; rfl, rfl⟩
      · have H := k3 h1
        clear k1 k2 k3
        go_enter Try.func64, Try.ntmps64
        go_wp2
        go_ret
        exact ⟨by rw [H.out]; rfl, rfl⟩
    · have en := kn hn
      clear kn tn
      by_cases h1 : 2 ≤ Q
      · by_cases h2 : 4194304 < M * Q
        · have H := k1 h1 h2
          clear k1 k2 k3
          go_enter Try.func64, Try.ntmps64
          go_wp2
          go_ret
          exact ⟨by rw [H.out]; rfl, rfl⟩
        · have H := k2 h2
          clear k1 k2 k3
          go_enter Try.func64, Try.ntmps64
          go_wp2
          go_ret
          exact ⟨by rw [H.out]; rfl, rfl⟩
      · have H := k3 h1
        clear k1 k2 k3
        go_enter Try.func64, Try.ntmps64
        go_wp2
        go_ret
        exact ⟨by rw [H.out]; rfl, rfl⟩
  · have ex := kx hx
    clear kx tx
    by_cases hn : n < 0
    · simp [hn] at tn
      clear kn
      by_cases h1 : 2 ≤ Q
      · by_cases h2 : 4194304 < M * Q
        · have H := k1 h1 h2
          clear k1 k2 k3
          go_enter Try.func64, Try.ntmps64
          go_wp2
          go_ret
          exact ⟨by rw [H.out]; rfl, rfl⟩
        · have H := k2 h2
          clear k1 k2 k3
          go_enter Try.func64, Try.ntmps64
          go_wp2
          go_ret
          exact ⟨by rw [H.out]; rfl, rfl⟩
      · have H := k3 h1
        clear k1 k2 k3
        go_enter Try.func64, Try.ntmps64
        go_wp2
        go_ret
        exact ⟨by rw [H.out]; rfl, rfl⟩
    · have en := kn hn
      clear kn tn
      by_cases h1 : 2 ≤ Q
      · by_cases h2 : 4194304 < M * Q
        · have H := k1 h1 h2
          clear k1 k2 k3
          go_enter Try.func64, Try.ntmps64
          go_wp2
          go_ret
          exact ⟨by rw [H.out]; rfl, rfl⟩
        · have H := k2 h2
          clear k1 k2 k3
          go_enter Try.func64, Try.ntmps64
          go_wp2
          go_ret
          exact ⟨by rw [H.out]; rfl, rfl⟩
      · have H := k3 h1
        clear k1 k2 k3
        go_enter Try.func64, Try.ntmps64
        go_wp2
        go_ret
        exact ⟨by rw [H.out]; rfl, rfl⟩

theorem absI_mul (x n : Int) : absI (x * n) = absI x * absI n := by
  have e := Int.natAbs_mul x n
  have a : ∀ z : Int, absI z = (z.natAbs : Int) := fun z => by unfold absI; split <;> omega
  rw [a, a, a, e]; simp

theorem okC_of {x n y : Int} (x0 : -2147483648 ≤ x) (x1 : x ≤ 2147483648) (n0 : -1099511627776 ≤ n) (n1 : n ≤ 1099511627776) (y0 : 1 ≤ y) (h : bigB x n y = false) : okC x n y := by
  have X0 := absI_nn x
  have X1 : absI x ≤ 2147483648 := by unfold absI; split <;> omega
  have N1 : absI n ≤ 1099511627776 := by unfold absI; split <;> omega
  have N0 := absI_nn n
  have e := absI_mul x n
  have hx := Int.mul_ediv_add_emod (absI x) y
  have r0 := Int.emod_nonneg (absI x) (show y ≠ 0 by omega)
  have r1 := Int.emod_lt_of_pos (absI x) (show 0 < y by omega)
  have q0 : 0 ≤ absI x / y := Int.ediv_nonneg X0 (by omega)
  have q1 : absI x / y ≤ absI x := Int.ediv_le_self y X0
  have key : absI x * absI n ≤ 1152921504606846976 * y := by
    rcases bigB_f h with g | g
    · have : absI x ≤ 2 * y := by
        have : y * (absI x / y) ≤ y * 1 := Int.mul_le_mul_of_nonneg_left (by omega) (by omega)
        omega
      have := Int.mul_le_mul this N1 N0 (by omega)
      omega
    · generalize hf : absI x / y = f at *
      have hm : absI n ≤ (absI n / 1048576 + 1) * 1048576 := by omega
      have m0 : 0 ≤ absI n / 1048576 := by omega
      have m1 : absI n / 1048576 ≤ 1048576 := by omega
      generalize absI n / 1048576 = m at *
      have hx2 : absI x ≤ (f + 1) * y := by rw [Int.add_mul, Int.mul_comm f y]; omega
      have h1 := Int.mul_le_mul hx2 hm N0 (by have := Int.mul_nonneg (show 0 ≤ f + 1 by omega) (show 0 ≤ y by omega); omega)
      have e2 : (f + 1) * y * ((m + 1) * 1048576) = (m * f + m + f + 1) * 1048576 * y := by grind
      have h3 : (m * f + m + f + 1) * 1048576 * y ≤ 1152921504606846976 * y := Int.mul_le_mul_of_nonneg_right (by omega) (by omega)
      omega
  unfold okC
  rw [← e] at key
  unfold absI at key
  split at key <;> omega

theorem far_of {x n y : Int} (y0 : 1 ≤ y) (h : bigB x n y = true) : x * n / y < -1099511627776 ∨ 1099511627776 < -(-(x * n) / y) := by
  obtain ⟨h1, h2⟩ := bigB_t h
  have X0 := absI_nn x
  have N0 := absI_nn n
  have e := absI_mul x n
  have hx := Int.mul_ediv_add_emod (absI x) y
  have r0 := Int.emod_nonneg (absI x) (show y ≠ 0 by omega)
  generalize absI x / y = f at *
  have hm : absI n / 1048576 * 1048576 ≤ absI n := by omega
  have m0 : 0 ≤ absI n / 1048576 := by omega
  generalize absI n / 1048576 = m at *
  have hx2 : f * y ≤ absI x := by rw [Int.mul_comm]; omega
  have k1 := Int.mul_le_mul hx2 hm (by omega) X0
  have e2 : f * y * (m * 1048576) = m * f * 1048576 * y := by grind
  have k3 : 4194304 * 1048576 * y ≤ m * f * 1048576 * y := Int.mul_le_mul_of_nonneg_right (by omega) (by omega)
  have k4 : 4398046511104 * y ≤ absI (x * n) := by rw [e]; omega
  unfold absI at k4
  split at k4
  · left
    have : x * n / y < -1099511627776 := Int.ediv_lt_of_lt_mul (by omega) (by omega)
    exact this
  · right
    have : -(x * n) / y < -1099511627776 := Int.ediv_lt_of_lt_mul (by omega) (by omega)
    omega

theorem far_reach {a b c d n : Int} (c0 : 1 ≤ c) (h : bigB a n c = true ∨ bigB b n c = true) : (reachB (cLo a b c d n) && reachB (cHi a b c d n)) = false := by
  have k : cLo a b c d n < -1099511627776 ∨ 1099511627776 < cHi a b c d n := by
    rcases h with h | h <;> rcases far_of c0 h with g | g
    · left; unfold cLo; omega
    · right; unfold cHi; omega
    · left; unfold cLo; omega
    · right; unfold cHi; omega
  rcases k with k | k
  · rw [reachB_not (n := cLo a b c d n) (by omega)]; rfl
  · rw [reachB_not (n := cHi a b c d n) (by omega), Bool.and_false]

/-- the ends of a quotient times a number, if they reach -/
def quoV (L H : Int) : Value := if (reachB L && reachB H) = true then .tuple #[.int .i64 L, .int .i64 H, .int .i64 0] else .tuple #[.int .i64 0, .int .i64 0, .int .i64 5]
theorem quoV_ok {L H : Int} (h1 : reachB L = true) (h2 : reachB H = true) : quoV L H = .tuple #[.int .i64 L, .int .i64 H, .int .i64 0] := by unfold quoV; rw [h1, h2]; rfl
theorem quoV_no {L H : Int} (h : (reachB L && reachB H) = false) : quoV L H = .tuple #[.int .i64 0, .int .i64 0, .int .i64 5] := by unfold quoV; rw [h]; rfl

theorem quot4_range (a b c d n : Int) (w : World) (h : reachB n = false) :
    Calls Try.prog 40 #[.agg #[.int .i64 (a), .int .i64 (b)], .agg #[.int .i64 (c), .int .i64 (d)], .int .i64 n] w fun e w' => e = .returned (.tuple #[.int .i64 0, .int .i64 0, .int .i64 2]) ∧ Below w.heap.size w w' := by
  go_enter Try.func40, Try.ntmps40
  go_wp2_with (go_at_call 62; ((with_reducible refine (reaches_any _ _).mono ?_); rintro e w' ⟨rfl, rfl⟩))
  go_ret3
  exact ⟨rfl, by (repeat (first | exact Below.refl _ _ | refine bl_drewN ?_ | refine bl_drew ?_ | refine bl_alloc ?_ _ | refine Below.setCell ?_ (by (first | (simp; done) | (simp; omega) | omega)) _ | refine bl_step (by assumption) ?_))⟩

theorem quot4_zero (a b c d n : Int) (w : World) (h : reachB n = true) (hz : zeroB c d = true) :
    Calls Try.prog 40 #[.agg #[.int .i64 (a), .int .i64 (b)], .agg #[.int .i64 (c), .int .i64 (d)], .int .i64 n] w fun e w' => e = .returned (.tuple #[.int .i64 0, .int .i64 0, .int .i64 16]) ∧ Below w.heap.size w w' := by
  go_enter Try.func40, Try.ntmps40
  go_wp2_with (first | (go_at_call 62; ((with_reducible refine (reaches_any _ _).mono ?_); rintro e w' ⟨rfl, rfl⟩)) | (go_at_call 55; refine (zero4_any _ _ _).mono ?_; rintro e w' ⟨rfl, hb⟩; (try replace hb := below_undrew hb); (try replace hb := below_undrewN hb); obtain ⟨hcell, hfroz⟩ := bcell hb; have hz := hb.size; (try simp at hz); (try (have z6 := Nat.lt_of_lt_of_le z7 hz)); (try (have z7 := Nat.lt_of_lt_of_le z8 hz)); (try (have z8 := Nat.lt_of_lt_of_le z9 hz)); (try (have z9 := Nat.lt_of_lt_of_le (Nat.lt_succ_self _) hz)); (try (have z0 : w.heap.size < w'.heap.size := by omega)); (try (have z1 : w.heap.size + 1 < w'.heap.size := by omega)); (try (have z2 : w.heap.size + 1 + 1 < w'.heap.size := by omega)); (try (have z3 : w.heap.size + 1 + 1 + 1 < w'.heap.size := by omega)); (try (have y1 : w1.heap.size < w'.heap.size := by omega)); (try (have y2 : w2.heap.size < w'.heap.size := by omega)); (try (have y3 : w3.heap.size < w'.heap.size := by omega)); (try (have y4 : w4.heap.size < w'.heap.size := by omega)); (try (have y5 : w5.heap.size < w'.heap.size := by omega)); (try (have y6 : w6.heap.size < w'.heap.size := by omega))))
  go_ret3
  exact ⟨rfl, by (repeat (first | exact Below.refl _ _ | refine bl_drewN ?_ | refine bl_drew ?_ | refine bl_alloc ?_ _ | refine Below.setCell ?_ (by (first | (simp; done) | (simp; omega) | omega)) _ | refine bl_step (by assumption) ?_))⟩

set_option maxHeartbeats 2000000 in
theorem quot4_big1 (a b c d n A B C D : Int) (w : World) (h : reachB n = true) (hz : zeroB c d = false)
    (T : Hid (∀ w, Calls Try.prog 56 #[.agg #[.int .i64 (a), .int .i64 (b)], .agg #[.int .i64 (c), .int .i64 (d)]] w fun e w' => e = .returned (.tuple #[.agg #[.int .i64 (A), .int .i64 (B)], .agg #[.int .i64 (C), .int .i64 (D)]]) ∧ Below w.heap.size w w'))
    (A1 : -2147483648 ≤ A) (A2 : A ≤ B) (A3 : B ≤ 2147483648) (C1 : 1 ≤ C) (C2 : C ≤ D) (C3 : D ≤ 2147483648) (g1 : bigB A n C = true) :
    Calls Try.prog 40 #[.agg #[.int .i64 (a), .int .i64 (b)], .agg #[.int .i64 (c), .int .i64 (d)], .int .i64 n] w fun e w' => e = .returned (.tuple #[.int .i64 0, .int .i64 0, .int .i64 5]) ∧ Below w.heap.size w w' := by
  obtain ⟨n0, n1⟩ := reachB_t h
  go_enter Try.func40, Try.ntmps40
  go_wp2_with (first | (go_at_call 62; ((with_reducible refine (reaches_any _ _).mono ?_); rintro e w' ⟨rfl, rfl⟩)) | (go_at_call 55; refine (zero4_any _ _ _).mono ?_; rintro e w' ⟨rfl, hb⟩; (try replace hb := below_undrew hb); (try replace hb := below_undrewN hb); obtain ⟨hcell, hfroz⟩ := bcell hb; have hz := hb.size; (try simp at hz); (try (have z6 := Nat.lt_of_lt_of_le z7 hz)); (try (have z7 := Nat.lt_of_lt_of_le z8 hz)); (try (have z8 := Nat.lt_of_lt_of_le z9 hz)); (try (have z9 := Nat.lt_of_lt_of_le (Nat.lt_succ_self _) hz)); (try (have z0 : w.heap.size < w'.heap.size := by omega)); (try (have z1 : w.heap.size + 1 < w'.heap.size := by omega)); (try (have z2 : w.heap.size + 1 + 1 < w'.heap.size := by omega)); (try (have z3 : w.heap.size + 1 + 1 + 1 < w'.heap.size := by omega)); (try (have y1 : w1.heap.size < w'.heap.size := by omega)); (try (have y2 : w2.heap.size < w'.heap.size := by omega)); (try (have y3 : w3.heap.size < w'.heap.size := by omega)); (try (have y4 : w4.heap.size < w'.heap.size := by omega)); (try (have y5 : w5.heap.size < w'.heap.size := by omega)); (try (have y6 : w6.heap.size < w'.heap.size := by omega))) | (go_at_call 56; ((with_reducible refine (T.out _).mono ?_); rintro e w' ⟨rfl, hb⟩); (try replace hb := below_undrew hb); (try replace hb := below_undrewN hb); obtain ⟨hcell, hfroz⟩ := bcell hb; have hz := hb.size; (try simp at hz); (try (have z6 := Nat.lt_of_lt_of_le z7 hz)); (try (have z7 := Nat.lt_of_lt_of_le z8 hz)); (try (have z8 := Nat.lt_of_lt_of_le z9 hz)); (try (have z9 := Nat.lt_of_lt_of_le (Nat.lt_succ_self _) hz)); (try (have z0 : w.heap.size < w'.heap.size := by omega)); (try (have z1 : w.heap.size + 1 < w'.heap.size := by omega)); (try (have z2 : w.heap.size + 1 + 1 < w'.heap.size := by omega)); (try (have z3 : w.heap.size + 1 + 1 + 1 < w'.heap.size := by omega)); (try (have y1 : w1.heap.size < w'.heap.size := by omega)); (try (have y2 : w2.heap.size < w'.heap.size := by omega)); (try (have y3 : w3.heap.size < w'.heap.size := by omega)); (try (have y4 : w4.heap.size < w'.heap.size := by omega)); (try (have y5 : w5.heap.size < w'.heap.size := by omega)); (try (have y6 : w6.heap.size < w'.heap.size := by omega)); (try (have x1 : w1.heap.size + 1 < w'.heap.size := by omega)); (try (have x2 : w2.heap.size + 1 < w'.heap.size := by omega)); (try (have x3 : w3.heap.size + 1 < w'.heap.size := by omega)); (try (have x4 : w4.heap.size + 1 < w'.heap.size := by omega)); (try (have x5 : w5.heap.size + 1 < w'.heap.size := by omega)); (try (have x6 : w6.heap.size + 1 < w'.heap.size := by omega))) | (go_at_call 64; ((with_reducible refine (big_any _ _ _ _ (by omega) (by omega) n0 n1 (by omega) (by omega)).mono ?_); rintro e w' ⟨rfl, rfl⟩)))
  go_ret3
  exact ⟨rfl, by (repeat (first | exact Below.refl _ _ | refine bl_drewN ?_ | refine bl_drew ?_ | refine bl_alloc ?_ _ | refine Below.setCell ?_ (by (first | (simp; done) | (simp; omega) | omega)) _ | refine bl_step (by assumption) ?_))⟩

set_option maxHeartbeats 2000000 in
theorem quot4_big2 (a b c d n A B C D : Int) (w : World) (h : reachB n = true) (hz : zeroB c d = false)
    (T : Hid (∀ w, Calls Try.prog 56 #[.agg #[.int .i64 (a), .int .i64 (b)], .agg #[.int .i64 (c), .int .i64 (d)]] w fun e w' => e = .returned (.tuple #[.agg #[.int .i64 (A), .int .i64 (B)], .agg #[.int .i64 (C), .int .i64 (D)]]) ∧ Below w.heap.size w w'))
    (A1 : -2147483648 ≤ A) (A2 : A ≤ B) (A3 : B ≤ 2147483648) (C1 : 1 ≤ C) (C2 : C ≤ D) (C3 : D ≤ 2147483648) (g1 : bigB A n C = false) (g2 : bigB B n C = true) :
    Calls Try.prog 40 #[.agg #[.int .i64 (a), .int .i64 (b)], .agg #[.int .i64 (c), .int .i64 (d)], .int .i64 n] w fun e w' => e = .returned (.tuple #[.int .i64 0, .int .i64 0, .int .i64 5]) ∧ Below w.heap.size w w' := by
  obtain ⟨n0, n1⟩ := reachB_t h
  go_enter Try.func40, Try.ntmps40
  go_wp2_with (first | (go_at_call 62; ((with_reducible refine (reaches_any _ _).mono ?_); rintro e w' ⟨rfl, rfl⟩)) | (go_at_call 55; refine (zero4_any _ _ _).mono ?_; rintro e w' ⟨rfl, hb⟩; (try replace hb := below_undrew hb); (try replace hb := below_undrewN hb); obtain ⟨hcell, hfroz⟩ := bcell hb; have hz := hb.size; (try simp at hz); (try (have z6 := Nat.lt_of_lt_of_le z7 hz)); (try (have z7 := Nat.lt_of_lt_of_le z8 hz)); (try (have z8 := Nat.lt_of_lt_of_le z9 hz)); (try (have z9 := Nat.lt_of_lt_of_le (Nat.lt_succ_self _) hz)); (try (have z0 : w.heap.size < w'.heap.size := by omega)); (try (have z1 : w.heap.size + 1 < w'.heap.size := by omega)); (try (have z2 : w.heap.size + 1 + 1 < w'.heap.size := by omega)); (try (have z3 : w.heap.size + 1 + 1 + 1 < w'.heap.size := by omega)); (try (have y1 : w1.heap.size < w'.heap.size := by omega)); (try (have y2 : w2.heap.size < w'.heap.size := by omega)); (try (have y3 : w3.heap.size < w'.heap.size := by omega)); (try (have y4 : w4.heap.size < w'.heap.size := by omega)); (try (have y5 : w5.heap.size < w'.heap.size := by omega)); (try (have y6 : w6.heap.size < w'.heap.size := by omega))) | (go_at_call 56; ((with_reducible refine (T.out _).mono ?_); rintro e w' ⟨rfl, hb⟩); (try replace hb := below_undrew hb); (try replace hb := below_undrewN hb); obtain ⟨hcell, hfroz⟩ := bcell hb; have hz := hb.size; (try simp at hz); (try (have z6 := Nat.lt_of_lt_of_le z7 hz)); (try (have z7 := Nat.lt_of_lt_of_le z8 hz)); (try (have z8 := Nat.lt_of_lt_of_le z9 hz)); (try (have z9 := Nat.lt_of_lt_of_le (Nat.lt_succ_self _) hz)); (try (have z0 : w.heap.size < w'.heap.size := by omega)); (try (have z1 : w.heap.size + 1 < w'.heap.size := by omega)); (try (have z2 : w.heap.size + 1 + 1 < w'.heap.size := by omega)); (try (have z3 : w.heap.size + 1 + 1 + 1 < w'.heap.size := by omega)); (try (have y1 : w1.heap.size < w'.heap.size := by omega)); (try (have y2 : w2.heap.size < w'.heap.size := by omega)); (try (have y3 : w3.heap.size < w'.heap.size := by omega)); (try (have y4 : w4.heap.size < w'.heap.size := by omega)); (try (have y5 : w5.heap.size < w'.heap.size := by omega)); (try (have y6 : w6.heap.size < w'.heap.size := by omega)); (try (have x1 : w1.heap.size + 1 < w'.heap.size := by omega)); (try (have x2 : w2.heap.size + 1 < w'.heap.size := by omega)); (try (have x3 : w3.heap.size + 1 < w'.heap.size := by omega)); (try (have x4 : w4.heap.size + 1 < w'.heap.size := by omega)); (try (have x5 : w5.heap.size + 1 < w'.heap.size := by omega)); (try (have x6 : w6.heap.size + 1 < w'.heap.size := by omega))) | (go_at_call 64; ((with_reducible refine (big_any _ _ _ _ (by omega) (by omega) n0 n1 (by omega) (by omega)).mono ?_); rintro e w' ⟨rfl, rfl⟩)))
  go_ret3
  exact ⟨rfl, by (repeat (first | exact Below.refl _ _ | refine bl_drewN ?_ | refine bl_drew ?_ | refine bl_alloc ?_ _ | refine Below.setCell ?_ (by (first | (simp; done) | (simp; omega) | omega)) _ | refine bl_step (by assumption) ?_))⟩

set_option maxHeartbeats 2000000 in
theorem quot4_ok (a b c d n A B C D : Int) (w : World) (h : reachB n = true) (hz : zeroB c d = false)
    (T : Hid (∀ w, Calls Try.prog 56 #[.agg #[.int .i64 (a), .int .i64 (b)], .agg #[.int .i64 (c), .int .i64 (d)]] w fun e w' => e = .returned (.tuple #[.agg #[.int .i64 (A), .int .i64 (B)], .agg #[.int .i64 (C), .int .i64 (D)]]) ∧ Below w.heap.size w w'))
    (A1 : -2147483648 ≤ A) (A2 : A ≤ B) (A3 : B ≤ 2147483648) (C1 : 1 ≤ C) (C2 : C ≤ D) (C3 : D ≤ 2147483648) (L H : Int) (hL : cLo A B C D n = L) (hH : cHi A B C D n = H) (g1 : bigB A n C = false) (g2 : bigB B n C = false) (r1 : reachB L = true) (r2 : reachB H = true) :
    Calls Try.prog 40 #[.agg #[.int .i64 (a), .int .i64 (b)], .agg #[.int .i64 (c), .int .i64 (d)], .int .i64 n] w fun e w' => e = .returned (.tuple #[.int .i64 L, .int .i64 H, .int .i64 0]) ∧ Below w.heap.size w w' := by
  obtain ⟨n0, n1⟩ := reachB_t h
  have K := fun w => corners_any A B C D n w (by omega) (by omega) (by omega) (by omega) C1 C2 C3 n0 n1 (okC_of (by omega) (by omega) n0 n1 C1 g1) (okC_of (by omega) (by omega) n0 n1 C1 g2)
  rw [hL, hH] at K
  replace K := hidden K
  clear hL hH
  go_enter Try.func40, Try.ntmps40
  go_wp2_with (first | (go_at_call 62; ((with_reducible refine (reaches_any _ _).mono ?_); rintro e w' ⟨rfl, rfl⟩)) | (go_at_call 55; refine (zero4_any _ _ _).mono ?_; rintro e w' ⟨rfl, hb⟩; (try replace hb := below_undrew hb); (try replace hb := below_undrewN hb); obtain ⟨hcell, hfroz⟩ := bcell hb; have hz := hb.size; (try simp at hz); (try (have z6 := Nat.lt_of_lt_of_le z7 hz)); (try (have z7 := Nat.lt_of_lt_of_le z8 hz)); (try (have z8 := Nat.lt_of_lt_of_le z9 hz)); (try (have z9 := Nat.lt_of_lt_of_le (Nat.lt_succ_self _) hz)); (try (have z0 : w.heap.size < w'.heap.size := by omega)); (try (have z1 : w.heap.size + 1 < w'.heap.size := by omega)); (try (have z2 : w.heap.size + 1 + 1 < w'.heap.size := by omega)); (try (have z3 : w.heap.size + 1 + 1 + 1 < w'.heap.size := by omega)); (try (have y1 : w1.heap.size < w'.heap.size := by omega)); (try (have y2 : w2.heap.size < w'.heap.size := by omega)); (try (have y3 : w3.heap.size < w'.heap.size := by omega)); (try (have y4 : w4.heap.size < w'.heap.size := by omega)); (try (have y5 : w5.heap.size < w'.heap.size := by omega)); (try (have y6 : w6.heap.size < w'.heap.size := by omega))) | (go_at_call 56; ((with_reducible refine (T.out _).mono ?_); rintro e w' ⟨rfl, hb⟩); (try replace hb := below_undrew hb); (try replace hb := below_undrewN hb); obtain ⟨hcell, hfroz⟩ := bcell hb; have hz := hb.size; (try simp at hz); (try (have z6 := Nat.lt_of_lt_of_le z7 hz)); (try (have z7 := Nat.lt_of_lt_of_le z8 hz)); (try (have z8 := Nat.lt_of_lt_of_le z9 hz)); (try (have z9 := Nat.lt_of_lt_of_le (Nat.lt_succ_self _) hz)); (try (have z0 : w.heap.size < w'.heap.size := by omega)); (try (have z1 : w.heap.size + 1 < w'.heap.size := by omega)); (try (have z2 : w.heap.size + 1 + 1 < w'.heap.size := by omega)); (try (have z3 : w.heap.size + 1 + 1 + 1 < w'.heap.size := by omega)); (try (have y1 : w1.heap.size < w'.heap.size := by omega)); (try (have y2 : w2.heap.size < w'.heap.size := by omega)); (try (have y3 : w3.heap.size < w'.heap.size := by omega)); (try (have y4 : w4.heap.size < w'.heap.size := by omega)); (try (have y5 : w5.heap.size < w'.heap.size := by omega)); (try (have y6 : w6.heap.size < w'.heap.size := by omega)); (try (have x1 : w1.heap.size + 1 < w'.heap.size := by omega)); (try (have x2 : w2.heap.size + 1 < w'.heap.size := by omega)); (try (have x3 : w3.heap.size + 1 < w'.heap.size := by omega)); (try (have x4 : w4.heap.size + 1 < w'.heap.size := by omega)); (try (have x5 : w5.heap.size + 1 < w'.heap.size := by omega)); (try (have x6 : w6.heap.size + 1 < w'.heap.size := by omega))) | (go_at_call 64; ((with_reducible refine (big_any _ _ _ _ (by omega) (by omega) n0 n1 (by omega) (by omega)).mono ?_); rintro e w' ⟨rfl, rfl⟩)) | (go_at_call 63; ((with_reducible refine (K.out _).mono ?_); rintro e w' ⟨rfl, hb⟩); (try replace hb := below_undrew hb); (try replace hb := below_undrewN hb); obtain ⟨hcell, hfroz⟩ := bcell hb; have hz := hb.size; (try simp at hz); (try (have z6 := Nat.lt_of_lt_of_le z7 hz)); (try (have z7 := Nat.lt_of_lt_of_le z8 hz)); (try (have z8 := Nat.lt_of_lt_of_le z9 hz)); (try (have z9 := Nat.lt_of_lt_of_le (Nat.lt_succ_self _) hz)); (try (have z0 : w.heap.size < w'.heap.size := by omega)); (try (have z1 : w.heap.size + 1 < w'.heap.size := by omega)); (try (have z2 : w.heap.size + 1 + 1 < w'.heap.size := by omega)); (try (have z3 : w.heap.size + 1 + 1 + 1 < w'.heap.size := by omega)); (try (have y1 : w1.heap.size < w'.heap.size := by omega)); (try (have y2 : w2.heap.size < w'.heap.size := by omega)); (try (have y3 : w3.heap.size < w'.heap.size := by omega)); (try (have y4 : w4.heap.size < w'.heap.size := by omega)); (try (have y5 : w5.heap.size < w'.heap.size := by omega)); (try (have y6 : w6.heap.size < w'.heap.size := by omega)); (try (have x1 : w1.heap.size + 1 < w'.heap.size := by omega)); (try (have x2 : w2.heap.size + 1 < w'.heap.size := by omega)); (try (have x3 : w3.heap.size + 1 < w'.heap.size := by omega)); (try (have x4 : w4.heap.size + 1 < w'.heap.size := by omega)); (try (have x5 : w5.heap.size + 1 < w'.heap.size := by omega)); (try (have x6 : w6.heap.size + 1 < w'.heap.size := by omega))))
  go_ret3
  exact ⟨rfl, by (repeat (first | exact Below.refl _ _ | refine bl_drewN ?_ | refine bl_drew ?_ | refine bl_alloc ?_ _ | refine Below.setCell ?_ (by (first | (simp; done) | (simp; omega) | omega)) _ | refine bl_step (by assumption) ?_))⟩

set_option maxHeartbeats 2000000 in
theorem quot4_no1 (a b c d n A B C D : Int) (w : World) (h : reachB n = true) (hz : zeroB c d = false)
    (T : Hid (∀ w, Calls Try.prog 56 #[.agg #[.int .i64 (a), .int .i64 (b)], .agg #[.int .i64 (c), .int .i64 (d)]] w fun e w' => e = .returned (.tuple #[.agg #[.int .i64 (A), .int .i64 (B)], .agg #[.int .i64 (C), .int .i64 (D)]]) ∧ Below w.heap.size w w'))
    (A1 : -2147483648 ≤ A) (A2 : A ≤ B) (A3 : B ≤ 2147483648) (C1 : 1 ≤ C) (C2 : C ≤ D) (C3 : D ≤ 2147483648) (L H : Int) (hL : cLo A B C D n = L) (hH : cHi A B C D n = H) (g1 : bigB A n C = false) (g2 : bigB B n C = false) (r1 : reachB L = false) :
    Calls Try.prog 40 #[.agg #[.int .i64 (a), .int .i64 (b)], .agg #[.int .i64 (c), .int .i64 (d)], .int .i64 n] w fun e w' => e = .returned (.tuple #[.int .i64 0, .int .i64 0, .int .i64 5]) ∧ Below w.heap.size w w' := by
  obtain ⟨n0, n1⟩ := reachB_t h
  have K := fun w => corners_any A B C D n w (by omega) (by omega) (by omega) (by omega) C1 C2 C3 n0 n1 (okC_of (by omega) (by omega) n0 n1 C1 g1) (okC_of (by omega) (by omega) n0 n1 C1 g2)
  rw [hL, hH] at K
  replace K := hidden K
  clear hL hH
  go_enter Try.func40, Try.ntmps40
  go_wp2_with (first | (go_at_call 62; ((with_reducible refine (reaches_any _ _).mono ?_); rintro e w' ⟨rfl, rfl⟩)) | (go_at_call 55; refine (zero4_any _ _ _).mono ?_; rintro e w' ⟨rfl, hb⟩; (try replace hb := below_undrew hb); (try replace hb := below_undrewN hb); obtain ⟨hcell, hfroz⟩ := bcell hb; have hz := hb.size; (try simp at hz); (try (have z6 := Nat.lt_of_lt_of_le z7 hz)); (try (have z7 := Nat.lt_of_lt_of_le z8 hz)); (try (have z8 := Nat.lt_of_lt_of_le z9 hz)); (try (have z9 := Nat.lt_of_lt_of_le (Nat.lt_succ_self _) hz)); (try (have z0 : w.heap.size < w'.heap.size := by omega)); (try (have z1 : w.heap.size + 1 < w'.heap.size := by omega)); (try (have z2 : w.heap.size + 1 + 1 < w'.heap.size := by omega)); (try (have z3 : w.heap.size + 1 + 1 + 1 < w'.heap.size := by omega)); (try (have y1 : w1.heap.size < w'.heap.size := by omega)); (try (have y2 : w2.heap.size < w'.heap.size := by omega)); (try (have y3 : w3.heap.size < w'.heap.size := by omega)); (try (have y4 : w4.heap.size < w'.heap.size := by omega)); (try (have y5 : w5.heap.size < w'.heap.size := by omega)); (try (have y6 : w6.heap.size < w'.heap.size := by omega))) | (go_at_call 56; ((with_reducible refine (T.out _).mono ?_); rintro e w' ⟨rfl, hb⟩); (try replace hb := below_undrew hb); (try replace hb := below_undrewN hb); obtain ⟨hcell, hfroz⟩ := bcell hb; have hz := hb.size; (try simp at hz); (try (have z6 := Nat.lt_of_lt_of_le z7 hz)); (try (have z7 := Nat.lt_of_lt_of_le z8 hz)); (try (have z8 := Nat.lt_of_lt_of_le z9 hz)); (try (have z9 := Nat.lt_of_lt_of_le (Nat.lt_succ_self _) hz)); (try (have z0 : w.heap.size < w'.heap.size := by omega)); (try (have z1 : w.heap.size + 1 < w'.heap.size := by omega)); (try (have z2 : w.heap.size + 1 + 1 < w'.heap.size := by omega)); (try (have z3 : w.heap.size + 1 + 1 + 1 < w'.heap.size := by omega)); (try (have y1 : w1.heap.size < w'.heap.size := by omega)); (try (have y2 : w2.heap.size < w'.heap.size := by omega)); (try (have y3 : w3.heap.size < w'.heap.size := by omega)); (try (have y4 : w4.heap.size < w'.heap.size := by omega)); (try (have y5 : w5.heap.size < w'.heap.size := by omega)); (try (have y6 : w6.heap.size < w'.heap.size := by omega)); (try (have x1 : w1.heap.size + 1 < w'.heap.size := by omega)); (try (have x2 : w2.heap.size + 1 < w'.heap.size := by omega)); (try (have x3 : w3.heap.size + 1 < w'.heap.size := by omega)); (try (have x4 : w4.heap.size + 1 < w'.heap.size := by omega)); (try (have x5 : w5.heap.size + 1 < w'.heap.size := by omega)); (try (have x6 : w6.heap.size + 1 < w'.heap.size := by omega))) | (go_at_call 64; ((with_reducible refine (big_any _ _ _ _ (by omega) (by omega) n0 n1 (by omega) (by omega)).mono ?_); rintro e w' ⟨rfl, rfl⟩)) | (go_at_call 63; ((with_reducible refine (K.out _).mono ?_); rintro e w' ⟨rfl, hb⟩); (try replace hb := below_undrew hb); (try replace hb := below_undrewN hb); obtain ⟨hcell, hfroz⟩ := bcell hb; have hz := hb.size; (try simp at hz); (try (have z6 := Nat.lt_of_lt_of_le z7 hz)); (try (have z7 := Nat.lt_of_lt_of_le z8 hz)); (try (have z8 := Nat.lt_of_lt_of_le z9 hz)); (try (have z9 := Nat.lt_of_lt_of_le (Nat.lt_succ_self _) hz)); (try (have z0 : w.heap.size < w'.heap.size := by omega)); (try (have z1 : w.heap.size + 1 < w'.heap.size := by omega)); (try (have z2 : w.heap.size + 1 + 1 < w'.heap.size := by omega)); (try (have z3 : w.heap.size + 1 + 1 + 1 < w'.heap.size := by omega)); (try (have y1 : w1.heap.size < w'.heap.size := by omega)); (try (have y2 : w2.heap.size < w'.heap.size := by omega)); (try (have y3 : w3.heap.size < w'.heap.size := by omega)); (try (have y4 : w4.heap.size < w'.heap.size := by omega)); (try (have y5 : w5.heap.size < w'.heap.size := by omega)); (try (have y6 : w6.heap.size < w'.heap.size := by omega)); (try (have x1 : w1.heap.size + 1 < w'.heap.size := by omega)); (try (have x2 : w2.heap.size + 1 < w'.heap.size := by omega)); (try (have x3 : w3.heap.size + 1 < w'.heap.size := by omega)); (try (have x4 : w4.heap.size + 1 < w'.heap.size := by omega)); (try (have x5 : w5.heap.size + 1 < w'.heap.size := by omega)); (try (have x6 : w6.heap.size + 1 < w'.heap.size := by omega))))
  go_ret3
  exact ⟨rfl, by (repeat (first | exact Below.refl _ _ | refine bl_drewN ?_ | refine bl_drew ?_ | refine bl_alloc ?_ _ | refine Below.setCell ?_ (by (first | (simp; done) | (simp; omega) | omega)) _ | refine bl_step (by assumption) ?_))⟩

set_option maxHeartbeats 2000000 in
theorem quot4_no2 (a b c d n A B C D : Int) (w : World) (h : reachB n = true) (hz : zeroB c d = false)
    (T : Hid (∀ w, Calls Try.prog 56 #[.agg #[.int .i64 (a), .int .i64 (b)], .agg #[.int .i64 (c), .int .i64 (d)]] w fun e w' => e = .returned (.tuple #[.agg #[.int .i64 (A), .int .i64 (B)], .agg #[.int .i64 (C), .int .i64 (D)]]) ∧ Below w.heap.size w w'))
    (A1 : -2147483648 ≤ A) (A2 : A ≤ B) (A3 : B ≤ 2147483648) (C1 : 1 ≤ C) (C2 : C ≤ D) (C3 : D ≤ 2147483648) (L H : Int) (hL : cLo A B C D n = L) (hH : cHi A B C D n = H) (g1 : bigB A n C = false) (g2 : bigB B n C = false) (r1 : reachB L = true) (r2 : reachB H = false) :
    Calls Try.prog 40 #[.agg #[.int .i64 (a), .int .i64 (b)], .agg #[.int .i64 (c), .int .i64 (d)], .int .i64 n] w fun e w' => e = .returned (.tuple #[.int .i64 0, .int .i64 0, .int .i64 5]) ∧ Below w.heap.size w w' := by
  obtain ⟨n0, n1⟩ := reachB_t h
  have K := fun w => corners_any A B C D n w (by omega) (by omega) (by omega) (by omega) C1 C2 C3 n0 n1 (okC_of (by omega) (by omega) n0 n1 C1 g1) (okC_of (by omega) (by omega) n0 n1 C1 g2)
  rw [hL, hH] at K
  replace K := hidden K
  clear hL hH
  go_enter Try.func40, Try.ntmps40
  go_wp2_with (first | (go_at_call 62; ((with_reducible refine (reaches_any _ _).mono ?_); rintro e w' ⟨rfl, rfl⟩)) | (go_at_call 55; refine (zero4_any _ _ _).mono ?_; rintro e w' ⟨rfl, hb⟩; (try replace hb := below_undrew hb); (try replace hb := below_undrewN hb); obtain ⟨hcell, hfroz⟩ := bcell hb; have hz := hb.size; (try simp at hz); (try (have z6 := Nat.lt_of_lt_of_le z7 hz)); (try (have z7 := Nat.lt_of_lt_of_le z8 hz)); (try (have z8 := Nat.lt_of_lt_of_le z9 hz)); (try (have z9 := Nat.lt_of_lt_of_le (Nat.lt_succ_self _) hz)); (try (have z0 : w.heap.size < w'.heap.size := by omega)); (try (have z1 : w.heap.size + 1 < w'.heap.size := by omega)); (try (have z2 : w.heap.size + 1 + 1 < w'.heap.size := by omega)); (try (have z3 : w.heap.size + 1 + 1 + 1 < w'.heap.size := by omega)); (try (have y1 : w1.heap.size < w'.heap.size := by omega)); (try (have y2 : w2.heap.size < w'.heap.size := by omega)); (try (have y3 : w3.heap.size < w'.heap.size := by omega)); (try (have y4 : w4.heap.size < w'.heap.size := by omega)); (try (have y5 : w5.heap.size < w'.heap.size := by omega)); (try (have y6 : w6.heap.size < w'.heap.size := by omega))) | (go_at_call 56; ((with_reducible refine (T.out _).mono ?_); rintro e w' ⟨rfl, hb⟩); (try replace hb := below_undrew hb); (try replace hb := below_undrewN hb); obtain ⟨hcell, hfroz⟩ := bcell hb; have hz := hb.size; (try simp at hz); (try (have z6 := Nat.lt_of_lt_of_le z7 hz)); (try (have z7 := Nat.lt_of_lt_of_le z8 hz)); (try (have z8 := Nat.lt_of_lt_of_le z9 hz)); (try (have z9 := Nat.lt_of_lt_of_le (Nat.lt_succ_self _) hz)); (try (have z0 : w.heap.size < w'.heap.size := by omega)); (try (have z1 : w.heap.size + 1 < w'.heap.size := by omega)); (try (have z2 : w.heap.size + 1 + 1 < w'.heap.size := by omega)); (try (have z3 : w.heap.size + 1 + 1 + 1 < w'.heap.size := by omega)); (try (have y1 : w1.heap.size < w'.heap.size := by omega)); (try (have y2 : w2.heap.size < w'.heap.size := by omega)); (try (have y3 : w3.heap.size < w'.heap.size := by omega)); (try (have y4 : w4.heap.size < w'.heap.size := by omega)); (try (have y5 : w5.heap.size < w'.heap.size := by omega)); (try (have y6 : w6.heap.size < w'.heap.size := by omega)); (try (have x1 : w1.heap.size + 1 < w'.heap.size := by omega)); (try (have x2 : w2.heap.size + 1 < w'.heap.size := by omega)); (try (have x3 : w3.heap.size + 1 < w'.heap.size := by omega)); (try (have x4 : w4.heap.size + 1 < w'.heap.size := by omega)); (try (have x5 : w5.heap.size + 1 < w'.heap.size := by omega)); (try (have x6 : w6.heap.size + 1 < w'.heap.size := by omega))) | (go_at_call 64; ((with_reducible refine (big_any _ _ _ _ (by omega) (by omega) n0 n1 (by omega) (by omega)).mono ?_); rintro e w' ⟨rfl, rfl⟩)) | (go_at_call 63; ((with_reducible refine (K.out _).mono ?_); rintro e w' ⟨rfl, hb⟩); (try replace hb := below_undrew hb); (try replace hb := below_undrewN hb); obtain ⟨hcell, hfroz⟩ := bcell hb; have hz := hb.size; (try simp at hz); (try (have z6 := Nat.lt_of_lt_of_le z7 hz)); (try (have z7 := Nat.lt_of_lt_of_le z8 hz)); (try (have z8 := Nat.lt_of_lt_of_le z9 hz)); (try (have z9 := Nat.lt_of_lt_of_le (Nat.lt_succ_self _) hz)); (try (have z0 : w.heap.size < w'.heap.size := by omega)); (try (have z1 : w.heap.size + 1 < w'.heap.size := by omega)); (try (have z2 : w.heap.size + 1 + 1 < w'.heap.size := by omega)); (try (have z3 : w.heap.size + 1 + 1 + 1 < w'.heap.size := by omega)); (try (have y1 : w1.heap.size < w'.heap.size := by omega)); (try (have y2 : w2.heap.size < w'.heap.size := by omega)); (try (have y3 : w3.heap.size < w'.heap.size := by omega)); (try (have y4 : w4.heap.size < w'.heap.size := by omega)); (try (have y5 : w5.heap.size < w'.heap.size := by omega)); (try (have y6 : w6.heap.size < w'.heap.size := by omega)); (try (have x1 : w1.heap.size + 1 < w'.heap.size := by omega)); (try (have x2 : w2.heap.size + 1 < w'.heap.size := by omega)); (try (have x3 : w3.heap.size + 1 < w'.heap.size := by omega)); (try (have x4 : w4.heap.size + 1 < w'.heap.size := by omega)); (try (have x5 : w5.heap.size + 1 < w'.heap.size := by omega)); (try (have x6 : w6.heap.size + 1 < w'.heap.size := by omega))))
  go_ret3
  exact ⟨rfl, by (repeat (first | exact Below.refl _ _ | refine bl_drewN ?_ | refine bl_drew ?_ | refine bl_alloc ?_ _ | refine Below.setCell ?_ (by (first | (simp; done) | (simp; omega) | omega)) _ | refine bl_step (by assumption) ?_))⟩

theorem quot4_walk (a b c d n A B C D : Int) (w : World) (h : reachB n = true) (hz : zeroB c d = false)
    (T : Hid (∀ w, Calls Try.prog 56 #[.agg #[.int .i64 (a), .int .i64 (b)], .agg #[.int .i64 (c), .int .i64 (d)]] w fun e w' => e = .returned (.tuple #[.agg #[.int .i64 (A), .int .i64 (B)], .agg #[.int .i64 (C), .int .i64 (D)]]) ∧ Below w.heap.size w w'))
    (A1 : -2147483648 ≤ A) (A2 : A ≤ B) (A3 : B ≤ 2147483648) (C1 : 1 ≤ C) (C2 : C ≤ D) (C3 : D ≤ 2147483648)  :
    Calls Try.prog 40 #[.agg #[.int .i64 (a), .int .i64 (b)], .agg #[.int .i64 (c), .int .i64 (d)], .int .i64 n] w fun e w' => e = .returned (quoV (cLo A B C D n) (cHi A B C D n)) ∧ Below w.heap.size w w' := by
  cases g1 : bigB A n C
  · cases g2 : bigB B n C
    · cases r1 : reachB (cLo A B C D n)
      · rw [quoV_no (by rw [r1]; rfl)]
        exact quot4_no1 a b c d n A B C D w h hz T A1 A2 A3 C1 C2 C3 _ _ rfl rfl g1 g2 r1
      · cases r2 : reachB (cHi A B C D n)
        · rw [quoV_no (by rw [r2, Bool.and_false])]
          exact quot4_no2 a b c d n A B C D w h hz T A1 A2 A3 C1 C2 C3 _ _ rfl rfl g1 g2 r1 r2
        · rw [quoV_ok r1 r2]
          exact quot4_ok a b c d n A B C D w h hz T A1 A2 A3 C1 C2 C3 _ _ rfl rfl g1 g2 r1 r2
    · rw [quoV_no (far_reach C1 (Or.inr g2))]
      exact quot4_big2 a b c d n A B C D w h hz T A1 A2 A3 C1 C2 C3 g1 g2
  · rw [quoV_no (far_reach C1 (Or.inl g1))]
    exact quot4_big1 a b c d n A B C D w h hz T A1 A2 A3 C1 C2 C3 g1

/-- the least and the greatest of the four quotients of the ends, times a number -/
def qLo (a b c d n : Int) : Int := min (fl (a * n) c) (min (fl (a * n) d) (min (fl (b * n) c) (fl (b * n) d)))
def qHi (a b c d n : Int) : Int := max (ce (a * n) c) (max (ce (a * n) d) (max (ce (b * n) c) (ce (b * n) d)))

theorem q_pos (a b c d n : Int) (hcd : c ≤ d) (hc : 0 < c) : qLo a b c d n = cLo a b c d n ∧ qHi a b c d n = cHi a b c d n := by
  have hd : 0 < d := by omega
  constructor
  · simp only [qLo, cLo, fl_pos' hc, fl_pos' hd]
  · simp only [qHi, cHi, ce, fl_pos' hc, fl_pos' hd]
theorem q_neg (a b c d n : Int) (hcd : c ≤ d) (hd : d < 0) : qLo a b c d n = cLo (-b) (-a) (-d) (-c) n ∧ qHi a b c d n = cHi (-b) (-a) (-d) (-c) n := by
  have hc : c < 0 := by omega
  unfold qLo qHi cLo cHi ce
  simp only [fl_neg' hc, fl_neg' hd, Int.neg_neg, Int.neg_mul]
  constructor
  · generalize -(a * n) / -c = x1
    generalize -(a * n) / -d = x2
    generalize -(b * n) / -c = x3
    generalize -(b * n) / -d = x4
    omega
  · generalize a * n / -c = x1
    generalize a * n / -d = x2
    generalize b * n / -c = x3
    generalize b * n / -d = x4
    omega

theorem quot4_any (a b c d n : Int) (w : World) (h1 : fixB a b = true) (h2 : fixB c d = true) (h : reachB n = true) (hz : zeroB c d = false) :
    Calls Try.prog 40 #[.agg #[.int .i64 (a), .int .i64 (b)], .agg #[.int .i64 (c), .int .i64 (d)], .int .i64 n] w fun e w' => e = .returned (quoV (qLo a b c d n) (qHi a b c d n)) ∧ Below w.heap.size w w' := by
  obtain ⟨a1, a2, a3⟩ := fixB_t h1
  obtain ⟨c1, c2, c3⟩ := fixB_t h2
  rcases zeroB_f hz with hc | hd
  · obtain ⟨e1, e2⟩ := q_pos a b c d n c2 hc
    rw [e1, e2]
    exact quot4_walk a b c d n a b c d w h hz (hidden fun w => turned_pos a b c d w (by omega)) a1 a2 a3 hc c2 c3
  · obtain ⟨e1, e2⟩ := q_neg a b c d n c2 hd
    rw [e1, e2]
    exact quot4_walk a b c d n (-b) (-a) (-d) (-c) w h hz (hidden fun w => turned_neg a b c d w h1 h2 (by omega)) (by omega) (by omega) (by omega) (by omega) (by omega) (by omega)

end Go.Proofs.Ytbglnncejfhlmaa
