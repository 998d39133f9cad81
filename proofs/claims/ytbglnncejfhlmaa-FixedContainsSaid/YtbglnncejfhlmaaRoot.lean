/- The integer square roots of package fixed and of its reference, each as a contract: the root of a number from 0 to 2^61. -/
import Derived.Test.YtbglnncejfhlmaaFix7
namespace Go.Proofs.Ytbglnncejfhlmaa
open Go.RowKit

theorem name_below {P : Program} {id : Nat} {ops : Array Oper} {b : Bool} {Q : Exit → Act → World → Prop} {a : Act} {W : World} (h : ∀ w', Below W.heap.size W w' → (Code.region id ops b).wp P Q a w') : (Code.region id ops b).wp P Q a W := h W (Below.refl _ _)

theorem sq_mono {a b : Int} (h0 : 0 ≤ a) (h : a ≤ b) : a * a ≤ b * b := Int.mul_le_mul h h h0 (by omega)
theorem sq_lt {a b : Int} (hb : 0 ≤ b) (h : a * a < b * b) : a < b := by
  rcases Int.lt_or_le a b with g | g
  · exact g
  · exact absurd (sq_mono hb g) (by omega)

theorem isqrt_ex (n : Nat) : ∃ r : Nat, r * r ≤ n ∧ n < (r + 1) * (r + 1) := by
  induction n with
  | zero => exact ⟨0, by omega, by omega⟩
  | succ n ih =>
    obtain ⟨r, h1, h2⟩ := ih
    by_cases h : (r + 1) * (r + 1) ≤ n + 1
    · refine ⟨r + 1, h, ?_⟩
      have : (r + 1 + 1) * (r + 1 + 1) = (r + 1) * (r + 1) + 2 * (r + 1) + 1 := by grind
      omega
    · exact ⟨r, by omega, by omega⟩

theorem iroot_ex (n : Int) (h : 0 ≤ n) : ∃ r : Int, 0 ≤ r ∧ r * r ≤ n ∧ n < (r + 1) * (r + 1) := by
  obtain ⟨r, h1, h2⟩ := isqrt_ex n.toNat
  refine ⟨r, by omega, ?_, ?_⟩
  · have : ((r * r : Nat) : Int) ≤ (n.toNat : Int) := by exact_mod_cast h1
    rw [Int.toNat_of_nonneg h] at this; simpa using this
  · have : ((n.toNat : Nat) : Int) < (((r + 1) * (r + 1) : Nat) : Int) := by exact_mod_cast h2
    rw [Int.toNat_of_nonneg h] at this; simpa using this

theorem iroot_one {n r k : Int} (r0 : 0 ≤ r) (r1 : r * r ≤ n) (r2 : n < (r + 1) * (r + 1)) (k0 : 0 ≤ k) (k1 : k * k ≤ n) (k2 : n < (k + 1) * (k + 1)) : k = r := by
  have a := sq_lt (show 0 ≤ k + 1 by omega) (show r * r < (k + 1) * (k + 1) by omega)
  have b := sq_lt (show 0 ≤ r + 1 by omega) (show k * k < (r + 1) * (r + 1) by omega)
  omega

theorem iroot_bd {n k : Int} (h : k * k ≤ n) (h1 : n ≤ 2305843009213693952) : k ≤ 1518500249 := by
  have := sq_lt (a := k) (b := 1518500250) (by omega) (by omega)
  omega

/-- what holds at the head of each round of the root of package fixed: the root lies from k to less than k + 2 b (k + 1 at the end) -/
def rootI (n k b : Int) : Prop := ∃ j : Nat, j ≤ 32 ∧ b = 2 ^ j / 2 ∧ 0 ≤ k ∧ k * k ≤ n ∧ n < (k + 2 ^ j) * (k + 2 ^ j) ∧ (j = 32 → k = 0)

theorem rootI_start (n : Int) (h0 : 0 ≤ n) (h1 : n ≤ 2305843009213693952) : rootI n 0 2147483648 :=
  ⟨32, by omega, by decide, by omega, by omega, by omega, fun _ => rfl⟩

theorem pow_pos_i (j : Nat) : (0 : Int) < 2 ^ j := by exact_mod_cast Nat.two_pow_pos j
theorem pow_le_i {j k : Nat} (h : j ≤ k) : (2 : Int) ^ j ≤ 2 ^ k := by exact_mod_cast Nat.pow_le_pow_right (by omega) h

theorem rootI_bd {n k b : Int} (h1 : n ≤ 2305843009213693952) (h : rootI n k b) : 0 ≤ k ∧ k ≤ 1518500249 ∧ 0 ≤ b ∧ b ≤ 2147483648 ∧ k + b ≤ 2592242073 := by
  obtain ⟨j, hj, rfl, k0, k1, k2, k3⟩ := h
  have kb := iroot_bd k1 h1
  have p := pow_pos_i j
  by_cases e : j = 32
  · have := k3 e
    subst e; omega
  · have q := pow_le_i (show j ≤ 31 by omega)
    omega

theorem rootI_end {n k b r : Int} (h : rootI n k b) (hb : ¬ 0 < b) (r0 : 0 ≤ r) (r1 : r * r ≤ n) (r2 : n < (r + 1) * (r + 1)) : k = r := by
  obtain ⟨j, hj, rfl, k0, k1, k2, k3⟩ := h
  have e : j = 0 := by
    cases j with
    | zero => rfl
    | succ j => have := pow_pos_i j; rw [Int.pow_succ] at hb; omega
  subst e
  exact iroot_one r0 r1 r2 k0 k1 (by simpa using k2)

theorem rootI_next {n k b : Int} (h : rootI n k b) (hb : 0 < b) : ((k + b) * (k + b) ≤ n → rootI n (k + b) (b / 2)) ∧ (¬ (k + b) * (k + b) ≤ n → rootI n k (b / 2)) := by
  obtain ⟨j, hj, rfl, k0, k1, k2, k3⟩ := h
  cases j with
  | zero => simp at hb
  | succ j =>
    have p := pow_pos_i j
    have e : (2 : Int) ^ (j + 1) / 2 = 2 ^ j := by rw [Int.pow_succ]; omega
    rw [e] at hb ⊢
    have e2 : (2 : Int) ^ (j + 1) = 2 ^ j + 2 ^ j := by rw [Int.pow_succ]; omega
    rw [e2] at k2
    refine ⟨fun h => ⟨j, by omega, rfl, by omega, h, ?_, by omega⟩, fun h => ⟨j, by omega, rfl, k0, k1, by omega, by omega⟩⟩
    rw [Int.add_assoc]; exact k2

set_option maxHeartbeats 400000 in
theorem root_any (n r : Int) (w : World) (h0 : 0 ≤ n) (h1 : n ≤ 2305843009213693952) (r0 : 0 ≤ r) (r1 : r * r ≤ n) (r2 : n < (r + 1) * (r + 1)) :
    Calls Try.prog 59 #[.int .i64 n] w fun e w' => e = .returned (.int .i64 r) ∧ w = w' := by
  have R := hidden (And.intro r0 (And.intro r1 r2))
  clear r0 r1 r2
  go_enter Try.func59, Try.ntmps59
  go_wp2
  go_loop [3, 4] (fun K B => ∃ k b : Int, rootI n k b ∧ K = .int .i64 k ∧ B = .int .i64 b) (fun _ B => (intOf B).toNat)
  case atStart => exact ⟨0, 2147483648, rootI_start n h0 h1, rfl, rfl⟩
  case round =>
    obtain ⟨k, b, hI, rfl, rfl⟩ := hrel
    obtain ⟨b1, b2, b3, b4, b5⟩ := rootI_bd h1 hI
    by_cases hb : 0 < b
    · have N := rootI_next hI hb
      have wq : 0 ≤ (k + b) * (k + b) ∧ (k + b) * (k + b) ≤ 9223372036854775807 := by
        have := sq_mono (show 0 ≤ k + b by omega) (show k + b ≤ 2592242073 by omega)
        have := Int.mul_nonneg (show 0 ≤ k + b by omega) (show 0 ≤ k + b by omega)
        omega
      have wr : IntKind.i64.wrap ((k + b) * (k + b)) = (k + b) * (k + b) := wrap_id (by omega) (by omega)
      clear wq
      replace N := hidden N
      replace hI := hidden hI
      by_cases hs : (k + b) * (k + b) ≤ n
      · go_wp2
        go_round
        case rel => exact ⟨k + b, b / 2, N.out.1 hs, rfl, by first | rfl | go_num⟩
        case measure => simp [intOf]; omega
      · go_wp2
        go_round
        case rel => exact ⟨k, b / 2, N.out.2 hs, rfl, by first | rfl | go_num⟩
        case measure => simp [intOf]; omega
    · replace hI := hidden hI
      go_wp2
      go_ret
      exact ⟨ret_one (rootI_end hI.out (by omega) R.out.1 R.out.2.1 R.out.2.2), rfl⟩

/-- what holds at the head of each round of the root of the reference: the root lies from k to less than h, whose distance is a power of two -/
def rootJ (n k h : Int) : Prop := ∃ j : Nat, j ≤ 31 ∧ h = k + 2 ^ j ∧ 0 ≤ k ∧ h ≤ 2147483648 ∧ k * k ≤ n ∧ n < h * h

theorem rootJ_start (n : Int) (h0 : 0 ≤ n) (h1 : n ≤ 2305843009213693952) : rootJ n 0 2147483648 :=
  ⟨31, by omega, by decide, by omega, by omega, by omega, by omega⟩
theorem rootJ_bd {n k h : Int} (hJ : rootJ n k h) : 0 ≤ k ∧ k < h ∧ h ≤ 2147483648 := by
  obtain ⟨j, hj, rfl, k0, k1, _, _⟩ := hJ
  have p := pow_pos_i j
  omega
theorem rootJ_end {n k h r : Int} (hJ : rootJ n k h) (hb : ¬ 1 < h - k) (r0 : 0 ≤ r) (r1 : r * r ≤ n) (r2 : n < (r + 1) * (r + 1)) : k = r := by
  have b := rootJ_bd hJ
  obtain ⟨j, hj, e, k0, _, k1, k2⟩ := hJ
  have e2 : h = k + 1 := by omega
  rw [e2] at k2
  exact iroot_one r0 r1 r2 k0 k1 k2
theorem rootJ_next {n k h : Int} (hJ : rootJ n k h) (hb : 1 < h - k) : ((k + h) / 2 * ((k + h) / 2) ≤ n → rootJ n ((k + h) / 2) h) ∧ (¬ (k + h) / 2 * ((k + h) / 2) ≤ n → rootJ n k ((k + h) / 2)) := by
  obtain ⟨j, hj, rfl, k0, k1, k2, k3⟩ := hJ
  cases j with
  | zero => simp at hb; omega
  | succ j =>
    have p := pow_pos_i j
    have e2 : (2 : Int) ^ (j + 1) = 2 ^ j + 2 ^ j := by rw [Int.pow_succ]; omega
    rw [e2] at hb k1 k3 ⊢
    have e : (k + (k + (2 ^ j + 2 ^ j))) / 2 = k + 2 ^ j := by omega
    rw [e]
    exact ⟨fun h => ⟨j, by omega, by omega, by omega, by omega, h, k3⟩, fun h => ⟨j, by omega, rfl, k0, by omega, k2, by omega⟩⟩

set_option maxHeartbeats 400000 in
theorem root4_any (n r : Int) (w : World) (h0 : 0 ≤ n) (h1 : n ≤ 2305843009213693952) (r0 : 0 ≤ r) (r1 : r * r ≤ n) (r2 : n < (r + 1) * (r + 1)) :
    Calls Try.prog 60 #[.int .i64 n] w fun e w' => e = .returned (.int .i64 r) ∧ w = w' := by
  have R := hidden (And.intro r0 (And.intro r1 r2))
  clear r0 r1 r2
  go_enter Try.func60, Try.ntmps60
  go_wp2
  go_loop [3, 4] (fun K B => ∃ k b : Int, rootJ n k b ∧ K = .int .i64 k ∧ B = .int .i64 b) (fun K B => (intOf B - intOf K).toNat)
  case atStart => exact ⟨0, 2147483648, rootJ_start n h0 h1, rfl, rfl⟩
  case round =>
    obtain ⟨k, h, hJ, rfl, rfl⟩ := hrel
    obtain ⟨b1, b2, b3⟩ := rootJ_bd hJ
    by_cases hb : 1 < h - k
    · have N := rootJ_next hJ hb
      have q1 : k < (k + h) / 2 := by omega
      have q2 : (k + h) / 2 < h := by omega
      have e : ∃ m, (k + h) / 2 = m := ⟨_, rfl⟩
      obtain ⟨m, hm⟩ := e
      rw [hm] at N q1 q2
      have wq : 0 ≤ m * m ∧ m * m ≤ 9223372036854775807 := by
        have := sq_mono (show 0 ≤ m by omega) (show m ≤ 2147483648 by omega)
        have := Int.mul_nonneg (show 0 ≤ m by omega) (show 0 ≤ m by omega)
        omega
      have wr : IntKind.i64.wrap (m * m) = m * m := wrap_id (by omega) (by omega)
      clear wq
      replace N := hidden N
      replace hJ := hidden hJ
      by_cases hs : m * m ≤ n
      · go_wp2
        go_round
        case rel => exact ⟨_, _, by rw [hm]; exact N.out.1 hs, rfl, rfl⟩
        case measure => simp [intOf]; omega
      · go_wp2
        go_round
        case rel => exact ⟨_, _, by rw [hm]; exact N.out.2 hs, rfl, rfl⟩
        case measure => simp [intOf]; omega
    · replace hJ := hidden hJ
      go_wp2
      go_ret
      exact ⟨ret_one (rootJ_end hJ.out (by omega) R.out.1 R.out.2.1 R.out.2.2), rfl⟩

end Go.Proofs.Ytbglnncejfhlmaa
