/- Several small texts in one: XRoot, XRef4a, XRef4b, XFixB, XRef4c, XRef4d, XRef4e, XRef4f. -/
import Derived.Test.YtdhbeoahpfimbaaGreatGb
import Derived.LoopN
namespace Go.Proofs.YtdhbeoahpfimbaaGreat
open Go.RowKit
theorem sq_mono {a b : Int} (h0 : 0 ≤ a) (h : a ≤ b) : a * a ≤ b * b := Int.mul_le_mul h h h0 (by omega)
theorem sq_lt {a b : Int} (hb : 0 ≤ b) (h : a * a < b * b) : a < b := by
  rcases Int.lt_or_le a b with g | g
  · exact g
  · exact absurd (sq_mono hb g) (by omega)
theorem isqrt_ex (n : Nat) : ∃ r : Nat, r * r ≤ n ∧ n < (r + 1) * (r + 1) := by
  induction n with
  | zero => exact ⟨0, by omega, by omega⟩
  | succ n ih =>
    obtain ⟨r, h1, h2⟩ := ih
    by_cases h : (r + 1) * (r + 1) ≤ n + 1
    · refine ⟨r + 1, h, ?_⟩
      have : (r + 1 + 1) * (r + 1 + 1) = (r + 1) * (r + 1) + 2 * (r + 1) + 1 := by grind
      omega
    · exact ⟨r, by omega, by omega⟩
theorem iroot_ex (n : Int) (h : 0 ≤ n) : ∃ r : Int, 0 ≤ r ∧ r * r ≤ n ∧ n < (r + 1) * (r + 1) := by
  obtain ⟨r, h1, h2⟩ := isqrt_ex n.toNat
  refine ⟨r, by omega, ?_, ?_⟩
  · have : ((r * r : Nat) : Int) ≤ (n.toNat : Int) := by exact_mod_cast h1
    rw [Int.toNat_of_nonneg h] at this; simpa using this
  · have : ((n.toNat : Nat) : Int) < (((r + 1) * (r + 1) : Nat) : Int) := by exact_mod_cast h2
    rw [Int.toNat_of_nonneg h] at this; simpa using this
theorem iroot_one {n r k : Int} (r0 : 0 ≤ r) (r1 : r * r ≤ n) (r2 : n < (r + 1) * (r + 1)) (k0 : 0 ≤ k) (k1 : k * k ≤ n) (k2 : n < (k + 1) * (k + 1)) : k = r := by
  have a := sq_lt (show 0 ≤ k + 1 by omega) (show r * r < (k + 1) * (k + 1) by omega)
  have b := sq_lt (show 0 ≤ r + 1 by omega) (show k * k < (r + 1) * (r + 1) by omega)
  omega
theorem iroot_bd {n k : Int} (h : k * k ≤ n) (h1 : n ≤ 2305843009213693952) : k ≤ 1518500249 := by
  have := sq_lt (a := k) (b := 1518500250) (by omega) (by omega)
  omega
/-- what holds at the head of each round of the root of package fixed: the root lies from k to less than k + 2 b (k + 1 at the end) -/
def rootI (n k b : Int) : Prop := ∃ j : Nat, j ≤ 32 ∧ b = 2 ^ j / 2 ∧ 0 ≤ k ∧ k * k ≤ n ∧ n < (k + 2 ^ j) * (k + 2 ^ j) ∧ (j = 32 → k = 0)
theorem rootI_start (n : Int) (h0 : 0 ≤ n) (h1 : n ≤ 2305843009213693952) : rootI n 0 2147483648 :=
  ⟨32, by omega, by decide, by omega, by omega, by omega, fun _ => rfl⟩
theorem pow_pos_i (j : Nat) : (0 : Int) < 2 ^ j := by exact_mod_cast Nat.two_pow_pos j
theorem pow_le_i {j k : Nat} (h : j ≤ k) : (2 : Int) ^ j ≤ 2 ^ k := by exact_mod_cast Nat.pow_le_pow_right (by omega) h
theorem rootI_bd {n k b : Int} (h1 : n ≤ 2305843009213693952) (h : rootI n k b) : 0 ≤ k ∧ k ≤ 1518500249 ∧ 0 ≤ b ∧ b ≤ 2147483648 ∧ k + b ≤ 2592242073 := by
  obtain ⟨j, hj, rfl, k0, k1, k2, k3⟩ := h
  have kb := iroot_bd k1 h1
  have p := pow_pos_i j
  by_cases e : j = 32
  · have := k3 e
    subst e; omega
  · have q := pow_le_i (show j ≤ 31 by omega)
    omega
theorem rootI_end {n k b r : Int} (h : rootI n k b) (hb : ¬ 0 < b) (r0 : 0 ≤ r) (r1 : r * r ≤ n) (r2 : n < (r + 1) * (r + 1)) : k = r := by
  obtain ⟨j, hj, rfl, k0, k1, k2, k3⟩ := h
  have e : j = 0 := by
    cases j with
    | zero => rfl
    | succ j => have := pow_pos_i j; rw [Int.pow_succ] at hb; omega
  subst e
  exact iroot_one r0 r1 r2 k0 k1 (by simpa using k2)
theorem rootI_next {n k b : Int} (h : rootI n k b) (hb : 0 < b) : ((k + b) * (k + b) ≤ n → rootI n (k + b) (b / 2)) ∧ (¬ (k + b) * (k + b) ≤ n → rootI n k (b / 2)) := by
  obtain ⟨j, hj, rfl, k0, k1, k2, k3⟩ := h
  cases j with
  | zero => simp at hb
  | succ j =>
    have p := pow_pos_i j
    have e : (2 : Int) ^ (j + 1) / 2 = 2 ^ j := by rw [Int.pow_succ]; omega
    rw [e] at hb ⊢
    have e2 : (2 : Int) ^ (j + 1) = 2 ^ j + 2 ^ j := by rw [Int.pow_succ]; omega
    rw [e2] at k2
    refine ⟨fun h => ⟨j, by omega, rfl, by omega, h, ?_, by omega⟩, fun h => ⟨j, by omega, rfl, k0, k1, by omega, by omega⟩⟩
    rw [Int.add_assoc]; exact k2
set_option maxHeartbeats 400000 in
theorem root_any (n r : Int) (w : World) (h0 : 0 ≤ n) (h1 : n ≤ 2305843009213693952) (r0 : 0 ≤ r) (r1 : r * r ≤ n) (r2 : n < (r + 1) * (r + 1)) :
    Calls Tryz.prog 136 #[.int .i64 n] w fun e w' => e = .returned (.int .i64 r) ∧ w = w' := by
  have R := hidden (And.intro r0 (And.intro r1 r2))
  clear r0 r1 r2
  go_enter Tryz.func136, Tryz.ntmps136
  go_wp2
  go_loop [3, 4] (fun K B => ∃ k b : Int, rootI n k b ∧ K = .int .i64 k ∧ B = .int .i64 b) (fun _ B => (intOf B).toNat)
  case atStart => exact ⟨0, 2147483648, rootI_start n h0 h1, rfl, rfl⟩
  case round =>
    obtain ⟨k, b, hI, rfl, rfl⟩ := hrel
    obtain ⟨b1, b2, b3, b4, b5⟩ := rootI_bd h1 hI
    by_cases hb : 0 < b
    · have N := rootI_next hI hb
      have wq : 0 ≤ (k + b) * (k + b) ∧ (k + b) * (k + b) ≤ 9223372036854775807 := by
        have := sq_mono (show 0 ≤ k + b by omega) (show k + b ≤ 2592242073 by omega)
        have := Int.mul_nonneg (show 0 ≤ k + b by omega) (show 0 ≤ k + b by omega)
        omega
      have wr : IntKind.i64.wrap ((k + b) * (k + b)) = (k + b) * (k + b) := wrap_id (by omega) (by omega)
      clear wq
      replace N := hidden N
      replace hI := hidden hI
      by_cases hs : (k + b) * (k + b) ≤ n
      · go_wp2
        go_round
        case rel => exact ⟨k + b, b / 2, N.out.1 hs, rfl, by first | rfl | go_num⟩
        case measure => simp [intOf]; omega
      · go_wp2
        go_round
        case rel => exact ⟨k, b / 2, N.out.2 hs, rfl, by first | rfl | go_num⟩
        case measure => simp [intOf]; omega
    · replace hI := hidden hI
      go_wp2
      go_ret
      exact ⟨ret_one (rootI_end hI.out (by omega) R.out.1 R.out.2.1 R.out.2.2), rfl⟩
theorem fl_30 (n : Int) : fl n 1073741824 = n / 1073741824 := by unfold fl; rw [if_pos (by omega)]
theorem ce_30 (n : Int) : ce n 1073741824 = -(-n / 1073741824) := by unfold ce; rw [fl_30]
/-- the least enclosure of a root: r is the root of n rounded down, s that of m; up: m's root rounded up -/
def upRoot (m s : Int) : Int := if s * s < m then s + 1 else s
def isRoot (n r : Int) : Prop := 0 ≤ r ∧ r * r ≤ n ∧ n < (r + 1) * (r + 1)
theorem isRoot_bd {n r : Int} (hn : n ≤ 2305843009213693952) (h : isRoot n r) : 0 ≤ r ∧ r ≤ 1518500249 := ⟨h.1, iroot_bd h.2.1 hn⟩
theorem isRoot_le {n m r s : Int} (h : n ≤ m) (hr : isRoot n r) (hs : isRoot m s) : r ≤ s := by
  have := sq_lt (a := r) (b := s + 1) (by have := hs.1; omega) (by have := hr.2.1; have := hs.2.2; omega)
  omega
set_option maxHeartbeats 400000 in
theorem sqrt_lt (a b r s : Int) (w : World) (h : fixB a b = true) (hb : 0 ≤ b) (hr : isRoot (max 0 a * 1073741824) r) (hs : isRoot (b * 1073741824) s) (hl : s * s < b * 1073741824) :
    Calls Tryz.prog 50 #[.agg #[.int .i64 a, .int .i64 b]] w fun e w' => e = .returned (.tuple #[.agg #[.int .i64 r, .int .i64 (s + 1)], .int .i64 0]) ∧ Below w.heap.size w w' := by
  obtain ⟨a1, a2, a3⟩ := fixB_t h
  have r1 := isRoot_bd (by omega) hr
  have s1 := isRoot_bd (by omega) hs
  have rs := isRoot_le (by omega) hr hs
  obtain ⟨r2, r3⟩ := r1
  obtain ⟨s2, s3⟩ := s1
  have FA := fun w => root_any (max 0 a * 1073741824) r w (by omega) (by omega) hr.1 hr.2.1 hr.2.2
  have FB := fun w => root_any (b * 1073741824) s w (by omega) (by omega) hs.1 hs.2.1 hs.2.2
  have FI := fun w => ffit_ok r (s + 1) w (fixB_mk (by omega))
  have sq : 0 ≤ s * s ∧ s * s ≤ 2305843009213693952 := ⟨Int.mul_nonneg s2 s2, by omega⟩
  have w1 : IntKind.i64.wrap (s * s) = s * s := wrap_id (by omega) (by omega)
  replace FA := hidden FA
  replace FB := hidden FB
  replace FI := hidden FI
  clear hr hs sq
  go_enter Tryz.func50, Tryz.ntmps50
  go_wp2_with (first | (((first | (go_at_call 129; refine (fvalid_any _ _ _).mono ?_; rintro e w' ⟨rfl, hb⟩) | (go_at_call 132; refine (FI.out _).mono ?_; rintro e w' ⟨rfl, hb⟩)); (try replace hb := below_undrew hb); (try replace hb := below_undrewN hb); obtain ⟨hcell, hfroz⟩ := bcell hb; have hz := hb.size; (try simp at hz); (try (have z6 := Nat.lt_of_lt_of_le z7 hz)); (try (have z7 := Nat.lt_of_lt_of_le z8 hz)); (try (have z8 := Nat.lt_of_lt_of_le z9 hz)); (try (have z9 := Nat.lt_of_lt_of_le (Nat.lt_succ_self _) hz)); (try (have z0 : w.heap.size < w'.heap.size := by omega)); (try (have z1 : w.heap.size + 1 < w'.heap.size := by omega)); (try (have z2 : w.heap.size + 1 + 1 < w'.heap.size := by omega)); (try (have z3 : w.heap.size + 1 + 1 + 1 < w'.heap.size := by omega)))) | (go_at_call 136; ((with_reducible refine (FB.out _).mono ?_); rintro e w' ⟨rfl, rfl⟩)) | (go_at_call 136; ((with_reducible refine (FA.out _).mono ?_); rintro e w' ⟨rfl, rfl⟩)))
  exact bodyPost_ret (v := .tuple #[.agg #[.int .i64 r, .int .i64 (s + 1)], .int .i64 0]) (by first | (simp only [results, Tryz.results50]; go_simp; done) | simp [results, Tryz.results50, go_sem, *]) rfl ⟨rfl, by (repeat (first | exact Below.refl _ _ | refine bl_drewN ?_ | refine bl_drew ?_ | refine bl_alloc ?_ _ | refine Below.setCell ?_ (by (first | (simp; done) | (simp; omega) | omega)) _ | refine bl_step (by assumption) ?_))⟩
set_option maxHeartbeats 400000 in
theorem sqrt_eq (a b r s : Int) (w : World) (h : fixB a b = true) (hb : 0 ≤ b) (hr : isRoot (max 0 a * 1073741824) r) (hs : isRoot (b * 1073741824) s) (hl : ¬ s * s < b * 1073741824) :
    Calls Tryz.prog 50 #[.agg #[.int .i64 a, .int .i64 b]] w fun e w' => e = .returned (.tuple #[.agg #[.int .i64 r, .int .i64 s], .int .i64 0]) ∧ Below w.heap.size w w' := by
  obtain ⟨a1, a2, a3⟩ := fixB_t h
  have r1 := isRoot_bd (by omega) hr
  have s1 := isRoot_bd (by omega) hs
  have rs := isRoot_le (by omega) hr hs
  obtain ⟨r2, r3⟩ := r1
  obtain ⟨s2, s3⟩ := s1
  have FA := fun w => root_any (max 0 a * 1073741824) r w (by omega) (by omega) hr.1 hr.2.1 hr.2.2
  have FB := fun w => root_any (b * 1073741824) s w (by omega) (by omega) hs.1 hs.2.1 hs.2.2
  have FI := fun w => ffit_ok r s w (fixB_mk (by omega))
  have sq : 0 ≤ s * s ∧ s * s ≤ 2305843009213693952 := ⟨Int.mul_nonneg s2 s2, by have := hs.2.1; omega⟩
  have w1 : IntKind.i64.wrap (s * s) = s * s := wrap_id (by omega) (by omega)
  replace FA := hidden FA
  replace FB := hidden FB
  replace FI := hidden FI
  clear hr hs sq
  go_enter Tryz.func50, Tryz.ntmps50
  go_wp2_with (first | (((first | (go_at_call 129; refine (fvalid_any _ _ _).mono ?_; rintro e w' ⟨rfl, hb⟩) | (go_at_call 132; refine (FI.out _).mono ?_; rintro e w' ⟨rfl, hb⟩)); (try replace hb := below_undrew hb); (try replace hb := below_undrewN hb); obtain ⟨hcell, hfroz⟩ := bcell hb; have hz := hb.size; (try simp at hz); (try (have z6 := Nat.lt_of_lt_of_le z7 hz)); (try (have z7 := Nat.lt_of_lt_of_le z8 hz)); (try (have z8 := Nat.lt_of_lt_of_le z9 hz)); (try (have z9 := Nat.lt_of_lt_of_le (Nat.lt_succ_self _) hz)); (try (have z0 : w.heap.size < w'.heap.size := by omega)); (try (have z1 : w.heap.size + 1 < w'.heap.size := by omega)); (try (have z2 : w.heap.size + 1 + 1 < w'.heap.size := by omega)); (try (have z3 : w.heap.size + 1 + 1 + 1 < w'.heap.size := by omega)))) | (go_at_call 136; ((with_reducible refine (FB.out _).mono ?_); rintro e w' ⟨rfl, rfl⟩)) | (go_at_call 136; ((with_reducible refine (FA.out _).mono ?_); rintro e w' ⟨rfl, rfl⟩)))
  exact bodyPost_ret (v := .tuple #[.agg #[.int .i64 r, .int .i64 s], .int .i64 0]) (by first | (simp only [results, Tryz.results50]; go_simp; done) | simp [results, Tryz.results50, go_sem, *]) rfl ⟨rfl, by (repeat (first | exact Below.refl _ _ | refine bl_drewN ?_ | refine bl_drew ?_ | refine bl_alloc ?_ _ | refine Below.setCell ?_ (by (first | (simp; done) | (simp; omega) | omega)) _ | refine bl_step (by assumption) ?_))⟩
theorem sqrt_any (a b r s : Int) (w : World) (h : fixB a b = true) (hb : 0 ≤ b) (hr : isRoot (max 0 a * 1073741824) r) (hs : isRoot (b * 1073741824) s) :
    Calls Tryz.prog 50 #[.agg #[.int .i64 a, .int .i64 b]] w fun e w' => e = .returned (.tuple #[.agg #[.int .i64 r, .int .i64 (upRoot (b * 1073741824) s)], .int .i64 0]) ∧ Below w.heap.size w w' := by
  by_cases hl : s * s < b * 1073741824
  · have e : upRoot (b * 1073741824) s = s + 1 := if_pos hl
    rw [e]; exact sqrt_lt a b r s w h hb hr hs hl
  · have e : upRoot (b * 1073741824) s = s := if_neg hl
    rw [e]; exact sqrt_eq a b r s w h hb hr hs hl
theorem fl_pos' {n d : Int} (h : 0 < d) : fl n d = n / d := by unfold fl; rw [if_pos h]
def reachB (n : Int) : Bool := decide (-1099511627776 ≤ n) && decide (n ≤ 1099511627776)
theorem reachB_t {n : Int} (h : reachB n = true) : -1099511627776 ≤ n ∧ n ≤ 1099511627776 := by simp [reachB] at h; omega
theorem reachB_mk {n : Int} (h : -1099511627776 ≤ n ∧ n ≤ 1099511627776) : reachB n = true := by simp [reachB]; omega
theorem reachB_not {n : Int} (h : ¬ (-1099511627776 ≤ n ∧ n ≤ 1099511627776)) : reachB n = false := by simp [reachB]; omega
theorem factor_any (n : Int) (w : World) :
    Calls Tryz.prog 137 #[.int .i64 n] w fun e w' => e = .returned (.bool (reachB n)) ∧ w = w' := by
  by_cases h1 : -1099511627776 ≤ n
  · by_cases h2 : n ≤ 1099511627776
    · have H := hidden (reachB_mk ⟨h1, h2⟩)
      go_enter Tryz.func137, Tryz.ntmps137
      go_wp2
      go_ret
      exact ⟨by rw [H.out]; rfl, rfl⟩
    · have H := hidden (reachB_not (n := n) (by omega))
      go_enter Tryz.func137, Tryz.ntmps137
      go_wp2
      go_ret
      exact ⟨by rw [H.out]; rfl, rfl⟩
  · have H := hidden (reachB_not (n := n) (by omega))
    go_enter Tryz.func137, Tryz.ntmps137
    go_wp2
    go_ret
    exact ⟨by rw [H.out]; rfl, rfl⟩
theorem mul_bd {x y X Y : Int} (hx : -X ≤ x ∧ x ≤ X) (hy : -Y ≤ y ∧ y ≤ Y) : -(X * Y) ≤ x * y ∧ x * y ≤ X * Y := by
  have e := Int.natAbs_mul x y
  have h : x.natAbs * y.natAbs ≤ X.toNat * Y.toNat := Nat.mul_le_mul (by omega) (by omega)
  rw [← e] at h
  have h2 : ((x * y).natAbs : Int) ≤ ((X.toNat * Y.toNat : Nat) : Int) := by exact_mod_cast h
  rw [Int.natCast_mul, Int.toNat_of_nonneg (by omega), Int.toNat_of_nonneg (by omega)] at h2
  omega
/-- the least and the greatest of the four corners, for positive divisors -/
def cLo (a b c d n : Int) : Int := min (a * n / c) (min (a * n / d) (min (b * n / c) (b * n / d)))
def cHi (a b c d n : Int) : Int := max (-(-(a * n) / c)) (max (-(-(a * n) / d)) (max (-(-(b * n) / c)) (-(-(b * n) / d))))
/-- the ends of a quotient times a number, if they reach -/
def quoV (L H : Int) : Value := if (reachB L && reachB H) = true then .tuple #[.int .i64 L, .int .i64 H, .int .i64 0] else .tuple #[.int .i64 0, .int .i64 0, .int .i64 5]
theorem quoV_ok {L H : Int} (h1 : reachB L = true) (h2 : reachB H = true) : quoV L H = .tuple #[.int .i64 L, .int .i64 H, .int .i64 0] := by unfold quoV; rw [h1, h2]; rfl
theorem quoV_no {L H : Int} (h : (reachB L && reachB H) = false) : quoV L H = .tuple #[.int .i64 0, .int .i64 0, .int .i64 5] := by unfold quoV; rw [h]; rfl
/-- the least and the greatest of the four quotients of the ends, times a number -/
def qLo (a b c d n : Int) : Int := min (fl (a * n) c) (min (fl (a * n) d) (min (fl (b * n) c) (fl (b * n) d)))
def qHi (a b c d n : Int) : Int := max (ce (a * n) c) (max (ce (a * n) d) (max (ce (b * n) c) (ce (b * n) d)))
end Go.Proofs.YtdhbeoahpfimbaaGreat
