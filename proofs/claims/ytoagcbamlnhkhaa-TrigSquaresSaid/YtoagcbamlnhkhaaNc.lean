/- Order of the reference of layer 2. -/
import Derived.Test.YtoagcbamlnhkhaaNb
import Derived.OwnWalk
namespace Go.Proofs.Ytoagcbamlnhkhaa
open Go.RowKit

def cmpN (x y : Nat) : Int := if x < y then -1 else if y < x then 1 else 0
theorem cmpN_lt {x y : Nat} (h : x < y) : cmpN x y = -1 := by unfold cmpN; rw [if_pos h]
theorem cmpN_gt {x y : Nat} (h : y < x) : cmpN x y = 1 := by unfold cmpN; rw [if_neg (by omega), if_pos h]
theorem cmpN_eq {x y : Nat} (h : x = y) : cmpN x y = 0 := by unfold cmpN; rw [if_neg (by omega), if_neg (by omega)]
theorem cmpN_bd (x y : Nat) : -1 ≤ cmpN x y ∧ cmpN x y ≤ 1 := by unfold cmpN; split; omega; split <;> omega
theorem div_down (x m : Nat) : (x / pw m : Int) = (x / pw (m + 1) : Nat) * 268435456 + dg x m := by
  have e : x / pw (m + 1) = x / pw m / 268435456 := by rw [pw_succ, Nat.div_div_eq_div_mul]
  unfold dg
  rw [e]
  have : ((x : Int) / (pw m : Int)) = ((x / pw m : Nat) : Int) := rfl
  rw [this]
  generalize x / pw m = d
  omega
theorem order_less {x y m : Nat} (h : x / pw (m + 1) = y / pw (m + 1)) (hd : dg x m < dg y m) : x < y := by
  have e1 := div_down x m
  have e2 := div_down y m
  rw [h] at e1
  rcases Nat.lt_or_ge x y with h1 | h1
  · exact h1
  · have h3 := Nat.div_le_div_right (c := pw m) h1
    have : ((y / pw m : Nat) : Int) ≤ ((x / pw m : Nat) : Int) := by exact_mod_cast h3
    have f1 : ((x : Int) / (pw m : Int)) = ((x / pw m : Nat) : Int) := rfl
    have f2 : ((y : Int) / (pw m : Int)) = ((y / pw m : Nat) : Int) := rfl
    rw [f1] at e1
    rw [f2] at e2
    omega
theorem order_same {x y m : Nat} (h : x / pw (m + 1) = y / pw (m + 1)) (hd : dg x m = dg y m) : x / pw m = y / pw m := by
  have e1 := div_down x m
  have e2 := div_down y m
  rw [h, hd, ← e2] at e1
  exact_mod_cast e1

set_option maxRecDepth 100000 in
set_option maxHeartbeats 4000000 in
theorem order02_any (A1 A2 : Option Addr) (n1 n2 c1 c2 x y : Nat) (w : World) (h1 : Dig w A1 n1 c1 x) (h2 : Dig w A2 n2 c2 y) (l1 : n1 ≤ 100) (l2 : n2 ≤ 100) :
    Calls Try.prog 59 #[.slice A1 n1 c1, .slice A2 n2 c2] w fun e w' => e = .returned (.int .i64 (cmpN x y)) ∧ Below w.heap.size w w' := by
  by_cases hl : n1 = n2
  case neg =>
    by_cases hlt : n1 < n2
    · have R := hidden (cmpN_lt (x := x) (y := y) (by have a := h1.1.1; have b := h2.2 (by omega); have := pw_le (m := n1) (n := n2 - 1) (by omega); omega))
      have d1 : ((n1 : Int) == n2) = false := by simp; omega
      have d2 : ((n1 : Int) != n2) = true := by simp; omega
      go_enter Try.func59, Try.ntmps59
      go_wp2
      go_ret
      exact ⟨by rw [R.out]; rfl, Below.refl _ _⟩
    · have R := hidden (cmpN_gt (x := x) (y := y) (by have a := h2.1.1; have b := h1.2 (by omega); have := pw_le (m := n2) (n := n1 - 1) (by omega); omega))
      have d1 : ((n1 : Int) == n2) = false := by simp; omega
      have d2 : ((n1 : Int) != n2) = true := by simp; omega
      go_enter Try.func59, Try.ntmps59
      go_wp2
      go_ret
      exact ⟨by rw [R.out]; rfl, Below.refl _ _⟩
  subst hl
  have st := hidden (show x / pw n1 = y / pw n1 by rw [Nat.div_eq_of_lt h1.1.1, Nat.div_eq_of_lt h2.1.1])
  go_enter Try.func59, Try.ntmps59
  go_wp2
  go_loopw [5] (fun iv wr => ∃ (k : Nat) (i : Int), iv = .int .i64 i ∧ Hid (i = k - 1) ∧ -1 ≤ i ∧ i < n1 ∧ Hid (x / pw k = y / pw k) ∧ Below w.heap.size w wr) (fun iv _ => (intOf iv + 1).toNat)
  case atStart => exact ⟨n1, _, rfl, rfl, by omega, by omega, st.out, Below.refl _ _⟩
  case round =>
    clear st
    obtain ⟨k, i, rfl, hi, i0, i1, hk, hbw⟩ := hrel
    by_cases hneg : i < 0
    · have R := hidden (cmpN_eq (x := x) (y := y) (by have a := hi.out; have b := hk.out; have e : k = 0 := (by omega); rw [e, pw_zero, Nat.div_one, Nat.div_one] at b; exact b))
      go_wp2
      go_ret
      exact ⟨by rw [R.out]; rfl, hbw⟩
    · obtain ⟨m, rfl⟩ : ∃ m : Nat, i = m := ⟨i.toNat, by omega⟩
      obtain rfl : k = m + 1 := by have := hi.out; omega
      obtain ⟨g1, rfl, hg1, _⟩ := h1.1.get (by omega)
      obtain ⟨g2, rfl, hg2, _⟩ := h2.1.get (by omega)
      have x1 := h1.1.cell hbw (j := m) (by omega)
      have x2 := h2.1.cell hbw (j := m) (by omega)
      have s1 : g1 < wr.heap.size := Nat.lt_of_lt_of_le hg1 hbw.size
      have s2 : g2 < wr.heap.size := Nat.lt_of_lt_of_le hg2 hbw.size
      obtain ⟨a, ea⟩ : ∃ a, dg x m = a := ⟨_, rfl⟩
      obtain ⟨b, eb⟩ : ∃ b, dg y m = b := ⟨_, rfl⟩
      rw [ea] at x1
      rw [eb] at x2
      have m1 : m < n1 := by omega
      by_cases lt : a < b
      · have R := hidden (cmpN_lt (order_less hk.out (by rw [ea, eb]; exact lt)))
        clear ea eb
        go_wp2
        refine wp_region_quiet_below (by kernel_rfl) (by kernel_rfl) ?_
        repeat (first | go_big_quiet_step (fail) | quiet_step (fail))
        refine wpQuiet_nil ?_; intro w' hw'; have hb := below_of_regrown hw'; clear hw'; (try replace hb := below_undrew hb); (try replace hb := below_undrewN hb); obtain ⟨hcell, hfroz⟩ := bcell hb; have hz := hb.size; (try simp at hz); (try (have z6 := Nat.lt_of_lt_of_le z7 hz)); (try (have z7 := Nat.lt_of_lt_of_le z8 hz)); (try (have z8 := Nat.lt_of_lt_of_le z9 hz)); (try (have z9 := Nat.lt_of_lt_of_le (Nat.lt_succ_self _) hz)); (try (have z0 : w.heap.size < w'.heap.size := by omega)); (try (have z1 : w.heap.size + 1 < w'.heap.size := by omega)); (try (have z2 : w.heap.size + 1 + 1 < w'.heap.size := by omega)); (try (have z3 : w.heap.size + 1 + 1 + 1 < w'.heap.size := by omega)); (try (have y1 : w1.heap.size < w'.heap.size := by omega)); (try (have y2 : w2.heap.size < w'.heap.size := by omega)); (try (have y3 : w3.heap.size < w'.heap.size := by omega)); (try (have y4 : w4.heap.size < w'.heap.size := by omega)); (try (have y5 : w5.heap.size < w'.heap.size := by omega)); (try (have y6 : w6.heap.size < w'.heap.size := by omega))
        go_wp2
        go_ret
        exact ⟨by rw [R.out]; rfl, bl_step hb hbw⟩
      · by_cases gt : b < a
        · have R := hidden (cmpN_gt (order_less hk.out.symm (by rw [ea, eb]; exact gt)))
          clear ea eb
          go_wp2
          refine wp_region_quiet_below (by kernel_rfl) (by kernel_rfl) ?_
          repeat (first | go_big_quiet_step (fail) | quiet_step (fail))
          refine wpQuiet_nil ?_; intro w' hw'; have hb := below_of_regrown hw'; clear hw'; (try replace hb := below_undrew hb); (try replace hb := below_undrewN hb); obtain ⟨hcell, hfroz⟩ := bcell hb; have hz := hb.size; (try simp at hz); (try (have z6 := Nat.lt_of_lt_of_le z7 hz)); (try (have z7 := Nat.lt_of_lt_of_le z8 hz)); (try (have z8 := Nat.lt_of_lt_of_le z9 hz)); (try (have z9 := Nat.lt_of_lt_of_le (Nat.lt_succ_self _) hz)); (try (have z0 : w.heap.size < w'.heap.size := by omega)); (try (have z1 : w.heap.size + 1 < w'.heap.size := by omega)); (try (have z2 : w.heap.size + 1 + 1 < w'.heap.size := by omega)); (try (have z3 : w.heap.size + 1 + 1 + 1 < w'.heap.size := by omega)); (try (have y1 : w1.heap.size < w'.heap.size := by omega)); (try (have y2 : w2.heap.size < w'.heap.size := by omega)); (try (have y3 : w3.heap.size < w'.heap.size := by omega)); (try (have y4 : w4.heap.size < w'.heap.size := by omega)); (try (have y5 : w5.heap.size < w'.heap.size := by omega)); (try (have y6 : w6.heap.size < w'.heap.size := by omega))
          go_wp2
          have t1 : g1 < w'.heap.size := Nat.lt_of_lt_of_le s1 hb.size
          have t2 : g2 < w'.heap.size := Nat.lt_of_lt_of_le s2 hb.size
          replace hbw := bl_step hb hbw
          obtain ⟨w1, rfl⟩ : ∃ v, v = w' := ⟨_, rfl⟩
          refine wp_region_quiet_below (by kernel_rfl) (by kernel_rfl) ?_
          repeat (first | go_big_quiet_step (fail) | quiet_step (fail))
          refine wpQuiet_nil ?_; intro w' hw'; have hb := below_of_regrown hw'; clear hw'; (try replace hb := below_undrew hb); (try replace hb := below_undrewN hb); obtain ⟨hcell, hfroz⟩ := bcell hb; have hz := hb.size; (try simp at hz); (try (have z6 := Nat.lt_of_lt_of_le z7 hz)); (try (have z7 := Nat.lt_of_lt_of_le z8 hz)); (try (have z8 := Nat.lt_of_lt_of_le z9 hz)); (try (have z9 := Nat.lt_of_lt_of_le (Nat.lt_succ_self _) hz)); (try (have z0 : w.heap.size < w'.heap.size := by omega)); (try (have z1 : w.heap.size + 1 < w'.heap.size := by omega)); (try (have z2 : w.heap.size + 1 + 1 < w'.heap.size := by omega)); (try (have z3 : w.heap.size + 1 + 1 + 1 < w'.heap.size := by omega)); (try (have y1 : w1.heap.size < w'.heap.size := by omega)); (try (have y2 : w2.heap.size < w'.heap.size := by omega)); (try (have y3 : w3.heap.size < w'.heap.size := by omega)); (try (have y4 : w4.heap.size < w'.heap.size := by omega)); (try (have y5 : w5.heap.size < w'.heap.size := by omega)); (try (have y6 : w6.heap.size < w'.heap.size := by omega))
          go_wp2
          go_ret
          exact ⟨by rw [R.out]; rfl, bl_step hb hbw⟩
        · have R := hidden (order_same hk.out (by rw [ea, eb]; omega))
          clear ea eb
          go_wp2
          refine wp_region_quiet_below (by kernel_rfl) (by kernel_rfl) ?_
          repeat (first | go_big_quiet_step (fail) | quiet_step (fail))
          refine wpQuiet_nil ?_; intro w' hw'; have hb := below_of_regrown hw'; clear hw'; (try replace hb := below_undrew hb); (try replace hb := below_undrewN hb); obtain ⟨hcell, hfroz⟩ := bcell hb; have hz := hb.size; (try simp at hz); (try (have z6 := Nat.lt_of_lt_of_le z7 hz)); (try (have z7 := Nat.lt_of_lt_of_le z8 hz)); (try (have z8 := Nat.lt_of_lt_of_le z9 hz)); (try (have z9 := Nat.lt_of_lt_of_le (Nat.lt_succ_self _) hz)); (try (have z0 : w.heap.size < w'.heap.size := by omega)); (try (have z1 : w.heap.size + 1 < w'.heap.size := by omega)); (try (have z2 : w.heap.size + 1 + 1 < w'.heap.size := by omega)); (try (have z3 : w.heap.size + 1 + 1 + 1 < w'.heap.size := by omega)); (try (have y1 : w1.heap.size < w'.heap.size := by omega)); (try (have y2 : w2.heap.size < w'.heap.size := by omega)); (try (have y3 : w3.heap.size < w'.heap.size := by omega)); (try (have y4 : w4.heap.size < w'.heap.size := by omega)); (try (have y5 : w5.heap.size < w'.heap.size := by omega)); (try (have y6 : w6.heap.size < w'.heap.size := by omega))
          go_wp2
          have t1 : g1 < w'.heap.size := Nat.lt_of_lt_of_le s1 hb.size
          have t2 : g2 < w'.heap.size := Nat.lt_of_lt_of_le s2 hb.size
          replace hbw := bl_step hb hbw
          obtain ⟨w1, rfl⟩ : ∃ v, v = w' := ⟨_, rfl⟩
          refine wp_region_quiet_below (by kernel_rfl) (by kernel_rfl) ?_
          repeat (first | go_big_quiet_step (fail) | quiet_step (fail))
          refine wpQuiet_nil ?_; intro w' hw'; have hb := below_of_regrown hw'; clear hw'; (try replace hb := below_undrew hb); (try replace hb := below_undrewN hb); obtain ⟨hcell, hfroz⟩ := bcell hb; have hz := hb.size; (try simp at hz); (try (have z6 := Nat.lt_of_lt_of_le z7 hz)); (try (have z7 := Nat.lt_of_lt_of_le z8 hz)); (try (have z8 := Nat.lt_of_lt_of_le z9 hz)); (try (have z9 := Nat.lt_of_lt_of_le (Nat.lt_succ_self _) hz)); (try (have z0 : w.heap.size < w'.heap.size := by omega)); (try (have z1 : w.heap.size + 1 < w'.heap.size := by omega)); (try (have z2 : w.heap.size + 1 + 1 < w'.heap.size := by omega)); (try (have z3 : w.heap.size + 1 + 1 + 1 < w'.heap.size := by omega)); (try (have y1 : w1.heap.size < w'.heap.size := by omega)); (try (have y2 : w2.heap.size < w'.heap.size := by omega)); (try (have y3 : w3.heap.size < w'.heap.size := by omega)); (try (have y4 : w4.heap.size < w'.heap.size := by omega)); (try (have y5 : w5.heap.size < w'.heap.size := by omega)); (try (have y6 : w6.heap.size < w'.heap.size := by omega))
          go_wp2
          go_roundw
          case rel => exact ⟨m, _, rfl, rfl, by omega, by omega, R.out, bl_step hb hbw⟩
          case measure => first | (simp [intOf]; done) | (simp [intOf]; omega)

end Go.Proofs.Ytoagcbamlnhkhaa
