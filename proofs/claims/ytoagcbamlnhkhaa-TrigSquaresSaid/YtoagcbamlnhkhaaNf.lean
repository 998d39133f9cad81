/- Times of the reference of layer 2. -/
import Derived.Test.YtoagcbamlnhkhaaNb
import Derived.OwnWalk
namespace Go.Proofs.Ytoagcbamlnhkhaa
open Go.RowKit

theorem pw_add (m n : Nat) : pw (m + n) = pw m * pw n := Nat.pow_add 268435456 m n
/-- the product so far: of the first i digits, and of the next one with the first k digits of the other -/
def tP (x y i : Nat) : Nat := x % pw i * y
def tT (x y i k : Nat) : Nat := tP x y i + x / pw i % 268435456 * (y % pw k) * pw i
def tC (x y i k : Nat) : Int := ((tT x y i k / pw (i + k) : Nat) : Int) - ((tP x y i / pw (i + k) : Nat) : Int)
theorem tT_zero (x y i : Nat) : tT x y i 0 = tP x y i := by unfold tT; rw [pw_zero, Nat.mod_one]; simp
theorem tT_succ (x y i k : Nat) : tT x y i (k + 1) = tT x y i k + x / pw i % 268435456 * (y / pw k % 268435456) * pw (i + k) := by
  unfold tT
  rw [pw_succ, Nat.mod_mul, pw_add]
  generalize x / pw i % 268435456 = a
  generalize y / pw k % 268435456 = b
  rw [Nat.mul_add, Nat.add_mul, Nat.add_assoc]
  congr 2
  rw [Nat.mul_left_comm a (pw k) b, Nat.mul_comm (pw i) (pw k), Nat.mul_comm (pw k) (a * b), Nat.mul_assoc]
theorem tP_succ (x y i : Nat) : tP x y (i + 1) = tP x y i + x / pw i % 268435456 * y * pw i := by
  unfold tP
  rw [pw_succ, Nat.mod_mul, Nat.add_mul]
  congr 1
  rw [Nat.mul_comm (pw i), Nat.mul_assoc, Nat.mul_assoc, Nat.mul_comm (pw i) y]
theorem tT_end {x y i n : Nat} (h : y < pw n) : tT x y i n = tP x y (i + 1) := by
  rw [tP_succ]
  unfold tT
  rw [Nat.mod_eq_of_lt h]
theorem tP_lt {x y i n : Nat} (h : y < pw n) : tP x y i < pw (i + n) := by
  unfold tP
  rw [pw_add]
  have := Nat.mod_lt x (pw_pos i)
  exact Nat.lt_of_le_of_lt (Nat.mul_le_mul_right y (Nat.le_of_lt this)) (Nat.mul_lt_mul_of_pos_left h (pw_pos i))
theorem dg_add_mul (t m : Nat) {j q : Nat} (h : j < q) : dg (t + m * pw q) j = dg t j := by
  obtain ⟨r, rfl⟩ : ∃ r, q = r + 1 + j := ⟨q - 1 - j, by omega⟩
  unfold dg
  rw [pw_add, ← Nat.mul_assoc, Nat.add_mul_div_right _ _ (pw_pos j), pw_succ, ← Nat.mul_assoc]
  generalize m * pw r = z
  generalize t / pw j = u
  omega
theorem tC_zero (x y i : Nat) : tC x y i 0 = 0 := by unfold tC; rw [tT_zero]; omega
theorem times_step (x y i k : Nat) (o a b c : Int) (ho : o = dg (tP x y i) (i + k)) (ha : a = dg x i) (hb : b = dg y k) (hc : c = tC x y i k) (_c0 : 0 ≤ c) :
    (o + a * b + c) % 268435456 = dg (tT x y i (k + 1)) (i + k) ∧ (o + a * b + c) / 268435456 = tC x y i (k + 1) := by
  have e : tT x y i (k + 1) / pw (i + k) = tT x y i k / pw (i + k) + x / pw i % 268435456 * (y / pw k % 268435456) := by
    rw [tT_succ, Nat.add_mul_div_right _ _ (pw_pos _)]
  have hab : a * b = ((x / pw i % 268435456 * (y / pw k % 268435456) : Nat) : Int) := by rw [ha, hb]; unfold dg; rw [Int.natCast_mul]
  unfold tC at hc ⊢
  rw [hab]
  rw [show i + (k + 1) = i + k + 1 by omega, pw_succ, ← Nat.div_div_eq_div_mul, ← Nat.div_div_eq_div_mul]
  unfold dg at ho ⊢
  rw [e]
  generalize x / pw i % 268435456 * (y / pw k % 268435456) = m at *
  generalize tT x y i k / pw (i + k) = u at *
  generalize tP x y i / pw (i + k) = v at *
  omega
theorem times_top {x y i n : Nat} (h : y < pw n) : tC x y i n = dg (tP x y (i + 1)) (i + n) := by
  unfold tC dg
  rw [tT_end h, Nat.div_eq_of_lt (tP_lt h)]
  have e := tP_lt (x := x) (i := i + 1) h
  rw [show i + 1 + n = i + n + 1 by omega, pw_succ] at e
  have e2 : tP x y (i + 1) / pw (i + n) < 268435456 := Nat.div_lt_of_lt_mul e
  rw [Nat.mod_eq_of_lt e2]
  omega
theorem tT_low (x y i k : Nat) {j : Nat} (h : j < i + k) : dg (tT x y i (k + 1)) j = dg (tT x y i k) j := by rw [tT_succ]; exact dg_add_mul _ _ h

def fl (n : Nat) (f : Nat → Int) : List Value := (List.range n).map fun j => .int .i64 (f j)
theorem fl_get {n : Nat} {f : Nat → Int} {j : Nat} (h : j < n) : (fl n f)[j]? = some (.int .i64 (f j)) := by simp [fl, h]
theorem fl_set (n : Nat) (f : Nat → Int) (j : Nat) (u : Int) : (fl n f).set j (.int .i64 u) = fl n (fun m => if m = j then u else f m) := by
  apply List.ext_getElem?
  intro m
  rw [List.getElem?_set]
  unfold fl
  by_cases h : j = m
  · subst h
    by_cases hm : j < n
    · simp [hm]
    · simp [hm]
  · by_cases hm : m < n
    · simp [hm, h, Ne.symm h]
    · simp [hm, h]
theorem fl_dgs {n x : Nat} {f : Nat → Int} (h : ∀ j, j < n → f j = dg x j) : fl n f = dgs n x := by
  unfold fl dgs
  apply List.map_congr_left
  intro j hj
  rw [h j (by simpa using hj)]
theorem fl_made (n x : Nat) (hx : x = 0) : (madeCells (Value.int .i64 0).cells (n * 1)).toList = dgs n x := by
  rw [show (Value.int IntKind.i64 0).cells = #[Value.int .i64 0] by rfl, toList_madeCells_one, Nat.mul_one]
  subst hx
  unfold dgs
  apply List.ext_getElem?
  intro j
  by_cases hj : j < n
  · simp [hj, dg]
  · simp [hj]

set_option maxRecDepth 100000 in
set_option maxHeartbeats 4000000 in
theorem times02_any (A1 A2 : Option Addr) (n1 n2 c1 c2 x y : Nat) (w : World) (h1 : Dig w A1 n1 c1 x) (h2 : Dig w A2 n2 c2 y) (l1 : n1 ≤ 40) (l2 : n2 ≤ 40) :
    Calls Try.prog 57 #[.slice A1 n1 c1, .slice A2 n2 c2] w (DigRes w (x * y)) := by
  obtain ⟨i0, hi, hz0, hz1, hz2⟩ := info_parts infoInt
  go_enter Try.func57, Try.ntmps57
  go_wp2_with (at_make; refine wpList_make_full _ rfl _ _ 34 rfl w.heap.size 3 i0 (.int .i64 0) 1 Try.underlying34 hi hz0 hz1 .i64 .i64 (↑n1 + ↑n2) (↑n1 + ↑n2) (n1 + n2) rfl rfl (by simp) (by simp) (by rw [hz2]; omega) (by unfold maxLen; omega) (Nat.le_refl _) ?_; intro wm hown hgrow)
  have hbm : Below w.heap.size w wm := Below.grown (Below.refl _ _) hgrow (Nat.le_refl _) (fun j hj => by cases hj)
  rw [fl_made (n1 + n2) (tP x y 0) (by unfold tP; rw [pw_zero, Nat.mod_one, Nat.zero_mul])] at hown
  clear hgrow
  go_wp2
  go_loopw [6] (fun iv wr => ∃ i : Nat, iv = .int .i64 i ∧ i ≤ n1 ∧ wr.ownsRow w.heap.size 3 1 (.slice (some ⟨w.heap.size, 0, none⟩) (n1 + n2) (n1 + n2)) (n1 + n2) (dgs (n1 + n2) (tP x y i)) ∧ Below w.heap.size w wr) (fun iv _ => n1 - (intOf iv).toNat)
  case atStart => exact ⟨0, rfl, by omega, hown, hbm⟩
  case round =>
    clear hown hbm
    obtain ⟨i, rfl, hin, hown, hbw⟩ := hrel
    by_cases a1 : i < n1
    · obtain ⟨g1, rfl, hg1, _⟩ := h1.1.get (by omega)
      have c0 := hidden (tC_zero x y i)
      go_wp2
      go_loopw [7, 8] (fun cv kv wr => ∃ (k : Nat) (c : Int) (f : Nat → Int), kv = .int .i64 k ∧ cv = .int .i64 c ∧ k ≤ n2 ∧ 0 ≤ c ∧ c ≤ 268435455 ∧ Hid (c = tC x y i k) ∧ Hid (∀ j, f j = if j < i + k then dg (tT x y i k) j else dg (tP x y i) j) ∧ wr.ownsRow w.heap.size 3 1 (.slice (some ⟨w.heap.size, 0, none⟩) (n1 + n2) (n1 + n2)) (n1 + n2) (fl (n1 + n2) f) ∧ Below w.heap.size w wr) (fun _ kv _ => n2 - (intOf kv).toNat)
      case atStart => exact ⟨0, 0, dg (tP x y i), rfl, rfl, by omega, by omega, by omega, c0.out.symm, (fun j => by rw [tT_zero]; split <;> rfl), hown, hbw⟩
      case round =>
        clear hown hbw c0
        obtain ⟨k, c, f, rfl, rfl, hkn, c0, c1', hc, hf, hown, hbw⟩ := hrel
        by_cases a2 : k < n2
        · obtain ⟨g2, rfl, hg2, _⟩ := h2.1.get (by omega)
          have x1 := h1.1.cell hbw a1
          have x2 := h2.1.cell hbw a2
          have x3 := hown.cellAt (i + k) (by omega)
          rw [fl_get (by omega : i + k < n1 + n2)] at x3
          have fo : f (i + k) = dg (tP x y i) (i + k) := by rw [hf.out, if_neg (by omega)]
          have s1 : g1 < wr.heap.size := Nat.lt_of_lt_of_le hg1 hbw.size
          have s2 : g2 < wr.heap.size := Nat.lt_of_lt_of_le hg2 hbw.size
          have s3 : w.heap.size < wr.heap.size := (hown.lt _ rfl).2
          have z3 := hown.frozenAt (i + k)
          rw [fo] at x3
          have d1 := dg_bd x i
          have d2 := dg_bd y k
          have d3 := dg_bd (tP x y i) (i + k)
          have st := times_step x y i k _ _ _ c rfl rfl rfl hc.out c0
          obtain ⟨a, ea⟩ : ∃ a, dg x i = a := ⟨_, rfl⟩
          obtain ⟨b, eb⟩ : ∃ b, dg y k = b := ⟨_, rfl⟩
          obtain ⟨o, eo⟩ : ∃ o, dg (tP x y i) (i + k) = o := ⟨_, rfl⟩
          rw [ea] at d1 st x1
          rw [eb] at d2 st x2
          rw [eo] at d3 st x3
          obtain ⟨m, em⟩ : ∃ m, a * b = m := ⟨_, rfl⟩
          have m0 : 0 ≤ m := by rw [← em]; exact Int.mul_nonneg d1.1 d2.1
          have m1 : m ≤ 268435455 * 268435455 := by rw [← em]; exact Int.mul_le_mul d1.2 d2.2 d2.1 (by decide)
          rw [em] at st
          obtain ⟨d10, d11⟩ := d1
          obtain ⟨d20, d21⟩ := d2
          obtain ⟨d30, d31⟩ := d3
          have ST := hidden st
          clear st ea eb eo fo
          have t1 : IntKind.i64.wrap ((i : Int) + k) = i + k := by rw [IntKind.wrap_i64]; omega
          have t2 : ((i : Int) + k).toNat = i + k := by omega
          have t3 : 0 ≤ (i : Int) + k := by omega
          have t4 : (i : Int) + k < ↑n1 + ↑n2 := by omega
          have t5 : IntKind.i64.wrap m = m := by rw [IntKind.wrap_i64]; omega
          have t6 : IntKind.i64.wrap (o + m) = o + m := by rw [IntKind.wrap_i64]; omega
          have t7 : IntKind.i64.wrap (o + m + c) = o + m + c := by rw [IntKind.wrap_i64]; omega
          go_wp2
          refine wp_region_quiet_below (by kernel_rfl) (by kernel_rfl) ?_
          repeat (first | go_big_quiet_step (fail) | quiet_step (fail))
          refine wpQuiet_nil ?_; intro w' hw'; have hb := below_of_regrown hw'; clear hw'; (try replace hb := below_undrew hb); (try replace hb := below_undrewN hb); obtain ⟨hcell, hfroz⟩ := bcell hb; have hz := hb.size; (try simp at hz); (try (have z6 := Nat.lt_of_lt_of_le z7 hz)); (try (have z7 := Nat.lt_of_lt_of_le z8 hz)); (try (have z8 := Nat.lt_of_lt_of_le z9 hz)); (try (have z9 := Nat.lt_of_lt_of_le (Nat.lt_succ_self _) hz)); (try (have z0 : w.heap.size < w'.heap.size := by omega)); (try (have z1 : w.heap.size + 1 < w'.heap.size := by omega)); (try (have z2 : w.heap.size + 1 + 1 < w'.heap.size := by omega)); (try (have z3 : w.heap.size + 1 + 1 + 1 < w'.heap.size := by omega)); (try (have y1 : w1.heap.size < w'.heap.size := by omega)); (try (have y2 : w2.heap.size < w'.heap.size := by omega)); (try (have y3 : w3.heap.size < w'.heap.size := by omega)); (try (have y4 : w4.heap.size < w'.heap.size := by omega)); (try (have y5 : w5.heap.size < w'.heap.size := by omega)); (try (have y6 : w6.heap.size < w'.heap.size := by omega))
          have x4 : w'.cell? ⟨w.heap.size, i + k, none⟩ = some (.int .i64 o) := (hcell _ _ s3).trans x3
          have z4 : w'.frozen? ⟨w.heap.size, i + k, none⟩ = false := (hfroz _ _ s3).trans z3
          have hown2 := own_later hb hown
          have hb2 := bl_step hb hbw
          clear hcell hfroz x1 x2 x3 z3 hown hbw
          have HO := hidden hown2
          clear hown2
          go_wp2
          go_roundw
          case rel =>
            have R := HO.out.stored (i + k) (.int .i64 ((o + m + c) % 268435456))
            rw [fl_set] at R
            refine ⟨k + 1, _, _, by go_num, rfl, by omega, by omega, by omega, ST.out.2, fun j => ?_, R.1, hb2.setCell (by simp) _⟩
            have fj := hf.out j
            by_cases e1 : j = i + k
            · rw [if_pos e1, if_pos (by omega), e1]; exact ST.out.1
            · rw [if_neg e1, fj]
              by_cases e2 : j < i + k
              · rw [if_pos e2, if_pos (by omega), tT_low x y i k e2]
              · rw [if_neg e2, if_neg (by omega)]
          case measure => first | (simp [intOf]; done) | (simp [intOf]; omega)
        · obtain rfl : k = n2 := by omega
          have x3 := hown.cellAt (i + k) (by omega)
          rw [fl_get (by omega : i + k < n1 + k)] at x3
          have z3 := hown.frozenAt (i + k)
          have s3 : w.heap.size < wr.heap.size := (hown.lt _ rfl).2
          have hy := hidden h2.1.1
          have t1 : IntKind.i64.wrap ((i : Int) + k) = i + k := by rw [IntKind.wrap_i64]; omega
          have t2 : ((i : Int) + k).toNat = i + k := by omega
          have t3 : 0 ≤ (i : Int) + k := by omega
          have t4 : (i : Int) + k < ↑n1 + ↑k := by omega
          have HO := hidden hown
          clear hown
          go_wp2
          go_roundw
          case rel =>
            have R := HO.out.stored (i + k) (.int .i64 c)
            rw [fl_set, fl_dgs (x := tP x y (i + 1)) (fun j hj => by
              have fj := hf.out j
              by_cases e1 : j = i + k
              · rw [if_pos e1, e1, hc.out]; exact times_top hy.out
              · rw [if_neg e1, fj]
                by_cases e2 : j < i + k
                · rw [if_pos e2, tT_end hy.out]
                · rw [if_neg e2, dg_out (Nat.lt_of_lt_of_le (tP_lt hy.out) (pw_le (by omega))), dg_out (Nat.lt_of_lt_of_le (tP_lt hy.out) (pw_le (by omega)))])] at R
            exact ⟨i + 1, by go_num, by omega, R.1, hbw.setCell (by simp) _⟩
          case measure => first | (simp [intOf]; done) | (simp [intOf]; omega)
    · obtain rfl : i = n1 := by omega
      have R := hidden (own_dig hown (tP_lt h2.1.1))
      have e : Hid (tP x y i = x * y) := by unfold Hid tP; rw [Nat.mod_eq_of_lt h1.1.1]
      have T := hidden (trim02_any _ _ _ _ wr R.out (by omega))
      clear hown R
      go_wp2_with (go_at_call 68; ((with_reducible refine T.out.mono ?_); rintro e w' ⟨A', n', c', rfl, hd', fr, hb⟩); have FR := hidden fr; clear fr; (try replace hb := below_undrew hb); (try replace hb := below_undrewN hb); obtain ⟨hcell, hfroz⟩ := bcell hb; have hz := hb.size; (try simp at hz); (try (have z6 := Nat.lt_of_lt_of_le z7 hz)); (try (have z7 := Nat.lt_of_lt_of_le z8 hz)); (try (have z8 := Nat.lt_of_lt_of_le z9 hz)); (try (have z9 := Nat.lt_of_lt_of_le (Nat.lt_succ_self _) hz)); (try (have z0 : w.heap.size < w'.heap.size := by omega)); (try (have z1 : w.heap.size + 1 < w'.heap.size := by omega)); (try (have z2 : w.heap.size + 1 + 1 < w'.heap.size := by omega)); (try (have z3 : w.heap.size + 1 + 1 + 1 < w'.heap.size := by omega)); (try (have y1 : w1.heap.size < w'.heap.size := by omega)); (try (have y2 : w2.heap.size < w'.heap.size := by omega)); (try (have y3 : w3.heap.size < w'.heap.size := by omega)); (try (have y4 : w4.heap.size < w'.heap.size := by omega)); (try (have y5 : w5.heap.size < w'.heap.size := by omega)); (try (have y6 : w6.heap.size < w'.heap.size := by omega)))
      go_ret
      exact ⟨A', n', c', rfl, by rw [← e.out]; exact hd', FR.out.le hbw.size, bl_step hb hbw⟩

end Go.Proofs.Ytoagcbamlnhkhaa
