/- Several small texts in one: XNm, XNn. -/
import Derived.Test.YtjceofmhodcefaaGreatNu
import Derived.Test.YtjceofmhodcefaaGreatNv
import Derived.Deep.DeepCutAuto
import Derived.Deep.Cut
namespace Go.Proofs.YtjceofmhodcefaaGreat
open Go.RowKit

theorem stopHere {p : Prop} (h : Hid p) : p := h
theorem over_step (x y i : Nat) (hy : 0 < y) :
    (x / pw (i + 1) % y * 268435456 + x / pw i % 268435456) / y = x / y / pw i % 268435456 ∧ (x / pw (i + 1) % y * 268435456 + x / pw i % 268435456) % y = x / pw i % y ∧ x / pw (i + 1) % y * 268435456 + x / pw i % 268435456 < y * 268435456 := by
  have e1 : x / pw (i + 1) = x / pw i / 268435456 := by rw [pw_succ, Nat.div_div_eq_div_mul]
  have e2 : x / y / pw i = x / pw i / y := by rw [Nat.div_div_eq_div_mul, Nat.div_div_eq_div_mul, Nat.mul_comm]
  rw [e1, e2]
  generalize x / pw i = Z
  have h1 := Nat.div_add_mod Z 268435456
  have h2 := Nat.div_add_mod (Z / 268435456) y
  have r1 := Nat.mod_lt (Z / 268435456) hy
  have r2 := Nat.mod_lt Z (show 0 < 268435456 by decide)
  generalize Z / 268435456 / y = Qq at *
  generalize Z / 268435456 % y = R at *
  generalize Z % 268435456 = a at *
  generalize Z / 268435456 = D at *
  have hv : R * 268435456 + a < y * 268435456 := by
    have : (R + 1) * 268435456 ≤ y * 268435456 := Nat.mul_le_mul_right _ r1
    omega
  have eZ : Z = R * 268435456 + a + y * (Qq * 268435456) := by
    rw [← h1, ← h2, Nat.mul_add, Nat.mul_comm 268435456 R, Nat.mul_comm 268435456 (y * Qq), Nat.mul_assoc y Qq]
    omega
  refine ⟨?_, ?_, hv⟩
  · rw [eZ, Nat.add_mul_div_left _ _ hy]
    have : (R * 268435456 + a) / y < 268435456 := Nat.div_lt_of_lt_mul hv
    generalize (R * 268435456 + a) / y = S at *
    clear hv eZ h1 h2
    omega
  · rw [eZ, Nat.add_mul_mod_self_left]
theorem dgs_cons (m R a : Nat) (ha : a < 268435456) : [Value.int .i64 (a : Int)] ++ dgs m R = dgs (m + 1) (R * 268435456 + a) := by
  apply List.ext_getElem?
  intro j
  by_cases hj : j < m + 1
  · rw [dgs_get hj]
    cases j with
    | zero =>
      have : dg (R * 268435456 + a) 0 = a := by unfold dg; rw [pw_zero, Nat.div_one]; congr 1; omega
      rw [this]; rfl
    | succ j =>
      rw [show [Value.int .i64 (a : Int)] ++ dgs m R = Value.int .i64 (a : Int) :: dgs m R from rfl, List.getElem?_cons_succ, dgs_get (by omega)]
      have : dg (R * 268435456 + a) (j + 1) = dg R j := by
        unfold dg
        rw [pw_succ, Nat.mul_comm (pw j), ← Nat.div_div_eq_div_mul, show (R * 268435456 + a) / 268435456 = R by omega]
      rw [this]
  · rw [List.getElem?_eq_none (by simp [dgs_len]; omega), List.getElem?_eq_none (by rw [dgs_len]; omega)]
theorem cons_lt {m R a : Nat} (hR : R < pw m) (ha : a < 268435456) : R * 268435456 + a < pw (m + 1) := by
  rw [pw_succ]
  have : (R + 1) * 268435456 ≤ pw m * 268435456 := Nat.mul_le_mul_right _ hR
  omega
/-- two slices of digits: quotient and remainder -/
def OverRes (w : World) (q r : Nat) (e : Ending) (w' : World) : Prop := ∃ A n c B m k, e = .returned (.tuple #[.slice A n c, .slice B m k]) ∧ (Dig w' A n c q ∧ Fr w.heap.size A) ∧ (Dig w' B m k r ∧ Fr w.heap.size B) ∧ Below w.heap.size w w'
theorem digr_one {w : World} {g t : Nat} (a : Nat) (ha : a < 268435456) (hg : g = w.heap.size) : DigR (w.alloc (Obj.cells #[.int .i64 (a : Int)] t)) (some ⟨g, 0, none⟩) 1 1 a := by
  subst hg
  have e : pw 1 = 268435456 := by decide
  refine ⟨by omega, Nat.le_refl _, .inr ⟨_, rfl, by simp, fun j hj => ?_⟩⟩
  obtain rfl : j = 0 := by omega
  have : dg a 0 = a := by unfold dg; rw [pw_zero, Nat.div_one]; congr 1; omega
  rw [this]
  simp
theorem dig_one {w : World} {g t : Nat} (a : Nat) (ha : a < 268435456) (h0 : 0 < a) (hg : g = w.heap.size) : Dig (w.alloc (Obj.cells #[.int .i64 (a : Int)] t)) (some ⟨g, 0, none⟩) 1 1 a :=
  ⟨digr_one a ha hg, fun _ => by rw [pw_zero]; omega⟩

set_option maxRecDepth 100000 in
set_option maxHeartbeats 4000000 in
theorem over02_any (A1 A2 : Option Addr) (n1 n2 c1 c2 x y : Nat) (w : World) (h1 : Dig w A1 n1 c1 x) (h2 : Dig w A2 n2 c2 y) (hy : 0 < y) (l1 : n1 ≤ 30) (l2 : n2 ≤ 30) :
    Calls Tryz.prog 82 #[.slice A1 n1 c1, .slice A2 n2 c2] w (OverRes w (x / y) (x % y)) := by
  obtain ⟨i0, hi, hz0, hz1, hz2⟩ := info_parts infoInt
  go_enter Tryz.func82, Tryz.ntmps82
  go_wp2_with (at_make; refine wpList_make_full _ rfl _ _ 26 rfl w.heap.size 3 i0 (.int .i64 0) 1 Tryz.underlying26 hi hz0 hz1 .i64 .i64 (↑n1) (↑n1) n1 rfl rfl (by simp) (by simp) (by rw [hz2]; omega) (by unfold maxLen; omega) (Nat.le_refl _) ?_; intro wm hown hgrow)
  have hbm : Below w.heap.size w wm := Below.grown (Below.refl _ _) hgrow (Nat.le_refl _) (fun j hj => by cases hj)
  rw [fl_made n1 0 rfl] at hown
  clear hgrow
  have H1 := hidden h1
  have H2 := hidden h2
  have HY := hidden hy
  go_wp2
  go_loopw [6, 8] (fun rv iv wr => ∃ (i : Nat) (t : Int) (A : Option Addr) (m c : Nat) (f : Nat → Int), iv = .int .i64 t ∧ t = (i : Int) - 1 ∧ i ≤ n1 ∧ rv = .slice A m c ∧ Dig wr A m c (x / pw i % y) ∧ Fr (w.heap.size + 1) A ∧ Hid (∀ j, i ≤ j → j < n1 → f j = dg (x / y) j) ∧ wr.ownsRow w.heap.size 3 1 (.slice (some ⟨w.heap.size, 0, none⟩) n1 n1) n1 (flD n1 f) ∧ Below w.heap.size w wr) (fun _ iv _ => (intOf iv + 1).toNat)
  case atStart =>
    have z : x / pw n1 % y = 0 := by rw [Nat.div_eq_of_lt H1.out.1.1, Nat.zero_mod]
    exact ⟨n1, _, none, 0, 0, dg 0, rfl, rfl, Nat.le_refl _, rfl, by rw [z]; exact ⟨⟨by rw [pw_zero]; omega, Nat.le_refl _, .inl ⟨rfl, rfl⟩⟩, fun h => absurd h (by omega)⟩, (fun a e => by cases e), (fun j h h' => absurd h (by omega)), by rw [fl_dgs (x := 0) (fun j _ => rfl)]; exact hown, hbm⟩
  case round =>
    clear hown hbm
    obtain ⟨i, t, A, m, c, f, rfl, ht, hin, rfl, hd, hfr, hf, hown, hbw⟩ := hrel
    by_cases a1 : i = 0
    · subst a1
      obtain rfl : t = -1 := by omega
      clear ht
      rw [fl_dgs (x := x / y) (fun q hq => hf.out q (by omega) hq)] at hown
      have qb : x / y < pw n1 := Nat.lt_of_le_of_lt (Nat.div_le_self _ _) H1.out.1.1
      have R := hidden (own_dig hown qb)
      have TR := hidden (trim02_any _ _ _ _ wr R.out (by omega))
      rw [show x / pw 0 % y = x % y by rw [pw_zero, Nat.div_one]] at hd
      have HD := hidden hd
      have HF := hidden hfr
      clear hown hd hfr hf qb
      go_wp2_with (go_at_call 94; ((with_reducible refine TR.out.mono ?_); rintro e w' ⟨A', n', c', rfl, hd', fr, hb⟩); have FR := hidden fr; have HD2 := hidden hd'; clear fr hd'; (try replace hb := below_undrew hb); (try replace hb := below_undrewN hb); obtain ⟨hcell, hfroz⟩ := bcell hb; have hz := hb.size; (try simp at hz); (try (have z6 := Nat.lt_of_lt_of_le z7 hz)); (try (have z7 := Nat.lt_of_lt_of_le z8 hz)); (try (have z8 := Nat.lt_of_lt_of_le z9 hz)); (try (have z9 := Nat.lt_of_lt_of_le (Nat.lt_succ_self _) hz)); (try (have z0 : w.heap.size < w'.heap.size := by omega)); (try (have z1 : w.heap.size + 1 < w'.heap.size := by omega)); (try (have z2 : w.heap.size + 1 + 1 < w'.heap.size := by omega)); (try (have z3 : w.heap.size + 1 + 1 + 1 < w'.heap.size := by omega)); (try (have y5 : w5.heap.size < w'.heap.size := by omega)))
      go_ret2
      exact ⟨A', n', c', A, m, c, rfl, ⟨HD2.out, FR.out.le hbw.size⟩, ⟨HD.out.below hb, HF.out.le (by omega)⟩, bl_step hb hbw⟩
    · obtain ⟨j, rfl⟩ : ∃ j, i = j + 1 := ⟨i - 1, by omega⟩
      obtain rfl : t = (j : Int) := by omega
      clear ht
      obtain ⟨g1, rfl, hg1, _⟩ := h1.1.get (by omega)
      have x1 := h1.1.cell hbw (by omega : j < n1)
      have s1 : g1 < wr.heap.size := Nat.lt_of_lt_of_le hg1 hbw.size
      have st := over_step x y j hy
      have ST := hidden st
      have av := dg_bd x j
      obtain ⟨a, ea⟩ : ∃ a, x / pw j % 268435456 = a := ⟨_, rfl⟩
      have ea2 : dg x j = (a : Int) := by unfold dg; rw [ea]
      have ab : a < 268435456 := by omega
      rw [ea2] at x1
      rw [ea] at ST
      obtain ⟨R, eR⟩ : ∃ R, x / pw (j + 1) % y = R := ⟨_, rfl⟩
      rw [eR] at hd ST
      have HD := hidden hd
      have HF := hidden hfr
      have HO := hidden hown
      have SZ := hbw.size
      have OL := (hown.lt _ rfl).2
      clear st av ea ea2 eR hd hfr hown
      go_upto_region 6 with fail
      go_cut [6] from 22 to 29 (fun s6 wx => ∃ (A' : Option Addr) (m' c' : Nat), s6 = .slice A' m' c' ∧ Dig wx A' m' c' (R * 268435456 + a) ∧ Fr wr.heap.size A' ∧ Below wr.heap.size wr wx)
      case first =>
        have hml : m ≤ 30 := HD.out.few (Nat.lt_of_lt_of_le (by have := ST.out.2.2; omega : R < y) (Nat.le_of_lt (Nat.lt_of_lt_of_le H2.out.1.1 (pw_le l2))))
        have TR := hidden fun (A : Option Addr) (c : Nat) (v : World) (h : DigR v A (m + 1) c (R * 268435456 + a)) => trim02_any A (m + 1) c _ v h (by omega)
        rcases HD.out.1.2.2 with ⟨rfl, h0⟩ | ⟨g, rfl, hg, hc⟩
        · obtain rfl : c = 0 := h0
          obtain rfl : m = 0 := by have := HD.out.1.2.1; omega
          have R0 : R = 0 := by have := HD.out.1.1; rw [pw_zero] at this; omega
          subst R0
          go_wp2_with (at_builtin; refine stopHere ?_)
          unfold Hid
          refine wpList_append_own_none rfl (.tmp 26) (.tmp 27) _ rfl wr.heap.size 3 i0 1 Tryz.underlying26 hi _ 1 [.int .i64 (a : Int)] rfl (World.ownsRow_lit wr #[.int .i64 (a : Int)] 1 (Nat.le_refl _) (by unfold maxLen; omega) rfl) rfl ?_
          have RD := hidden (by simpa using digr_one (w := wr) (t := 3) a ab rfl : DigR (wr.alloc (Obj.cells #[.int .i64 (a : Int)] 3)) (some ⟨wr.heap.size, 0, none⟩) (0 + 1) 1 (0 * 268435456 + a))
          go_wp2_with (go_at_call 94; ((with_reducible refine (TR.out _ _ _ ?dd).mono ?_); (case dd => exact RD.out); rintro e w' ⟨A', n', c', rfl, hd', fr, hb⟩); have FR := hidden fr; have HD2 := hidden hd'; clear fr hd'; (try replace hb := below_undrew hb); (try replace hb := below_undrewN hb); obtain ⟨hcell, hfroz⟩ := bcell hb; have hz := hb.size; (try simp at hz); (try (have z6 := Nat.lt_of_lt_of_le z7 hz)); (try (have z7 := Nat.lt_of_lt_of_le z8 hz)); (try (have z8 := Nat.lt_of_lt_of_le z9 hz)); (try (have z9 := Nat.lt_of_lt_of_le (Nat.lt_succ_self _) hz)); (try (have z0 : w.heap.size < w'.heap.size := by omega)); (try (have z1 : w.heap.size + 1 < w'.heap.size := by omega)); (try (have z2 : w.heap.size + 1 + 1 < w'.heap.size := by omega)); (try (have z3 : w.heap.size + 1 + 1 + 1 < w'.heap.size := by omega)); (try (have y5 : w5.heap.size < w'.heap.size := by omega)))
          go_meet
          exact ⟨A', n', c', rfl, HD2.out, FR.out.le (by simp), by (repeat (first | (with_reducible exact Below.refl _ _) | (with_reducible refine Below.setCell ?_ (by (first | (simp; done) | (simp; omega) | omega)) _) | (with_reducible refine bl_alloc ?_ _) | (with_reducible refine bl_drewN ?_) | (with_reducible refine bl_drew ?_) | (with_reducible refine bl_step (by assumption) ?_)))⟩
        · go_wp2_with (at_builtin; refine stopHere ?_)
          unfold Hid
          refine (wpList_append_own _ rfl (.tmp 26) (.tmp 27) _ rfl wr.heap.size 3 i0 (.int .i64 0) 1 8 Tryz.underlying26 hi hz0 hz1 hz2 rfl (by decide) (.slice (some ⟨wr.heap.size, 0, none⟩) 1 1) 1 [.int .i64 (a : Int)] rfl (World.ownsRow_lit wr #[.int .i64 (a : Int)] 1 (Nat.le_refl _) (by unfold maxLen; omega) rfl) ⟨g, 0, none⟩ m c (dgs m R) rfl (by simp [dgs]) (dgs_new HD.out.1 ((Below.refl _ _).alloc (Nat.le_refl _) _) (Nat.le_refl _)) (dgs_one _ _) (by unfold maxLen; omega) (by omega) (by simp) ?_)
          intro v' w1 hown' hgrow _
          have hbA : Below wr.heap.size wr w1 := Below.grown ((Below.refl _ _).alloc (Nat.le_refl _) _) hgrow (by simp) (fun j hj => Nat.le_of_eq (by simpa [Value.ownBlock] using hj))
          rw [dgs_cons m R a ab, Nat.add_comm 1 m] at hown'
          obtain ⟨A2', c2', rfl, hdr⟩ := DigR.own hown' (cons_lt HD.out.1.1 ab)
          have RD := hidden hdr
          clear hgrow hown' hdr
          go_wp2_with (go_at_call 94; ((with_reducible refine (TR.out _ _ _ ?dd).mono ?_); (case dd => exact RD.out); rintro e w' ⟨A', n', c', rfl, hd', fr, hb⟩); have FR := hidden fr; have HD2 := hidden hd'; clear fr hd'; (try replace hb := below_undrew hb); (try replace hb := below_undrewN hb); obtain ⟨hcell, hfroz⟩ := bcell hb; have hz := hb.size; (try simp at hz); (try (have z6 := Nat.lt_of_lt_of_le z7 hz)); (try (have z7 := Nat.lt_of_lt_of_le z8 hz)); (try (have z8 := Nat.lt_of_lt_of_le z9 hz)); (try (have z9 := Nat.lt_of_lt_of_le (Nat.lt_succ_self _) hz)); (try (have z0 : w.heap.size < w'.heap.size := by omega)); (try (have z1 : w.heap.size + 1 < w'.heap.size := by omega)); (try (have z2 : w.heap.size + 1 + 1 < w'.heap.size := by omega)); (try (have z3 : w.heap.size + 1 + 1 + 1 < w'.heap.size := by omega)); (try (have y5 : w5.heap.size < w'.heap.size := by omega)))
          go_meet
          exact ⟨A', n', c', rfl, HD2.out, FR.out.le hbA.size, by (repeat (first | (with_reducible exact Below.refl _ _) | (with_reducible refine Below.setCell ?_ (by (first | (simp; done) | (simp; omega) | omega)) _) | (with_reducible refine bl_alloc ?_ _) | (with_reducible refine bl_drewN ?_) | (with_reducible refine bl_drew ?_) | (with_reducible refine bl_step (by assumption) ?_)))⟩
      case rest =>
        obtain ⟨A', m', c', rfl, hd2, hf2, hb2⟩ := hcut
        have HD2 := hidden hd2
        have HF2 := hidden hf2
        have hbc := bl_step hb2 hbw
        have HV := hidden hb2
        obtain ⟨v, ev⟩ : ∃ v, R * 268435456 + a = v := ⟨_, rfl⟩
        rw [ev] at HD2 ST
        have yb : y < pw 30 := Nat.lt_of_lt_of_le H2.out.1.1 (pw_le l2)
        clear hd2 hf2 hb2 ev
        go_wp2
        go_loopw [9, 10] (fun lv hv wi => ∃ lo hi : Nat, lv = .int .i64 lo ∧ hv = .int .i64 hi ∧ lo ≤ hi ∧ hi ≤ 268435455 ∧ Hid (lo * y ≤ v) ∧ Hid (v < (hi + 1) * y) ∧ Below wc.heap.size wc wi) (fun lv hv _ => (intOf hv - intOf lv).toNat)
        case atStart => exact ⟨0, 268435455, rfl, rfl, by omega, by omega, by unfold Hid; omega, by unfold Hid; have := ST.out.2.2; omega, Below.refl _ _⟩
        case round =>
          obtain ⟨lo, hi2, rfl, rfl, hlh, hh, hlo, hhi, hbi⟩ := hrel
          by_cases e1 : lo < hi2
          · have q1 : decide ((lo : Int) < hi2) = true := by simp; omega
            obtain ⟨p, ep⟩ : ∃ p : Nat, (lo + hi2 + 1) / 2 = p := ⟨_, rfl⟩
            have p1 : ((lo : Int) + hi2 + 1).tdiv 2 = p := by rw [Int.tdiv_eq_ediv_of_nonneg (by omega)]; omega
            have p2 : lo + 1 ≤ p := by omega
            have p3 : p ≤ hi2 := by omega
            have TM := hidden fun (u : World) (hu : Below wc.heap.size wc u) => times02_any A2 (some ⟨u.heap.size, 0, none⟩) n2 1 c2 1 y p (u.alloc (Obj.cells #[.int .i64 (p : Int)] 3)) (H2.out.below (bl_alloc (bl_step hu hbc) _)) (dig_one p (by omega) (by omega) rfl) (by omega) (by omega)
            have vb : v < pw 31 := by
              have h3 := ST.out.2.2
              have h4 : y * 268435456 ≤ pw 30 * 268435456 := Nat.mul_le_mul_right _ (Nat.le_of_lt yb)
              have h5 : pw 31 = pw 30 * 268435456 := pw_succ 30
              omega
            have pb : y * p < pw 31 := by
              have h3 : y * p ≤ y * 268435456 := Nat.mul_le_mul_left _ (by omega)
              have h4 : (y + 1) * 268435456 ≤ pw 30 * 268435456 := Nat.mul_le_mul_right _ yb
              have h5 : pw 31 = pw 30 * 268435456 := pw_succ 30
              omega
            have ml : m' ≤ 31 := HD2.out.few vb
            have OR := hidden fun (A3 : Option Addr) (n3 c3 : Nat) (u : World) (h3 : Dig u A3 n3 c3 (y * p)) (h4 : Dig u A' m' c' v) => order02_any A3 A' n3 m' c3 c' (y * p) v u h3 h4 (by have := h3.few pb; omega) (by omega)
            obtain ⟨k, ek⟩ : ∃ k, cmpN (y * p) v = k := ⟨_, rfl⟩
            rw [ek] at OR
            clear ep vb pb
            by_cases le : y * p ≤ v
            · have k0 : k ≤ 0 := by
                rw [← ek]
                rcases Nat.lt_or_ge (y * p) v with h | h
                · rw [cmpN_lt h]; decide
                · rw [cmpN_eq (by omega)]; decide
              have LE := hidden le
              clear ek le
              go_wp2_with ((first | (go_at_call 80; ((with_reducible refine (TM.out _ hbi).mono ?_); rintro e w' ⟨A3, n3, c3, rfl, hd3, hf3, hb⟩); have HD3 := hidden hd3; clear hd3 hf3) | (go_at_call 77; ((with_reducible refine (OR.out _ _ _ _ ?d3 ?d4).mono ?_); (case d3 => exact HD3.out); (case d4 => exact HD2.out.below (by (repeat (first | (with_reducible exact Below.refl _ _) | (with_reducible refine Below.setCell ?_ (by (first | (simp; done) | (simp; omega) | omega)) _) | (with_reducible refine bl_alloc ?_ _) | (with_reducible refine bl_drewN ?_) | (with_reducible refine bl_drew ?_) | (with_reducible refine bl_step (by assumption) ?_))))); rintro e w' ⟨rfl, hb⟩))); (try replace hb := below_undrew hb); (try replace hb := below_undrewN hb); obtain ⟨hcell, hfroz⟩ := bcell hb; have hz := hb.size; (try simp at hz); (try (have z6 := Nat.lt_of_lt_of_le z7 hz)); (try (have z7 := Nat.lt_of_lt_of_le z8 hz)); (try (have z8 := Nat.lt_of_lt_of_le z9 hz)); (try (have z9 := Nat.lt_of_lt_of_le (Nat.lt_succ_self _) hz)); (try (have z0 : w.heap.size < w'.heap.size := by omega)); (try (have z1 : w.heap.size + 1 < w'.heap.size := by omega)); (try (have z2 : w.heap.size + 1 + 1 < w'.heap.size := by omega)); (try (have z3 : w.heap.size + 1 + 1 + 1 < w'.heap.size := by omega)); (try (have y5 : w5.heap.size < w'.heap.size := by omega)))
              exact ⟨⟨p, hi2, rfl, rfl, p3, hh, by unfold Hid; rw [Nat.mul_comm]; exact LE.out, hhi, by (repeat (first | (with_reducible exact Below.refl _ _) | (with_reducible refine Below.setCell ?_ (by (first | (simp; done) | (simp; omega) | omega)) _) | (with_reducible refine bl_alloc ?_ _) | (with_reducible refine bl_drewN ?_) | (with_reducible refine bl_drew ?_) | (with_reducible refine bl_step (by assumption) ?_)))⟩, by simp [intOf]; omega⟩
            · have k0 : ¬ k ≤ 0 := by rw [← ek, cmpN_gt (by omega)]; decide
              have LE := hidden le
              clear ek le
              go_wp2_with ((first | (go_at_call 80; ((with_reducible refine (TM.out _ hbi).mono ?_); rintro e w' ⟨A3, n3, c3, rfl, hd3, hf3, hb⟩); have HD3 := hidden hd3; clear hd3 hf3) | (go_at_call 77; ((with_reducible refine (OR.out _ _ _ _ ?d3 ?d4).mono ?_); (case d3 => exact HD3.out); (case d4 => exact HD2.out.below (by (repeat (first | (with_reducible exact Below.refl _ _) | (with_reducible refine Below.setCell ?_ (by (first | (simp; done) | (simp; omega) | omega)) _) | (with_reducible refine bl_alloc ?_ _) | (with_reducible refine bl_drewN ?_) | (with_reducible refine bl_drew ?_) | (with_reducible refine bl_step (by assumption) ?_))))); rintro e w' ⟨rfl, hb⟩))); (try replace hb := below_undrew hb); (try replace hb := below_undrewN hb); obtain ⟨hcell, hfroz⟩ := bcell hb; have hz := hb.size; (try simp at hz); (try (have z6 := Nat.lt_of_lt_of_le z7 hz)); (try (have z7 := Nat.lt_of_lt_of_le z8 hz)); (try (have z8 := Nat.lt_of_lt_of_le z9 hz)); (try (have z9 := Nat.lt_of_lt_of_le (Nat.lt_succ_self _) hz)); (try (have z0 : w.heap.size < w'.heap.size := by omega)); (try (have z1 : w.heap.size + 1 < w'.heap.size := by omega)); (try (have z2 : w.heap.size + 1 + 1 < w'.heap.size := by omega)); (try (have z3 : w.heap.size + 1 + 1 + 1 < w'.heap.size := by omega)); (try (have y5 : w5.heap.size < w'.heap.size := by omega)))
              exact ⟨⟨lo, p - 1, rfl, by go_num, by omega, by omega, hlo, by unfold Hid; rw [show p - 1 + 1 = p by omega, Nat.mul_comm]; have := LE.out; omega, by (repeat (first | (with_reducible exact Below.refl _ _) | (with_reducible refine Below.setCell ?_ (by (first | (simp; done) | (simp; omega) | omega)) _) | (with_reducible refine bl_alloc ?_ _) | (with_reducible refine bl_drewN ?_) | (with_reducible refine bl_drew ?_) | (with_reducible refine bl_step (by assumption) ?_)))⟩, by simp [intOf]; omega⟩
          · have e2 : hi2 = lo := by omega
            subst e2
            have vq : v / y = hi2 := by
              have a1 := hlo.out
              have a2 := hhi.out
              exact Nat.div_eq_of_lt_le a1 a2
            have hwi := bl_step hbi hbc
            have sw : w.heap.size < wr.heap.size := Nat.lt_of_lt_of_le OL (Nat.le_trans HV.out.size hbi.size)
            have ow := hidden (own_later hbi (own_later HV.out HO.out))
            have x3 := ow.out.cellAt j (by omega)
            rw [fl_get (by omega : j < n1)] at x3
            have z3 := ow.out.frozenAt j
            have t3 : (0 : Int) ≤ j := by omega
            have t4 : (j : Int) < n1 := by omega
            have S1 := ST.out.1
            rw [vq] at S1
            have S2 := ST.out.2.1
            have Rst := ow.out.stored j (.int .i64 (hi2 : Int))
            rw [fl_set] at Rst
            have OW2 := hidden Rst.1
            have nA : ∀ b, A' = some b → b.block ≠ w.heap.size := fun b e => by have := HF2.out b e; omega
            have nB : ∀ b, A2 = some b → b.block ≠ w.heap.size := fun b e => by have := H2.out.lt b e; omega
            have DR := hidden ((HD2.out.below hbi).store ⟨w.heap.size, j, none⟩ (.int .i64 (hi2 : Int)) nA)
            have DB := hidden ((H2.out.below hwi).store ⟨w.heap.size, j, none⟩ (.int .i64 (hi2 : Int)) nB)
            have WS := hidden (hwi.setCell (p := ⟨w.heap.size, j, none⟩) (Nat.le_refl _) (.int .i64 (hi2 : Int)))
            have mz : (wr.setCell ⟨w.heap.size, j, none⟩ (.int .i64 (hi2 : Int))).heap.size = wr.heap.size := by simp
            have vb : v < pw 31 := by
              have h3 := ST.out.2.2
              have h4 : y * 268435456 ≤ pw 30 * 268435456 := Nat.mul_le_mul_right _ (Nat.le_of_lt yb)
              have h5 : pw 31 = pw 30 * 268435456 := pw_succ 30
              omega
            have ml : m' ≤ 31 := HD2.out.few vb
            have HLO := hidden hlo.out
            have HVQ := hidden vq
            have SS := hidden (show (hi2 : Int) = dg (x / y) j ∧ v % y = x / pw j % y from ⟨by unfold dg; rw [← S1], S2⟩)
            clear S1 S2 Rst nA nB vq vb
            go_upto_region 14 with fail
            generalize wr.setCell ⟨w.heap.size, j, none⟩ (.int .i64 (hi2 : Int)) = ws at *
            have TM := hidden fun (A3 : Option Addr) (n3 c3 : Nat) (u : World) (hu : Below ws.heap.size ws u) (h3 : Dig u A3 n3 c3 hi2) => times02_any A2 A3 n2 n3 c2 c3 y hi2 u (DB.out.below hu) h3 (by omega) (by have := h3.few (m := 1) (by have : pw 1 = 268435456 := (by decide); omega); omega)
            have LS := hidden fun (A3 : Option Addr) (n3 c3 : Nat) (u : World) (hu : Below ws.heap.size ws u) (h3 : Dig u A3 n3 c3 (y * hi2)) => less02_any A' A3 m' n3 c' c3 v (y * hi2) u (DR.out.below hu) h3 (by rw [Nat.mul_comm]; exact HLO.out) (by omega)
            go_wp2_with ((first | (go_at_call 94; ((with_reducible refine (trim02_any _ _ _ hi2 _ ?dd (by omega)).mono ?_); (case dd => exact digr_one hi2 (by omega) mz.symm); rintro e w' ⟨A3, n3, c3, rfl, hd3, hf3, hb⟩); have HD3 := hidden hd3; clear hd3 hf3; have nm0 := trivial) | (go_at_call 80; ((with_reducible refine (TM.out _ _ _ _ ?bb ?d3).mono ?_); (case bb => (repeat (first | (with_reducible exact Below.refl _ _) | (with_reducible refine Below.setCell ?_ (by (first | (simp; done) | (simp; omega) | omega)) _) | (with_reducible refine bl_alloc ?_ _) | (with_reducible refine bl_drewN ?_) | (with_reducible refine bl_drew ?_) | (with_reducible refine bl_step (by assumption) ?_))); done); (case d3 => exact HD3.out); rintro e w' ⟨A4, n4, c4, rfl, hd4, hf4, hb⟩); have HD4 := hidden hd4; clear hd4 hf4; have nm1 := trivial) | (go_at_call 79; ((with_reducible refine (LS.out _ _ _ _ ?bb ?d3).mono ?_); (case bb => (repeat (first | (with_reducible exact Below.refl _ _) | (with_reducible refine Below.setCell ?_ (by (first | (simp; done) | (simp; omega) | omega)) _) | (with_reducible refine bl_alloc ?_ _) | (with_reducible refine bl_drewN ?_) | (with_reducible refine bl_drew ?_) | (with_reducible refine bl_step (by assumption) ?_))); done); (case d3 => exact HD4.out); rintro e w' ⟨A5, n5, c5, rfl, hd5, hf5, hb⟩); have HD5 := hidden hd5; have HF5 := hidden hf5; clear hd5 hf5; have nm2 := trivial)); (try replace hb := below_undrew hb); (try replace hb := below_undrewN hb); obtain ⟨hcell, hfroz⟩ := bcell hb; have hz := hb.size; (try simp at hz); (try (have z6 := Nat.lt_of_lt_of_le z7 hz)); (try (have z7 := Nat.lt_of_lt_of_le z8 hz)); (try (have z8 := Nat.lt_of_lt_of_le z9 hz)); (try (have z9 := Nat.lt_of_lt_of_le (Nat.lt_succ_self _) hz)); (try (have z0 : w.heap.size < w'.heap.size := by omega)); (try (have z1 : w.heap.size + 1 < w'.heap.size := by omega)); (try (have z2 : w.heap.size + 1 + 1 < w'.heap.size := by omega)); (try (have z3 : w.heap.size + 1 + 1 + 1 < w'.heap.size := by omega)); (try (have y5 : w5.heap.size < w'.heap.size := by omega)); (first | (clear nm0) | (clear nm1; obtain ⟨w5, rfl⟩ : ∃ v, v = w' := ⟨_, rfl⟩) | (clear nm2)))
            have hbz : Below ws.heap.size ws w' := by (repeat (first | (with_reducible exact Below.refl _ _) | (with_reducible refine Below.setCell ?_ (by (first | (simp; done) | (simp; omega) | omega)) _) | (with_reducible refine bl_alloc ?_ _) | (with_reducible refine bl_drewN ?_) | (with_reducible refine bl_drew ?_) | (with_reducible refine bl_step (by assumption) ?_)))
            have hsz := hbz.size
            have e5 : v - y * hi2 = x / pw j % y := by
              have h3 := Nat.div_add_mod v y
              rw [HVQ.out, SS.out.2] at h3
              omega
            have HD6 := HD5.out
            rw [e5] at HD6
            exact ⟨⟨j, (j : Int) - 1, A5, n5, c5, (fun q => if q = j then (hi2 : Int) else f q), rfl, rfl, by omega, rfl, HD6, HF5.out.le (by first | omega | (simp; omega)), (fun q h3 h4 => by
              show (if q = j then (hi2 : Int) else f q) = dg (x / y) q
              by_cases e : q = j
              · subst e; rw [if_pos rfl]; exact SS.out.1
              · rw [if_neg e]; exact hf.out q (by omega) h4), own_later hbz OW2.out, bl_step hbz WS.out⟩, by first | (simp [intOf]; done) | (simp [intOf]; omega)⟩

end Go.Proofs.YtjceofmhodcefaaGreat

namespace Go.Proofs.YtjceofmhodcefaaGreat
open Go.RowKit

theorem down_pos (x y : Nat) : ((x : Int) / (y : Int)) = ((x / y : Nat) : Int) := by simp
theorem down_neg (x y : Nat) (hy : 0 < y) : (-(x : Int)) / (y : Int) = if 0 < x % y then -((x / y + 1 : Nat) : Int) else -((x / y : Nat) : Int) := by
  have h := Nat.div_add_mod x y
  have r := Nat.mod_lt x hy
  generalize x / y = q at *
  generalize x % y = m at *
  split
  · have e : (-(x : Int)) = ((y : Int) - m) + (y : Int) * (-((q + 1 : Nat) : Int)) := by
      rw [← h]; push_cast; rw [Int.mul_neg, Int.mul_add]; omega
    rw [e, Int.add_mul_ediv_left _ _ (by omega), Int.ediv_eq_zero_of_lt (by omega) (by omega)]
    omega
  · have e : (-(x : Int)) = 0 + (y : Int) * (-(q : Int)) := by
      rw [← h]; push_cast; rw [Int.mul_neg]; omega
    rw [e, Int.add_mul_ediv_left _ _ (by omega), Int.zero_ediv]
    omega
theorem fr3 {w : World} {A : Option Addr} {N : Nat} (h : Fr N A) (hN : w.heap.size + 2 < N) : ∀ a, A = some a → a.block ≠ w.heap.size + 1 + 1 := fun a e => by have := h a e; omega
set_option maxRecDepth 100000 in
set_option maxHeartbeats 4000000 in
theorem down02_pos (A1 A2 : Option Addr) (n1 n2 c1 c2 x y : Nat) (w : World) (h1 : Dig w A1 n1 c1 x) (h2 : Dig w A2 n2 c2 y) (hy : 0 < y) (l1 : n1 ≤ 30) (l2 : n2 ≤ 30) :
    Calls Tryz.prog 56 #[.agg #[.slice A1 n1 c1, .bool false], .agg #[.slice A2 n2 c2, .bool false]] w (NumRes w ((x / y : Nat) : Int)) := by
  obtain ⟨z, ez⟩ : ∃ z : Int, ((x / y : Nat) : Int) = z := ⟨_, rfl⟩
  have EZ := hidden (show z.natAbs = x / y ∧ 0 ≤ z by clear h1 h2; generalize x / y = q at *; omega)
  rw [ez]
  clear ez
  have OV := hidden fun (u : World) (hu : Below w.heap.size w u) => over02_any A1 A2 n1 n2 c1 c2 x y u (h1.below hu) (h2.below hu) hy l1 l2
  clear h1 h2
  go_enter Tryz.func56, Tryz.ntmps56
  go_wp2_with (go_at_call 82; ((with_reducible refine (OV.out _ ?bb).mono ?_); (case bb => (repeat (first | (with_reducible exact Below.refl _ _) | (with_reducible refine Below.setCell ?_ (by (first | (simp; done) | (simp; omega) | omega)) _) | (with_reducible refine bl_alloc ?_ _) | (with_reducible refine bl_drewN ?_) | (with_reducible refine bl_drew ?_) | (with_reducible refine bl_step (by assumption) ?_))); done); rintro e w' ⟨B1, m1, k1, B2, m2, k2, rfl, hq, hr, hb⟩); have HQ := hidden hq; have HR := hidden hr; clear hq hr; (try replace hb := below_undrew hb); (try replace hb := below_undrewN hb); obtain ⟨hcell, hfroz⟩ := bcell hb; have hz := hb.size; (try simp at hz); (try (have z6 := Nat.lt_of_lt_of_le z7 hz)); (try (have z7 := Nat.lt_of_lt_of_le z8 hz)); (try (have z8 := Nat.lt_of_lt_of_le z9 hz)); (try (have z9 := Nat.lt_of_lt_of_le (Nat.lt_succ_self _) hz)); (try (have z0 : w.heap.size < w'.heap.size := by omega)); (try (have z1 : w.heap.size + 1 < w'.heap.size := by omega)); (try (have z2 : w.heap.size + 1 + 1 < w'.heap.size := by omega)); (try (have z3 : w.heap.size + 1 + 1 + 1 < w'.heap.size := by omega)); obtain ⟨w5, rfl⟩ : ∃ v, v = w' := ⟨_, rfl⟩)
  have ne := fr3 (w := w) HQ.out.2 (by simp)
  exact bodyPost_ret (v := .agg #[.slice B1 m1 k1, .bool false]) (by first | (simp only [results, Tryz.results56]; go_simp; done) | simp [results, Tryz.results56, go_sem, *]) rfl ⟨B1, m1, k1, _, rfl, by rw [EZ.out.1]; exact (HQ.out.1.store ⟨w.heap.size + 1 + 1, 0, none⟩ _ ne).store ⟨w.heap.size + 1 + 1, 1, none⟩ _ ne, (decide_eq_false (by have := EZ.out.2; omega)).symm, HQ.out.2.le (by simp; omega), by (repeat (first | (with_reducible exact Below.refl _ _) | (with_reducible refine Below.setCell ?_ (by (first | (simp; done) | (simp; omega) | omega)) _) | (with_reducible refine bl_alloc ?_ _) | (with_reducible refine bl_drewN ?_) | (with_reducible refine bl_drew ?_) | (with_reducible refine bl_step (by assumption) ?_)))⟩
theorem sgb_true {n : Nat} (h : 0 < n) : sgb n true = true := by unfold sgb; rw [if_neg (by omega)]
set_option maxRecDepth 100000 in
set_option maxHeartbeats 4000000 in
theorem down02_neg1 (A1 A2 : Option Addr) (n1 n2 c1 c2 x y : Nat) (w : World) (h1 : Dig w A1 n1 c1 x) (h2 : Dig w A2 n2 c2 y) (hy : 0 < y) (l1 : n1 ≤ 29) (l2 : n2 ≤ 30) (hr : 0 < x % y) :
    Calls Tryz.prog 56 #[.agg #[.slice A1 n1 c1, .bool true], .agg #[.slice A2 n2 c2, .bool false]] w (NumRes w (-((x / y + 1 : Nat) : Int))) := by
  obtain ⟨z, ez⟩ : ∃ z : Int, -((x / y + 1 : Nat) : Int) = z := ⟨_, rfl⟩
  have EZ := hidden (show z.natAbs = x / y + 1 ∧ z < 0 by clear h1 h2 hr; generalize x / y = q at *; omega)
  rw [ez]
  clear ez
  have OV := hidden fun (u : World) (hu : Below w.heap.size w u) => over02_any A1 A2 n1 n2 c1 c2 x y u (h1.below hu) (h2.below hu) hy (by omega) l2
  have xb := h1.1.1
  have qb : x / y < pw 30 := Nat.lt_of_le_of_lt (Nat.div_le_self _ _) (Nat.lt_of_lt_of_le xb (pw_le (by omega)))
  have SU := hidden fun (B1 : Option Addr) (m1 k1 : Nat) (u : World) (hd : Dig u B1 m1 k1 (x / y)) => sum02_any B1 (some ⟨u.heap.size, 0, none⟩) m1 1 k1 1 (x / y) 1 (u.alloc (Obj.cells #[.int .i64 1] 3)) (hd.below (bl_alloc (Below.refl _ _) _)) (show Dig (u.alloc (Obj.cells #[.int .i64 1] 3)) (some ⟨u.heap.size, 0, none⟩) 1 1 1 from dig_one 1 (by decide) (by decide) rfl) qb (by exact Nat.lt_of_lt_of_le (by decide : 1 < pw 1) (pw_le (by decide)))
  have SG := hidden fun (A : Option Addr) (n c : Nat) (u : World) => sign02_any A n c true u
  have HRR := hidden hr
  clear h1 h2 xb qb hr
  go_enter Tryz.func56, Tryz.ntmps56
  go_wp2_with fail
  go_at_call 82
  refine (OV.out _ (by (repeat (first | (with_reducible exact Below.refl _ _) | (with_reducible refine Below.setCell ?_ (by (first | (simp; done) | (simp; omega) | omega)) _) | (with_reducible refine bl_alloc ?_ _) | (with_reducible refine bl_drewN ?_) | (with_reducible refine bl_drew ?_) | (with_reducible refine bl_step (by assumption) ?_))))).mono ?_
  rintro e w' ⟨B1, m1, k1, B2, m2, k2, rfl, hq, hr, hb⟩
  have HQ := hidden hq
  have m2p : 0 < m2 := by
    rcases Nat.eq_zero_or_pos m2 with h | h
    · have := hr.1.pos.1 h; have := HRR.out; omega
    · exact h
  have q1 : decide (0 < m2) = true := by simp; omega
  clear hq hr
  (try replace hb := below_undrew hb); (try replace hb := below_undrewN hb); obtain ⟨hcell, hfroz⟩ := bcell hb; have hz := hb.size; (try simp at hz); (try (have z6 := Nat.lt_of_lt_of_le z7 hz)); (try (have z7 := Nat.lt_of_lt_of_le z8 hz)); (try (have z8 := Nat.lt_of_lt_of_le z9 hz)); (try (have z9 := Nat.lt_of_lt_of_le (Nat.lt_succ_self _) hz)); (try (have z0 : w.heap.size < w'.heap.size := by omega)); (try (have z1 : w.heap.size + 1 < w'.heap.size := by omega)); (try (have z2 : w.heap.size + 1 + 1 < w'.heap.size := by omega)); (try (have z3 : w.heap.size + 1 + 1 + 1 < w'.heap.size := by omega)); (try (have y5 : w5.heap.size < w'.heap.size := by omega)); (try (have y6 : w6.heap.size < w'.heap.size := by omega))
  obtain ⟨w5, rfl⟩ : ∃ v, v = w' := ⟨_, rfl⟩
  go_wp2_with ((first | (go_at_call 76; ((with_reducible refine (SU.out _ _ _ _ ?dd).mono ?_); (case dd => exact HQ.out.1.below (by (repeat (first | (with_reducible exact Below.refl _ _) | (with_reducible refine Below.setCell ?_ (by (first | (simp; done) | (simp; omega) | omega)) _) | (with_reducible refine bl_alloc ?_ _) | (with_reducible refine bl_drewN ?_) | (with_reducible refine bl_drew ?_) | (with_reducible refine bl_step (by assumption) ?_))))); rintro e w' ⟨A3, n3, c3, rfl, hd3, hf3, hb⟩); have HD3 := hidden hd3; have HF3 := hidden hf3; clear hd3 hf3; have nm0 := trivial) | (go_at_call 78; ((with_reducible refine (SG.out _ _ _ _).mono ?_); rintro e w' ⟨rfl, hb⟩); have nm1 := trivial)); (try replace hb := below_undrew hb); (try replace hb := below_undrewN hb); obtain ⟨hcell, hfroz⟩ := bcell hb; have hz := hb.size; (try simp at hz); (try (have z6 := Nat.lt_of_lt_of_le z7 hz)); (try (have z7 := Nat.lt_of_lt_of_le z8 hz)); (try (have z8 := Nat.lt_of_lt_of_le z9 hz)); (try (have z9 := Nat.lt_of_lt_of_le (Nat.lt_succ_self _) hz)); (try (have z0 : w.heap.size < w'.heap.size := by omega)); (try (have z1 : w.heap.size + 1 < w'.heap.size := by omega)); (try (have z2 : w.heap.size + 1 + 1 < w'.heap.size := by omega)); (try (have z3 : w.heap.size + 1 + 1 + 1 < w'.heap.size := by omega)); (try (have y5 : w5.heap.size < w'.heap.size := by omega)); (try (have y6 : w6.heap.size < w'.heap.size := by omega)); (first | (clear nm0; obtain ⟨w6, rfl⟩ : ∃ v, v = w' := ⟨_, rfl⟩) | (clear nm1; obtain ⟨w7, rfl⟩ : ∃ v, v = w' := ⟨_, rfl⟩)))
  have n3p : 0 < n3 := by
    rcases Nat.eq_zero_or_pos n3 with h | h
    · exact absurd (HD3.out.pos.1 h) (Nat.succ_ne_zero _)
    · exact h
  have sg : sgb n3 true = true := sgb_true n3p
  have ne := fr3 (w := w) HF3.out (by simp; omega)
  exact bodyPost_ret (v := .agg #[.slice A3 n3 c3, .bool true]) (by first | (simp only [results, Tryz.results56]; go_simp; done) | simp [results, Tryz.results56, go_sem, *]) rfl ⟨A3, n3, c3, _, rfl, by rw [EZ.out.1]; exact ((HD3.out.below (by (repeat (first | (with_reducible exact Below.refl _ _) | (with_reducible refine Below.setCell ?_ (by (first | (simp; done) | (simp; omega) | omega)) _) | (with_reducible refine bl_alloc ?_ _) | (with_reducible refine bl_drewN ?_) | (with_reducible refine bl_drew ?_) | (with_reducible refine bl_step (by assumption) ?_))))).store ⟨w.heap.size + 1 + 1, 0, none⟩ _ ne).store ⟨w.heap.size + 1 + 1, 1, none⟩ _ ne, (decide_eq_true EZ.out.2).symm, HF3.out.le (by simp; omega), by (repeat (first | (with_reducible exact Below.refl _ _) | (with_reducible refine Below.setCell ?_ (by (first | (simp; done) | (simp; omega) | omega)) _) | (with_reducible refine bl_alloc ?_ _) | (with_reducible refine bl_drewN ?_) | (with_reducible refine bl_drew ?_) | (with_reducible refine bl_step (by assumption) ?_)))⟩

set_option maxRecDepth 100000 in
set_option maxHeartbeats 4000000 in
theorem down02_neg0 (A1 A2 : Option Addr) (n1 n2 c1 c2 x y : Nat) (w : World) (h1 : Dig w A1 n1 c1 x) (h2 : Dig w A2 n2 c2 y) (hy : 0 < y) (l1 : n1 ≤ 30) (l2 : n2 ≤ 30) (hr : x % y = 0) :
    Calls Tryz.prog 56 #[.agg #[.slice A1 n1 c1, .bool true], .agg #[.slice A2 n2 c2, .bool false]] w (NumRes w (-((x / y : Nat) : Int))) := by
  obtain ⟨z, ez⟩ : ∃ z : Int, -((x / y : Nat) : Int) = z := ⟨_, rfl⟩
  have EZ := hidden (show z.natAbs = x / y ∧ (z < 0 ↔ x / y ≠ 0) by clear h1 h2 hr; generalize x / y = q at *; omega)
  rw [ez]
  clear ez
  have OV := hidden fun (u : World) (hu : Below w.heap.size w u) => over02_any A1 A2 n1 n2 c1 c2 x y u (h1.below hu) (h2.below hu) hy l1 l2
  have SG := hidden fun (A : Option Addr) (n c : Nat) (u : World) => sign02_any A n c true u
  have HRR := hidden hr
  clear h1 h2 hr
  go_enter Tryz.func56, Tryz.ntmps56
  go_wp2_with fail
  go_at_call 82
  refine (OV.out _ (by (repeat (first | (with_reducible exact Below.refl _ _) | (with_reducible refine Below.setCell ?_ (by (first | (simp; done) | (simp; omega) | omega)) _) | (with_reducible refine bl_alloc ?_ _) | (with_reducible refine bl_drewN ?_) | (with_reducible refine bl_drew ?_) | (with_reducible refine bl_step (by assumption) ?_))))).mono ?_
  rintro e w' ⟨B1, m1, k1, B2, m2, k2, rfl, hq, hr, hb⟩
  have HQ := hidden hq
  have m2p : m2 = 0 := hr.1.pos.2 HRR.out
  subst m2p
  have sg : sgb m1 true = decide (z < 0) := by
    unfold sgb
    by_cases h : m1 = 0
    · rw [if_pos h]; exact (decide_eq_false (fun h2 => (EZ.out.2.1 h2) (hq.1.pos.1 h))).symm
    · rw [if_neg h]; exact (decide_eq_true (EZ.out.2.2 (fun h2 => h (hq.1.pos.2 h2)))).symm
  have SGB := hidden sg
  clear hq hr sg
  (try replace hb := below_undrew hb); (try replace hb := below_undrewN hb); obtain ⟨hcell, hfroz⟩ := bcell hb; have hz := hb.size; (try simp at hz); (try (have z6 := Nat.lt_of_lt_of_le z7 hz)); (try (have z7 := Nat.lt_of_lt_of_le z8 hz)); (try (have z8 := Nat.lt_of_lt_of_le z9 hz)); (try (have z9 := Nat.lt_of_lt_of_le (Nat.lt_succ_self _) hz)); (try (have z0 : w.heap.size < w'.heap.size := by omega)); (try (have z1 : w.heap.size + 1 < w'.heap.size := by omega)); (try (have z2 : w.heap.size + 1 + 1 < w'.heap.size := by omega)); (try (have z3 : w.heap.size + 1 + 1 + 1 < w'.heap.size := by omega)); (try (have y5 : w5.heap.size < w'.heap.size := by omega))
  obtain ⟨w5, rfl⟩ : ∃ v, v = w' := ⟨_, rfl⟩
  go_wp2_with (go_at_call 78; ((with_reducible refine (SG.out _ _ _ _).mono ?_); rintro e w' ⟨rfl, hb⟩); (try replace hb := below_undrew hb); (try replace hb := below_undrewN hb); obtain ⟨hcell, hfroz⟩ := bcell hb; have hz := hb.size; (try simp at hz); (try (have z6 := Nat.lt_of_lt_of_le z7 hz)); (try (have z7 := Nat.lt_of_lt_of_le z8 hz)); (try (have z8 := Nat.lt_of_lt_of_le z9 hz)); (try (have z9 := Nat.lt_of_lt_of_le (Nat.lt_succ_self _) hz)); (try (have z0 : w.heap.size < w'.heap.size := by omega)); (try (have z1 : w.heap.size + 1 < w'.heap.size := by omega)); (try (have z2 : w.heap.size + 1 + 1 < w'.heap.size := by omega)); (try (have z3 : w.heap.size + 1 + 1 + 1 < w'.heap.size := by omega)); (try (have y5 : w5.heap.size < w'.heap.size := by omega)); obtain ⟨w7, rfl⟩ : ∃ v, v = w' := ⟨_, rfl⟩)
  have ne := fr3 (w := w) HQ.out.2 (by simp)
  exact bodyPost_ret (v := .agg #[.slice B1 m1 k1, .bool (sgb m1 true)]) (by first | (simp only [results, Tryz.results56]; go_simp; done) | simp [results, Tryz.results56, go_sem, *]) rfl ⟨B1, m1, k1, _, rfl, by rw [EZ.out.1]; exact ((HQ.out.1.below (by (repeat (first | (with_reducible exact Below.refl _ _) | (with_reducible refine Below.setCell ?_ (by (first | (simp; done) | (simp; omega) | omega)) _) | (with_reducible refine bl_alloc ?_ _) | (with_reducible refine bl_drewN ?_) | (with_reducible refine bl_drew ?_) | (with_reducible refine bl_step (by assumption) ?_))))).store ⟨w.heap.size + 1 + 1, 0, none⟩ _ ne).store ⟨w.heap.size + 1 + 1, 1, none⟩ _ ne, SGB.out, HQ.out.2.le (by simp; omega), by (repeat (first | (with_reducible exact Below.refl _ _) | (with_reducible refine Below.setCell ?_ (by (first | (simp; done) | (simp; omega) | omega)) _) | (with_reducible refine bl_alloc ?_ _) | (with_reducible refine bl_drewN ?_) | (with_reducible refine bl_drew ?_) | (with_reducible refine bl_step (by assumption) ?_)))⟩
/-- the quotient rounded down, for a positive divisor -/
theorem down02_any (A1 A2 : Option Addr) (n1 n2 c1 c2 : Nat) (x y : Int) (w : World) (h1 : Dig w A1 n1 c1 x.natAbs) (h2 : Dig w A2 n2 c2 y.natAbs) (hy : 0 < y) (l1 : n1 ≤ 29) (l2 : n2 ≤ 30) :
    Calls Tryz.prog 56 #[.agg #[.slice A1 n1 c1, .bool (decide (x < 0))], .agg #[.slice A2 n2 c2, .bool (decide (y < 0))]] w (NumRes w (x / y)) := by
  obtain ⟨b, rfl⟩ : ∃ b : Nat, y = b := ⟨y.toNat, by omega⟩
  rw [Int.natAbs_natCast] at h2
  rw [show decide (((b : Nat) : Int) < 0) = false by simp]
  have hb : 0 < b := by omega
  by_cases hx : x < 0
  · obtain ⟨a, rfl⟩ : ∃ a : Nat, x = -(a : Int) := ⟨(-x).toNat, by omega⟩
    rw [Int.natAbs_neg, Int.natAbs_natCast] at h1
    rw [decide_eq_true hx, down_neg a b hb]
    split
    · rename_i h
      exact down02_neg1 A1 A2 n1 n2 c1 c2 a b w h1 h2 hb l1 l2 h
    · rename_i h
      exact down02_neg0 A1 A2 n1 n2 c1 c2 a b w h1 h2 hb (by omega) l2 (by omega)
  · obtain ⟨a, rfl⟩ : ∃ a : Nat, x = a := ⟨x.toNat, by omega⟩
    rw [Int.natAbs_natCast] at h1
    rw [decide_eq_false hx, down_pos]
    exact down02_pos A1 A2 n1 n2 c1 c2 a b w h1 h2 hb (by omega) l2

end Go.Proofs.YtjceofmhodcefaaGreat
