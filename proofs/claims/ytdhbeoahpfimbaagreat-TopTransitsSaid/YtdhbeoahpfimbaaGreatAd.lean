/- Several small texts in one: XArcT, XArcU. -/
import Derived.Test.YtdhbeoahpfimbaaGreatAc
import Derived.Test.YtdhbeoahpfimbaaGreatBrg
import Derived.Test.YtdhbeoahpfimbaaGreatBase
import Derived.Deep.Cut
import Derived.Deep.DeepCutAuto
import Derived.ChangeKeysEq
namespace Go.Proofs.YtdhbeoahpfimbaaGreat
open Go.RowKit Brg
set_option maxHeartbeats 1000000 in
theorem aless_walk (a b c d p q r s : Int) (v : Bool) (w : World)
    (hv : v = if a = p then (if b = q then (if c = r then (if d = s then false else decide (d < s)) else decide (c < r)) else decide (b < q)) else decide (a < p)) :
    Calls Tryz.prog 270 #[.agg #[.int .u64 a, .int .u64 b, .int .u64 c, .int .u64 d], .agg #[.int .u64 p, .int .u64 q, .int .u64 r, .int .u64 s]] w fun e w' => e = .returned (.bool v) ∧ Below w.heap.size w w' := by
  have HV := hidden hv
  clear hv
  go_enter Tryz.func270, Tryz.ntmps270
  go_wp2
  refine wp_loop_rounds 5 ?_
  by_cases h0 : a = p
  · subst h0
    rw [rounds_succ]
    go_wp2
    go_region
    go_wp2
    by_cases h1 : b = q
    · subst h1
      rw [rounds_succ]
      go_wp2
      go_region
      go_wp2
      by_cases h2 : c = r
      · subst h2
        rw [rounds_succ]
        go_wp2
        go_region
        go_wp2
        by_cases h3 : d = s
        · subst h3
          rw [rounds_succ]
          go_wp2
          go_region
          go_wp2
          rw [rounds_succ]
          go_wp2
          have e := HV.out
          simp at e
          subst e
          exact bodyPost_ret (v := .bool false) (by first | (simp only [results, Tryz.results270]; go_simp; done) | simp [results, Tryz.results270, go_sem, *]) rfl ⟨rfl, by (repeat (first | exact Below.refl _ _ | refine bl_drewN ?_ | refine bl_drew ?_ | refine bl_alloc ?_ _ | refine Below.setCell ?_ (by (first | (simp; done) | (simp; omega) | omega)) _ | refine bl_step (by assumption) ?_))⟩
        · have e := HV.out
          simp only [if_true, if_neg h3] at e
          rw [rounds_succ]
          go_wp2
          go_region
          go_wp2
          subst e
          go_region
          go_wp2
          exact bodyPost_ret (v := .bool (decide (d < s))) (by first | (simp only [results, Tryz.results270]; go_simp; done) | simp [results, Tryz.results270, go_sem, *]) rfl ⟨rfl, by (repeat (first | exact Below.refl _ _ | refine bl_drewN ?_ | refine bl_drew ?_ | refine bl_alloc ?_ _ | refine Below.setCell ?_ (by (first | (simp; done) | (simp; omega) | omega)) _ | refine bl_step (by assumption) ?_))⟩
      · have e := HV.out
        simp only [if_true, if_neg h2] at e
        rw [rounds_succ]
        go_wp2
        go_region
        go_wp2
        subst e
        go_region
        go_wp2
        exact bodyPost_ret (v := .bool (decide (c < r))) (by first | (simp only [results, Tryz.results270]; go_simp; done) | simp [results, Tryz.results270, go_sem, *]) rfl ⟨rfl, by (repeat (first | exact Below.refl _ _ | refine bl_drewN ?_ | refine bl_drew ?_ | refine bl_alloc ?_ _ | refine Below.setCell ?_ (by (first | (simp; done) | (simp; omega) | omega)) _ | refine bl_step (by assumption) ?_))⟩
    · have e := HV.out
      simp only [if_true, if_neg h1] at e
      rw [rounds_succ]
      go_wp2
      go_region
      go_wp2
      subst e
      go_region
      go_wp2
      exact bodyPost_ret (v := .bool (decide (b < q))) (by first | (simp only [results, Tryz.results270]; go_simp; done) | simp [results, Tryz.results270, go_sem, *]) rfl ⟨rfl, by (repeat (first | exact Below.refl _ _ | refine bl_drewN ?_ | refine bl_drew ?_ | refine bl_alloc ?_ _ | refine Below.setCell ?_ (by (first | (simp; done) | (simp; omega) | omega)) _ | refine bl_step (by assumption) ?_))⟩
  · have e := HV.out
    simp only [if_neg h0] at e
    rw [rounds_succ]
    go_wp2
    go_region
    go_wp2
    subst e
    go_region
    go_wp2
    exact bodyPost_ret (v := .bool (decide (a < p))) (by first | (simp only [results, Tryz.results270]; go_simp; done) | simp [results, Tryz.results270, go_sem, *]) rfl ⟨rfl, by (repeat (first | exact Below.refl _ _ | refine bl_drewN ?_ | refine bl_drew ?_ | refine bl_alloc ?_ _ | refine Below.setCell ?_ (by (first | (simp; done) | (simp; omega) | omega)) _ | refine bl_step (by assumption) ?_))⟩
theorem aless_any (A B : Int) (w : World) (a0 : 0 ≤ A) (a1 : A < W256) (b0 : 0 ≤ B) (b1 : B < W256) :
    Calls Tryz.prog 270 #[NUM A, NUM B] w fun e w' => e = .returned (.bool (decide (A < B))) ∧ Below w.heap.size w w' := by
  obtain ⟨a, b, c, d, ha, hb, hc, hd, eA, nA⟩ := NUM_words A a0 a1
  obtain ⟨p, q, r, s, hp, hq, hr, hs, eB, nB⟩ := NUM_words B b0 b1
  rw [nA, nB]
  refine aless_walk a b c d p q r s _ w ?_
  rw [eA, eB]
  unfold word at *
  unfold nv
  by_cases h0 : a = p
  · subst h0
    by_cases h1 : b = q
    · subst h1
      by_cases h2 : c = r
      · subst h2
        by_cases h3 : d = s
        · subst h3; simp
        · simp only [if_true, if_neg h3, decide_eq_decide]; omega
      · simp only [if_true, if_neg h2, decide_eq_decide]; omega
    · simp only [if_true, if_neg h1, decide_eq_decide]; omega
  · simp only [if_neg h0, decide_eq_decide]; omega
theorem pi_num : NUM arPi = .agg #[.int .u64 3, .int .u64 2611923443488327891, .int .u64 1376283091369227076, .int .u64 11820040416388919760] :=
  NUM_nv 3 2611923443488327891 1376283091369227076 11820040416388919760 (by unfold word; omega) (by unfold word; omega) (by unfold word; omega) (by unfold word; omega)
theorem api_is (w : World) : Calls Tryz.prog 305 #[] w fun e w' => e = .returned (NUM arPi) ∧ Below w.heap.size w w' := by
  rw [pi_num]
  go_enter Tryz.func305, Tryz.ntmps305
  go_wp2
  exact bodyPost_ret (v := .agg #[.int .u64 3, .int .u64 2611923443488327891, .int .u64 1376283091369227076, .int .u64 11820040416388919760]) (by first | (simp only [results, Tryz.results305]; go_simp; done) | simp [results, Tryz.results305, go_sem, *]) rfl ⟨rfl, by (repeat (first | exact Below.refl _ _ | refine bl_drewN ?_ | refine bl_drew ?_ | refine bl_alloc ?_ _ | refine Below.setCell ?_ (by (first | (simp; done) | (simp; omega) | omega)) _ | refine bl_step (by assumption) ?_))⟩
theorem one_num : NUM W192 = .agg #[.int .u64 1, .int .u64 0, .int .u64 0, .int .u64 0] :=
  NUM_nv 1 0 0 0 (by unfold word; omega) (by unfold word; omega) (by unfold word; omega) (by unfold word; omega)
theorem zero_num : NUM 0 = .agg #[.int .u64 0, .int .u64 0, .int .u64 0, .int .u64 0] :=
  NUM_nv 0 0 0 0 (by unfold word; omega) (by unfold word; omega) (by unfold word; omega) (by unfold word; omega)
theorem infoU : (Tryz.prog.info? 168).isSome = true := by kernel_rfl
theorem cellsU : Tryz.prog.cellsOf 168 = 1 := by kernel_rfl
set_option maxRecDepth 100000 in
theorem eq_num (e : Nat) (a b c d p q r s : Int) (w : World) : (Op.equalIn (e + 1 + 1) 271 (.agg #[.int .u64 a, .int .u64 b, .int .u64 c, .int .u64 d]) (.agg #[.int .u64 p, .int .u64 q, .int .u64 r, .int .u64 s])).run Tryz.prog w = .ok (decide (a = p ∧ b = q ∧ c = r ∧ d = s)) w := by
  obtain ⟨i, hi⟩ := Option.isSome_iff_exists.1 infoU
  rw [run_equalIn_array w (e + 1) _ _ Tryz.underlying271 hi, cellsU]
  have hr : List.range 4 = [0, 1, 2, 3] := rfl
  rw [hr]
  simp only [Op.eqItems]
  have p0 : ∀ (x y z u : Value) (w : World), (part 168 #[x, y, z, u] 0).run Tryz.prog w = .ok x w := fun _ _ _ _ _ => by kernel_rfl
  have p1 : ∀ (x y z u : Value) (w : World), (part 168 #[x, y, z, u] 1).run Tryz.prog w = .ok y w := fun _ _ _ _ _ => by kernel_rfl
  have p2 : ∀ (x y z u : Value) (w : World), (part 168 #[x, y, z, u] 2).run Tryz.prog w = .ok z w := fun _ _ _ _ _ => by kernel_rfl
  have p3 : ∀ (x y z u : Value) (w : World), (part 168 #[x, y, z, u] 3).run Tryz.prog w = .ok u w := fun _ _ _ _ _ => by kernel_rfl
  have hq : ∀ (x y : Int) (w : World), (Op.equalIn (e + 1) 168 (.int .u64 x) (.int .u64 y)).run Tryz.prog w = .ok (x == y) w := fun x y w => run_equalIn_int w e _ _ _ x y Tryz.underlying168
  simp only [Nat.mul_one, Sem.run_bind, p0, hq, Result.andThen_ok]
  by_cases h0 : a = p
  · by_cases h1 : b = q
    · by_cases h2 : c = r
      · by_cases h3 : d = s
        · simp [h0, h1, h2, h3, p1, p2, p3, hq]
        · simp [h0, h1, h2, h3, p1, p2, p3, hq]
      · simp [h0, h1, h2, p1, p2, p3, hq]
    · simp [h0, h1, p1, p2, p3, hq]
  · simp [h0]
/-- the words of a number -/
def wds (A a b c d : Int) : Prop := NUM A = .agg #[.int .u64 a, .int .u64 b, .int .u64 c, .int .u64 d]
theorem wds_out {A a b c d : Int} (h : wds A a b c d) : NUM A = .agg #[.int .u64 a, .int .u64 b, .int .u64 c, .int .u64 d] := h
theorem next_pos {sq term n : Int} (s0 : 0 ≤ sq) (s1 : sq ≤ W192) (t0 : 0 ≤ term) (t1 : term ≤ W192) (_n0 : 0 ≤ n) : 0 ≤ term * sq / W192 ∧ term * sq / W192 ≤ W192 := by
  have hW := w192_pos
  refine ⟨Int.ediv_nonneg (Int.mul_nonneg t0 s0) (Int.le_of_lt hW), Int.ediv_le_of_le_mul hW ?_⟩
  exact Int.mul_le_mul t1 s1 s0 (Int.le_of_lt hW)
theorem ser_end {k : Nat} {sq sum n : Int} {m : Bool} : serS k sq sum 0 n m = sum := by
  cases k with
  | zero => rfl
  | succ k => unfold serS; rw [if_pos rfl]
theorem wds_ex (A : Int) (h0 : 0 ≤ A) (h1 : A < W256) : ∃ a b c d, wds A a b c d ∧ (A = 0 ↔ a = 0 ∧ b = 0 ∧ c = 0 ∧ d = 0) := by
  obtain ⟨a, b, c, d, ha, hb, hc, hd, e, n⟩ := NUM_words A h0 h1
  refine ⟨a, b, c, d, n, ?_⟩
  rw [e]
  unfold word at *
  unfold nv
  omega
set_option maxRecDepth 100000 in
set_option maxHeartbeats 8000000 in
theorem series_any (f sq n0 : Int) (w : World) (f0 : 0 ≤ f) (f1 : f ≤ W192) (s0 : 0 ≤ sq) (s1 : sq ≤ W192) (h0 : 0 ≤ n0) (h1 : n0 ≤ 1) :
    Calls Tryz.prog 308 #[NUM f, NUM sq, .int .u64 n0] w fun e w' => e = .returned (NUM (serS 200 sq f f n0 true)) ∧ Below w.heap.size w w' := by
  have hW := w192_lt
  obtain ⟨V, hV⟩ : ∃ V, serS 200 sq f f n0 true = V := ⟨_, rfl⟩
  rw [hV]
  have HV := hidden hV
  have O0 : serOk f f f true := by unfold serOk; simp; omega
  have ON := hidden O0
  obtain ⟨a0, a1, a2, a3, WF, -⟩ := wds_ex f f0 (by omega)
  obtain ⟨q0, q1, q2, q3, WQ, -⟩ := wds_ex sq s0 (by omega)
  have HWF := hidden WF
  have HWQ := hidden WQ
  unfold wds at WF WQ
  rw [WF, WQ]
  have HF := hidden (And.intro f0 (And.intro f1 (And.intro s0 (And.intro s1 hW))))
  clear hV f0 f1 s0 s1 hW O0 WF WQ
  go_enter Tryz.func308, Tryz.ntmps308
  go_upto_region 1 with fail
  refine name_code ?_
  intro w' hb
  (try replace hb := below_undrew hb); (try replace hb := below_undrewN hb); obtain ⟨hcell, hfroz⟩ := bcell hb; have hz := hb.size; (try simp at hz); (try (have z6 := Nat.lt_of_lt_of_le z7 hz)); (try (have z7 := Nat.lt_of_lt_of_le z8 hz)); (try (have z8 := Nat.lt_of_lt_of_le z9 hz)); (try (have z9 := Nat.lt_of_lt_of_le (Nat.lt_succ_self _) hz)); (try have z0 : w.heap.size < w'.heap.size := by omega); (try have z1 : w.heap.size + 1 < w'.heap.size := by omega); (try have z2 : w.heap.size + 1 + 1 < w'.heap.size := by omega); (try have z3 : w.heap.size + 1 + 1 + 1 < w'.heap.size := by omega); (try have y2 : w2.heap.size < w'.heap.size := by omega); (try have y3 : w3.heap.size < w'.heap.size := by omega); (try have y4 : w4.heap.size < w'.heap.size := by omega); (try have x2 : w2.heap.size + 1 < w'.heap.size := by omega); (try have x3 : w3.heap.size + 1 < w'.heap.size := by omega); (try have x4 : w4.heap.size + 1 < w'.heap.size := by omega); (try have z20 : w2.heap.size < w'.heap.size + 1 := by omega); (try have z30 : w3.heap.size < w'.heap.size + 1 := by omega); (try have z40 : w4.heap.size < w'.heap.size + 1 := by omega)
  have hw0 : Below w.heap.size w w' := by (repeat (first | exact Below.refl _ _ | refine bl_drewN ?_ | refine bl_drew ?_ | refine bl_alloc ?_ _ | refine Below.setCell ?_ (by (first | (simp; done) | (simp; omega) | omega)) _ | refine bl_step (by assumption) ?_))
  have p0 : w'.cell? ⟨w.heap.size, 0, none⟩ = some (.int .u64 a0) := by simp [go_sem, *]
  have p1 : w'.cell? ⟨w.heap.size, 1, none⟩ = some (.int .u64 a1) := by simp [go_sem, *]
  have p2 : w'.cell? ⟨w.heap.size, 2, none⟩ = some (.int .u64 a2) := by simp [go_sem, *]
  have p3 : w'.cell? ⟨w.heap.size, 3, none⟩ = some (.int .u64 a3) := by simp [go_sem, *]
  have e0 : w'.cell? ⟨w.heap.size + 1, 0, none⟩ = some (.int .u64 q0) := by simp [go_sem, *]
  have e1 : w'.cell? ⟨w.heap.size + 1, 1, none⟩ = some (.int .u64 q1) := by simp [go_sem, *]
  have e2 : w'.cell? ⟨w.heap.size + 1, 2, none⟩ = some (.int .u64 q2) := by simp [go_sem, *]
  have e3 : w'.cell? ⟨w.heap.size + 1, 3, none⟩ = some (.int .u64 q3) := by simp [go_sem, *]
  have r0 : w'.cell? ⟨w.heap.size + 1 + 1, 0, none⟩ = some (.int .u64 0) := by simp [go_sem, *]
  have r1 : w'.cell? ⟨w.heap.size + 1 + 1, 1, none⟩ = some (.int .u64 0) := by simp [go_sem, *]
  have r2 : w'.cell? ⟨w.heap.size + 1 + 1, 2, none⟩ = some (.int .u64 0) := by simp [go_sem, *]
  have r3 : w'.cell? ⟨w.heap.size + 1 + 1, 3, none⟩ = some (.int .u64 0) := by simp [go_sem, *]
  have rf : ∀ o, w'.frozen? ⟨w.heap.size + 1 + 1, o, none⟩ = false := by intro o; simp [go_sem, *]
  clear hcell hfroz hz hb
  obtain ⟨V0, rfl⟩ : ∃ v, v = w' := ⟨_, rfl⟩
  have g2 : w.heap.size + 1 + 1 < V0.heap.size := World.block_lt_of_cell? _ _ r0
  have g1 : w.heap.size + 1 < V0.heap.size := by omega
  have g0 : w.heap.size < V0.heap.size := by omega
  go_cut [7, 8] from 10 to 12 (fun s7 s8 wx => ∃ B1 B2 : Nat, s7 = .pointer (some ⟨B1, 0, none⟩) ∧ s8 = .pointer (some ⟨B2, 0, none⟩) ∧ V0.heap.size ≤ B1 ∧ V0.heap.size ≤ B2 ∧ B1 ≠ B2 ∧ wx.cell? ⟨B1, 0, none⟩ = some (.int .u64 a0) ∧ wx.cell? ⟨B1, 1, none⟩ = some (.int .u64 a1) ∧ wx.cell? ⟨B1, 2, none⟩ = some (.int .u64 a2) ∧ wx.cell? ⟨B1, 3, none⟩ = some (.int .u64 a3) ∧ wx.cell? ⟨B2, 0, none⟩ = some (.int .u64 a0) ∧ wx.cell? ⟨B2, 1, none⟩ = some (.int .u64 a1) ∧ wx.cell? ⟨B2, 2, none⟩ = some (.int .u64 a2) ∧ wx.cell? ⟨B2, 3, none⟩ = some (.int .u64 a3) ∧ Hid (∀ o, wx.frozen? ⟨B1, o, none⟩ = false) ∧ Hid (∀ o, wx.frozen? ⟨B2, o, none⟩ = false) ∧ Below V0.heap.size V0 wx)
  case first =>
    go_region
    all_goals go_wp2
    all_goals go_meet
    all_goals exact ⟨_, _, rfl, rfl, by omega, by omega, by omega, by simp [go_sem], by simp [go_sem], by simp [go_sem], by simp [go_sem], by simp [go_sem], by simp [go_sem], by simp [go_sem], by simp [go_sem], by intro o; simp [go_sem], by intro o; simp [go_sem], by (repeat (first | (with_reducible exact Below.refl _ _) | (with_reducible refine Below.setCell ?_ (by (first | (simp; done) | (simp; omega) | omega)) _) | (with_reducible refine bl_alloc ?_ _) | (with_reducible refine bl_drewN ?_) | (with_reducible refine bl_drew ?_) | (with_reducible refine bl_step (by assumption) ?_)))⟩
  case rest =>
    obtain ⟨B1, B2, rfl, rfl, l7, l8, n78, x0, x1, x2, x3, y0, y1, y2, y3, f7, f8, hX⟩ := hcut
    have E0 := cell_later hX e0
    have E1 := cell_later hX e1
    have E2 := cell_later hX e2
    have E3 := cell_later hX e3
    have R0 := cell_later hX r0
    have R1 := cell_later hX r1
    have R2 := cell_later hX r2
    have R3 := cell_later hX r3
    have RF := hidden (fun o => (hX.frozen (p := ⟨w.heap.size + 1 + 1, o, none⟩) g2).trans (rf o) : ∀ o, wc.frozen? ⟨w.heap.size + 1 + 1, o, none⟩ = false)
    have hb1 : B1 < wc.heap.size := World.block_lt_of_cell? _ _ x0
    have hb2 : B2 < wc.heap.size := World.block_lt_of_cell? _ _ y0
    have nn0 : w.heap.size + 1 + 1 < B1 := by omega
    have nn1 : w.heap.size + 1 + 1 < B2 := by omega
    have HB := hidden (And.intro hb1 hb2)
    clear e0 e1 e2 e3 r0 r1 r2 r3 rf p0 p1 p2 p3 l7 l8 hb1 hb2
    go_wp2
    go_loopw [2, 9] (fun nv mv wr => ∃ (k : Nat) (n S T s0 s1 s2 s3 t0 t1 t2 t3 : Int) (m : Bool), nv = .int .u64 n ∧ mv = .bool m ∧ Hid (wds S s0 s1 s2 s3) ∧ Hid (wds T t0 t1 t2 t3) ∧ Hid (serS k sq S T n m = V) ∧ Hid (serOk f S T m) ∧ Hid (T < 2 ^ k) ∧ 0 ≤ n ∧ n + 2 * (k : Int) ≤ 401 ∧ wr.cell? ⟨B1, 0, none⟩ = some (.int .u64 s0) ∧ wr.cell? ⟨B1, 1, none⟩ = some (.int .u64 s1) ∧ wr.cell? ⟨B1, 2, none⟩ = some (.int .u64 s2) ∧ wr.cell? ⟨B1, 3, none⟩ = some (.int .u64 s3) ∧ wr.cell? ⟨B2, 0, none⟩ = some (.int .u64 t0) ∧ wr.cell? ⟨B2, 1, none⟩ = some (.int .u64 t1) ∧ wr.cell? ⟨B2, 2, none⟩ = some (.int .u64 t2) ∧ wr.cell? ⟨B2, 3, none⟩ = some (.int .u64 t3) ∧ wr.cell? ⟨w.heap.size + 1, 0, none⟩ = some (.int .u64 q0) ∧ wr.cell? ⟨w.heap.size + 1, 1, none⟩ = some (.int .u64 q1) ∧ wr.cell? ⟨w.heap.size + 1, 2, none⟩ = some (.int .u64 q2) ∧ wr.cell? ⟨w.heap.size + 1, 3, none⟩ = some (.int .u64 q3) ∧ wr.cell? ⟨w.heap.size + 1 + 1, 0, none⟩ = some (.int .u64 0) ∧ wr.cell? ⟨w.heap.size + 1 + 1, 1, none⟩ = some (.int .u64 0) ∧ wr.cell? ⟨w.heap.size + 1 + 1, 2, none⟩ = some (.int .u64 0) ∧ wr.cell? ⟨w.heap.size + 1 + 1, 3, none⟩ = some (.int .u64 0) ∧ Hid (∀ o, wr.frozen? ⟨B1, o, none⟩ = false) ∧ Hid (∀ o, wr.frozen? ⟨B2, o, none⟩ = false) ∧ Hid (∀ o, wr.frozen? ⟨w.heap.size + 1 + 1, o, none⟩ = false) ∧ wc.heap.size ≤ wr.heap.size ∧ Below w.heap.size w wr) (fun nv _ _ => (1000 - (intOf nv)).toNat)
    case atStart => exact ⟨200, n0, f, f, a0, a1, a2, a3, a0, a1, a2, a3, true, rfl, rfl, HWF, HWF, HV, ON, by unfold Hid; have := HF.out.2.1; unfold W192 W64 at this; omega, h0, by omega, x0, x1, x2, x3, y0, y1, y2, y3, E0, E1, E2, E3, R0, R1, R2, R3, f7, f8, RF, Nat.le_refl _, bl_step hX hw0⟩
    case round =>
      obtain ⟨k, n, S, T, s0, s1, s2, s3, t0, t1, t2, t3, m, rfl, rfl, hS, hT, hs, hok, hk, n0', n1', c0, c1, c2, c3, d0, d1, d2, d3, i0, i1, i2, i3, j0, j1, j2, j3, fz1, fz2, fz3, hzz, hY⟩ := hrel
      clear x0 x1 x2 x3 y0 y1 y2 y3 E0 E1 E2 E3 R0 R1 R2 R3 RF f7 f8 hX
      have hB1 : B1 < wr.heap.size := World.block_lt_of_cell? _ _ c0
      have hB2 : B2 < wr.heap.size := World.block_lt_of_cell? _ _ d0
      have hR : w.heap.size + 1 + 1 < wr.heap.size := World.block_lt_of_cell? _ _ j0
      have hR1 : w.heap.size + 1 < wr.heap.size := by omega
      have n87 : B2 ≠ B1 := fun e => n78 e.symm
      have m81 : w.heap.size + 1 ≠ B1 := by omega
      have m82 : w.heap.size + 1 ≠ B2 := by omega
      have m91 : w.heap.size + 1 + 1 ≠ B1 := by omega
      have m92 : w.heap.size + 1 + 1 ≠ B2 := by omega
      have u1 := fz1.out
      have u2 := fz2.out
      have u3 := fz3.out
      by_cases hT0 : T = 0
      · have z : t0 = 0 ∧ t1 = 0 ∧ t2 = 0 ∧ t3 = 0 := by
          have h := hT.out
          unfold wds at h
          rw [hT0, zero_num] at h
          simp at h
          omega
        obtain ⟨rfl, rfl, rfl, rfl⟩ := z
        have e := hs.out
        rw [hT0, ser_end] at e
        have E := hidden (wds_out hS.out)
        rw [e] at E
        clear hS hT hs hok hk e hT0
        have eqz : ∀ w, (Op.equalIn 10000 271 (.agg #[.int .u64 0, .int .u64 0, .int .u64 0, .int .u64 0]) (.agg #[.int .u64 0, .int .u64 0, .int .u64 0, .int .u64 0])).run Tryz.prog w = .ok true w := fun w => by rw [eq_num 9998]; simp
        go_wp2
        exact bodyPost_ret (v := .agg #[.int .u64 s0, .int .u64 s1, .int .u64 s2, .int .u64 s3]) (by first | (simp only [results, Tryz.results308]; go_simp; done) | simp [results, Tryz.results308, go_sem, *]) rfl ⟨by rw [E.out], by (repeat (first | (with_reducible exact Below.refl _ _) | (with_reducible refine Below.setCell ?_ (by (first | (simp; done) | (simp; omega) | omega)) _) | (with_reducible refine bl_alloc ?_ _) | (with_reducible refine bl_drewN ?_) | (with_reducible refine bl_drew ?_) | (with_reducible refine bl_step (by assumption) ?_)))⟩
      · obtain ⟨f0, f1, q0', q1', hW⟩ := HF.out
        have k1 : ∃ k2, k = k2 + 1 := by
          cases k with
          | zero => have h1 := hk.out; have h2 := hok.out; unfold serOk at h2; simp at h1; omega
          | succ k => exact ⟨k, rfl⟩
        obtain ⟨k2, rfl⟩ := k1
        have o1 := hok.out
        have o2 := ser_step f1 q0' q1' n0' o1
        have ob := o1
        unfold serOk at ob
        have nb := next_bd q0' q1' ob.1 (by omega : T ≤ W192) n0'
        have mb := next_pos q0' q1' ob.1 (by omega : T ≤ W192) n0'
        have hs2 := hs.out
        unfold serS at hs2
        rw [if_neg hT0] at hs2
        have hk2 := hk.out
        rw [show (2 : Int) ^ (k2 + 1) = 2 ^ k2 * 2 from Int.pow_succ _ _] at hk2
        obtain ⟨D, hD⟩ : ∃ D, (n + 1) * (n + 2) = D := ⟨_, rfl⟩
        have D0 : 0 < D := by rw [← hD]; exact Int.mul_pos (by omega) (by omega)
        have D1 : D ≤ 1000000 := by rw [← hD]; have := Int.mul_le_mul (show n + 1 ≤ 1000 by omega) (show n + 2 ≤ 1000 by omega) (by omega) (by omega); omega
        have eN : nextT sq T n = T * sq / W192 % W256 / D := by unfold nextT; rw [hD]
        obtain ⟨X, hX1⟩ : ∃ X, T * sq / W192 % W256 = X := ⟨_, rfl⟩
        have M0 := fun w => amul_any T sq w ob.1 (by omega) q0' (by omega)
        rw [hX1] at M0
        have X0 : 0 ≤ X ∧ X < W256 := by rw [← hX1]; exact ⟨Int.emod_nonneg _ (by omega), Int.emod_lt_of_pos _ (by omega)⟩
        have O0 := fun w => aover_any X D w X0.1 X0.2 D0 (by omega)
        rw [hX1] at eN
        rw [← eN] at O0
        have kw1 : IntKind.u64.wrap (n + 1) = n + 1 := by rw [IntKind.wrap_u64]; omega
        have kw2 : IntKind.u64.wrap (n + 2) = n + 2 := by rw [IntKind.wrap_u64]; omega
        have kw3 : IntKind.u64.wrap ((n + 1) * (n + 2)) = D := by rw [hD, IntKind.wrap_u64]; omega
        obtain ⟨Y, hY1⟩ : ∃ Y, nextT sq T n = Y := ⟨_, rfl⟩
        rw [hY1] at O0 nb o2 hs2
        obtain ⟨v0, v1, v2, v3, WX, -⟩ := wds_ex X X0.1 X0.2
        obtain ⟨y0', y1', y2', y3', WY, -⟩ := wds_ex Y nb.1 (by omega)
        have nz : ¬ (t0 = 0 ∧ t1 = 0 ∧ t2 = 0 ∧ t3 = 0) := by
          intro ⟨e0, e1, e2, e3⟩
          have h := hT.out
          unfold wds at h
          obtain ⟨b0, b1, b2, b3, wb, bz⟩ := wds_ex T ob.1 (by omega)
          rw [wds_out wb] at h
          simp at h
          exact hT0 (bz.2 (by omega))
        have eqz : ∀ w, (Op.equalIn 10000 271 (.agg #[.int .u64 t0, .int .u64 t1, .int .u64 t2, .int .u64 t3]) (.agg #[.int .u64 0, .int .u64 0, .int .u64 0, .int .u64 0])).run Tryz.prog w = .ok false w := fun w => by rw [eq_num 9998]; simp only [nz, decide_false]
        have hM : Hid (∀ w, Calls Tryz.prog 307 #[.agg #[.int .u64 t0, .int .u64 t1, .int .u64 t2, .int .u64 t3], .agg #[.int .u64 q0, .int .u64 q1, .int .u64 q2, .int .u64 q3]] w fun e w' => e = .returned (.agg #[.int .u64 v0, .int .u64 v1, .int .u64 v2, .int .u64 v3]) ∧ Below w.heap.size w w') := hidden fun w => by have h := M0 w; rw [wds_out hT.out, wds_out HWQ.out, wds_out WX] at h; exact h
        have hO : Hid (∀ w, Calls Tryz.prog 306 #[.agg #[.int .u64 v0, .int .u64 v1, .int .u64 v2, .int .u64 v3], .int .u64 D] w fun e w' => e = .returned (.agg #[.int .u64 y0', .int .u64 y1', .int .u64 y2', .int .u64 y3']) ∧ Below w.heap.size w w') := hidden fun w => by have h := O0 w; rw [wds_out WX, wds_out WY] at h; exact h
        cases m
        · simp only [Bool.false_eq_true, if_false, Bool.not_false] at o2 hs2
          obtain ⟨Z, hZ⟩ : ∃ Z, (S + Y) % W256 = Z := ⟨_, rfl⟩
          rw [hZ] at o2 hs2
          have zb := o2
          unfold serOk at zb
          obtain ⟨z0', z1', z2', z3', WZ, -⟩ := wds_ex Z zb.2.2.1 (by omega)
          have hA : Hid (∀ w, Calls Tryz.prog 342 #[.agg #[.int .u64 s0, .int .u64 s1, .int .u64 s2, .int .u64 s3], .agg #[.int .u64 y0', .int .u64 y1', .int .u64 y2', .int .u64 y3']] w fun e w' => e = .returned (.agg #[.int .u64 z0', .int .u64 z1', .int .u64 z2', .int .u64 z3']) ∧ Below w.heap.size w w') := hidden fun w => by have h := aadd_any S Y w ob.2.2.1 (by omega) nb.1 (by omega); rw [hZ, wds_out hS.out, wds_out WY, wds_out WZ] at h; exact h
          have HFIN := hidden (And.intro WY (And.intro WZ (And.intro hs2 (And.intro o2 (show Y < 2 ^ k2 by omega)))))
          clear hS hT hs hok hk hk2 hs2 o1 o2 ob nb mb zb M0 O0 eN WX WY WZ hX1 hY1 hZ X0 f0 f1 q0' q1' hW hT0 D0 D1 hD nz
          go_wp2_with (((first | (go_at_call 307; ((with_reducible refine (hM.out _).mono ?_); rintro e w' ⟨rfl, hb⟩); have nm0 := trivial) | (go_at_call 306; ((with_reducible refine (hO.out _).mono ?_); rintro e w' ⟨rfl, hb⟩); have nm1 := trivial) | (go_at_call 342; ((with_reducible refine (hA.out _).mono ?_); rintro e w' ⟨rfl, hb⟩); have nm2 := trivial)); (try replace hb := below_undrew hb); (try replace hb := below_undrewN hb); obtain ⟨hcell, hfroz⟩ := bcell hb; have hz := hb.size; (try simp at hz); (try (have z6 := Nat.lt_of_lt_of_le z7 hz)); (try (have z7 := Nat.lt_of_lt_of_le z8 hz)); (try (have z8 := Nat.lt_of_lt_of_le z9 hz)); (try (have z9 := Nat.lt_of_lt_of_le (Nat.lt_succ_self _) hz)); (try have z0 : w.heap.size < w'.heap.size := by omega); (try have z1 : w.heap.size + 1 < w'.heap.size := by omega); (try have z2 : w.heap.size + 1 + 1 < w'.heap.size := by omega); (try have z3 : w.heap.size + 1 + 1 + 1 < w'.heap.size := by omega); (try have y2 : w2.heap.size < w'.heap.size := by omega); (try have y3 : w3.heap.size < w'.heap.size := by omega); (try have x2 : w2.heap.size + 1 < w'.heap.size := by omega); (try have x3 : w3.heap.size + 1 < w'.heap.size := by omega); (try have hB1 : B1 < w'.heap.size := by omega); (try have hB2 : B2 < w'.heap.size := by omega); (try have hB3 : B1 < w'.heap.size + 1 := by omega); (try have hB4 : B2 < w'.heap.size + 1 := by omega); (first | (clear nm0; (have hR : w.heap.size + 1 + 1 < w'.heap.size := by omega); (have hR1 : w.heap.size + 1 < w'.heap.size := by omega); obtain ⟨w2, rfl⟩ : ∃ v, v = w' := ⟨_, rfl⟩) | (clear nm1; (have hR : w.heap.size + 1 + 1 < w'.heap.size := by omega); (have hR1 : w.heap.size + 1 < w'.heap.size := by omega); obtain ⟨w3, rfl⟩ : ∃ v, v = w' := ⟨_, rfl⟩) | (clear nm2; (have hR : w.heap.size + 1 + 1 < w'.heap.size := by omega); (have hR1 : w.heap.size + 1 < w'.heap.size := by omega); obtain ⟨w4, rfl⟩ : ∃ v, v = w' := ⟨_, rfl⟩))))
          obtain ⟨fy, fzz, fs, fo, fl⟩ := HFIN.out
          exact ⟨⟨k2, n + 2, Z, Y, z0', z1', z2', z3', y0', y1', y2', y3', true, rfl, rfl, fzz, fy, fs, fo, fl, by omega, by omega, by simp [go_sem, *], by simp [go_sem, *], by simp [go_sem, *], by simp [go_sem, *], by simp [go_sem, *], by simp [go_sem, *], by simp [go_sem, *], by simp [go_sem, *], by simp [go_sem, *], by simp [go_sem, *], by simp [go_sem, *], by simp [go_sem, *], by simp [go_sem, *], by simp [go_sem, *], by simp [go_sem, *], by simp [go_sem, *], by intro o; simp [go_sem, *], by intro o; simp [go_sem, *], by intro o; simp [go_sem, *], by simp; omega, by (repeat (first | (with_reducible exact Below.refl _ _) | (with_reducible refine Below.setCell ?_ (by (first | (simp; done) | (simp; omega) | omega)) _) | (with_reducible refine bl_alloc ?_ _) | (with_reducible refine bl_drewN ?_) | (with_reducible refine bl_drew ?_) | (with_reducible refine bl_step (by assumption) ?_)))⟩, by simp [intOf]; omega⟩
        · simp only [if_true, Bool.not_true] at o2 hs2
          obtain ⟨Z, hZ⟩ : ∃ Z, (S - Y) % W256 = Z := ⟨_, rfl⟩
          rw [hZ] at o2 hs2
          have zb := o2
          unfold serOk at zb
          obtain ⟨z0', z1', z2', z3', WZ, -⟩ := wds_ex Z zb.2.2.1 (by omega)
          have hA : Hid (∀ w, Calls Tryz.prog 341 #[.agg #[.int .u64 s0, .int .u64 s1, .int .u64 s2, .int .u64 s3], .agg #[.int .u64 y0', .int .u64 y1', .int .u64 y2', .int .u64 y3']] w fun e w' => e = .returned (.agg #[.int .u64 z0', .int .u64 z1', .int .u64 z2', .int .u64 z3']) ∧ Below w.heap.size w w') := hidden fun w => by have h := asub_any S Y w ob.2.2.1 (by omega) nb.1 (by omega); rw [hZ, wds_out hS.out, wds_out WY, wds_out WZ] at h; exact h
          have HFIN := hidden (And.intro WY (And.intro WZ (And.intro hs2 (And.intro o2 (show Y < 2 ^ k2 by omega)))))
          clear hS hT hs hok hk hk2 hs2 o1 o2 ob nb mb zb M0 O0 eN WX WY WZ hX1 hY1 hZ X0 f0 f1 q0' q1' hW hT0 D0 D1 hD nz
          go_wp2_with (((first | (go_at_call 307; ((with_reducible refine (hM.out _).mono ?_); rintro e w' ⟨rfl, hb⟩); have nm0 := trivial) | (go_at_call 306; ((with_reducible refine (hO.out _).mono ?_); rintro e w' ⟨rfl, hb⟩); have nm1 := trivial) | (go_at_call 341; ((with_reducible refine (hA.out _).mono ?_); rintro e w' ⟨rfl, hb⟩); have nm2 := trivial)); (try replace hb := below_undrew hb); (try replace hb := below_undrewN hb); obtain ⟨hcell, hfroz⟩ := bcell hb; have hz := hb.size; (try simp at hz); (try (have z6 := Nat.lt_of_lt_of_le z7 hz)); (try (have z7 := Nat.lt_of_lt_of_le z8 hz)); (try (have z8 := Nat.lt_of_lt_of_le z9 hz)); (try (have z9 := Nat.lt_of_lt_of_le (Nat.lt_succ_self _) hz)); (try have z0 : w.heap.size < w'.heap.size := by omega); (try have z1 : w.heap.size + 1 < w'.heap.size := by omega); (try have z2 : w.heap.size + 1 + 1 < w'.heap.size := by omega); (try have z3 : w.heap.size + 1 + 1 + 1 < w'.heap.size := by omega); (try have y2 : w2.heap.size < w'.heap.size := by omega); (try have y3 : w3.heap.size < w'.heap.size := by omega); (try have x2 : w2.heap.size + 1 < w'.heap.size := by omega); (try have x3 : w3.heap.size + 1 < w'.heap.size := by omega); (try have hB1 : B1 < w'.heap.size := by omega); (try have hB2 : B2 < w'.heap.size := by omega); (try have hB3 : B1 < w'.heap.size + 1 := by omega); (try have hB4 : B2 < w'.heap.size + 1 := by omega); (first | (clear nm0; (have hR : w.heap.size + 1 + 1 < w'.heap.size := by omega); (have hR1 : w.heap.size + 1 < w'.heap.size := by omega); obtain ⟨w2, rfl⟩ : ∃ v, v = w' := ⟨_, rfl⟩) | (clear nm1; (have hR : w.heap.size + 1 + 1 < w'.heap.size := by omega); (have hR1 : w.heap.size + 1 < w'.heap.size := by omega); obtain ⟨w3, rfl⟩ : ∃ v, v = w' := ⟨_, rfl⟩) | (clear nm2; (have hR : w.heap.size + 1 + 1 < w'.heap.size := by omega); (have hR1 : w.heap.size + 1 < w'.heap.size := by omega); obtain ⟨w4, rfl⟩ : ∃ v, v = w' := ⟨_, rfl⟩))))
          obtain ⟨fy, fzz, fs, fo, fl⟩ := HFIN.out
          exact ⟨⟨k2, n + 2, Z, Y, z0', z1', z2', z3', y0', y1', y2', y3', false, rfl, rfl, fzz, fy, fs, fo, fl, by omega, by omega, by simp [go_sem, *], by simp [go_sem, *], by simp [go_sem, *], by simp [go_sem, *], by simp [go_sem, *], by simp [go_sem, *], by simp [go_sem, *], by simp [go_sem, *], by simp [go_sem, *], by simp [go_sem, *], by simp [go_sem, *], by simp [go_sem, *], by simp [go_sem, *], by simp [go_sem, *], by simp [go_sem, *], by simp [go_sem, *], by intro o; simp [go_sem, *], by intro o; simp [go_sem, *], by intro o; simp [go_sem, *], by simp; omega, by (repeat (first | (with_reducible exact Below.refl _ _) | (with_reducible refine Below.setCell ?_ (by (first | (simp; done) | (simp; omega) | omega)) _) | (with_reducible refine bl_alloc ?_ _) | (with_reducible refine bl_drewN ?_) | (with_reducible refine bl_drew ?_) | (with_reducible refine bl_step (by assumption) ?_)))⟩, by simp [intOf]; omega⟩
end Go.Proofs.YtdhbeoahpfimbaaGreat
