/- Several small texts in one: XCel, XCel2. -/
import Derived.Test.YtdhbeoahpfimbaaGreatBase
import Derived.Test.YtdhbeoahpfimbaaGreatRa
import Derived.Deep.Cut
import Derived.Deep.DeepCutAuto
import Derived.OwnWalk
import Derived.Maps.AppendAt
import Derived.Laws.OwnMore
namespace Go.Proofs.YtdhbeoahpfimbaaGreat
open Go.RowKit
/-- a valid cell of the levels up to 3 -/
def vc (l r c : Int) : Prop := 0 ≤ r ∧ 0 ≤ c ∧ ((l = 0 ∧ r < 1 ∧ c < 2) ∨ (l = 1 ∧ r < 2 ∧ c < 4) ∨ (l = 2 ∧ r < 4 ∧ c < 8) ∨ (l = 3 ∧ r < 8 ∧ c < 16))
/-- the edge of a row or column -/
def edg (i l : Int) : Int := if l = 0 then i * 10800000 else if l = 1 then i * 10800000 / 2 else if l = 2 then i * 10800000 / 4 else i * 10800000 / 8
set_option maxHeartbeats 1000000 in
theorem cvalid_ok (l r c : Int) (w : World) (h : vc l r c) :
    Calls Tryz.prog 264 #[.agg #[.int .i64 l, .int .i64 r, .int .i64 c]] w fun e w' => e = .returned (.bool true) ∧ Below w.heap.size w w' := by
  obtain ⟨r0, c0, h⟩ := h
  rcases h with ⟨rfl, h1, h2⟩ | ⟨rfl, h1, h2⟩ | ⟨rfl, h1, h2⟩ | ⟨rfl, h1, h2⟩
  all_goals
    go_enter Tryz.func264, Tryz.ntmps264
    go_wp2
    go_region
    go_wp2
    exact bodyPost_ret (v := .bool true) (by first | (simp only [results, Tryz.results264]; go_simp; done) | simp [results, Tryz.results264, go_sem, *]) rfl ⟨rfl, by (repeat (first | exact Below.refl _ _ | refine bl_drewN ?_ | refine bl_drew ?_ | refine bl_alloc ?_ _ | refine Below.setCell ?_ (by (first | (simp; done) | (simp; omega) | omega)) _ | refine bl_step (by assumption) ?_))⟩
set_option maxHeartbeats 1000000 in
theorem edge_any (i l : Int) (w : World) (hl : l = 0 ∨ l = 1 ∨ l = 2 ∨ l = 3) (i0 : 0 ≤ i) (i1 : i ≤ 16) :
    Calls Tryz.prog 336 #[.int .i64 i, .int .i64 l] w fun e w' => e = .returned (.int .i64 (edg i l)) ∧ w = w' := by
  rcases hl with rfl | rfl | rfl | rfl
  · go_enter Tryz.func336, Tryz.ntmps336
    go_wp2
    exact bodyPost_ret (v := .int .i64 (i * 10800000)) (by first | (simp only [results, Tryz.results336]; go_simp; done) | simp [results, Tryz.results336, go_sem, *]) rfl ⟨rfl, rfl⟩
  · go_enter Tryz.func336, Tryz.ntmps336
    go_wp2
    exact bodyPost_ret (v := .int .i64 (i * 10800000 / 2)) (by first | (simp only [results, Tryz.results336]; go_simp; done) | simp [results, Tryz.results336, go_sem, *]) rfl ⟨rfl, rfl⟩
  · go_enter Tryz.func336, Tryz.ntmps336
    go_wp2
    exact bodyPost_ret (v := .int .i64 (i * 10800000 / 4)) (by first | (simp only [results, Tryz.results336]; go_simp; done) | simp [results, Tryz.results336, go_sem, *]) rfl ⟨rfl, rfl⟩
  · go_enter Tryz.func336, Tryz.ntmps336
    go_wp2
    exact bodyPost_ret (v := .int .i64 (i * 10800000 / 8)) (by first | (simp only [results, Tryz.results336]; go_simp; done) | simp [results, Tryz.results336, go_sem, *]) rfl ⟨rfl, rfl⟩
theorem edg_bd (l i : Int) (h0 : 0 ≤ i) (h1 : i ≤ 16) : 0 ≤ edg i l ∧ edg i l ≤ 172800000 := by
  unfold edg
  repeat' split
  all_goals omega
/-- the box of a cell -/
def bxV (l r c : Int) : Value := .agg #[.int .i64 (edg r l - 5400000), .int .i64 (edg (r + 1) l - 5400000), .int .i64 (edg c l - 10800000), .int .i64 (edg (c + 1) l - 10800000)]
set_option maxRecDepth 100000 in
set_option maxHeartbeats 4000000 in
theorem cbox_any (l r c : Int) (w : World) (h : vc l r c) :
    Calls Tryz.prog 299 #[.agg #[.int .i64 l, .int .i64 r, .int .i64 c]] w fun e w' => e = .returned (bxV l r c) ∧ Below w.heap.size w w' := by
  have hl : l = 0 ∨ l = 1 ∨ l = 2 ∨ l = 3 := by unfold vc at h; omega
  have hb : 0 ≤ r ∧ r ≤ 15 ∧ 0 ≤ c ∧ c ≤ 15 := by unfold vc at h; omega
  obtain ⟨r0, r1, c0, c1⟩ := hb
  have b1 := edg_bd l r r0 (by omega)
  have b2 := edg_bd l (r + 1) (by omega) (by omega)
  have b3 := edg_bd l c c0 (by omega)
  have b4 := edg_bd l (c + 1) (by omega) (by omega)
  have E1 := hidden fun w => edge_any r l w hl r0 (by omega)
  have E2 := hidden fun w => edge_any (r + 1) l w hl (by omega) (by omega)
  have E3 := hidden fun w => edge_any c l w hl c0 (by omega)
  have E4 := hidden fun w => edge_any (c + 1) l w hl (by omega) (by omega)
  unfold bxV
  generalize edg r l = e1 at *
  generalize edg (r + 1) l = e2 at *
  generalize edg c l = e3 at *
  generalize edg (c + 1) l = e4 at *
  clear hl h
  have k1 : IntKind.i64.wrap (r + 1) = r + 1 := by rw [IntKind.wrap_i64]; omega
  have k2 : IntKind.i64.wrap (c + 1) = c + 1 := by rw [IntKind.wrap_i64]; omega
  have k3 : IntKind.i64.wrap (e1 - 5400000) = e1 - 5400000 := by rw [IntKind.wrap_i64]; omega
  have k4 : IntKind.i64.wrap (e2 - 5400000) = e2 - 5400000 := by rw [IntKind.wrap_i64]; omega
  have k5 : IntKind.i64.wrap (e3 - 10800000) = e3 - 10800000 := by rw [IntKind.wrap_i64]; omega
  have k6 : IntKind.i64.wrap (e4 - 10800000) = e4 - 10800000 := by rw [IntKind.wrap_i64]; omega
  go_enter Tryz.func299, Tryz.ntmps299
  go_wp2
  refine still_tail 29 (by kernel_rfl) (by kernel_rfl) ?_
  simp only [List.take_succ_cons, List.take_zero, List.drop_succ_cons, List.drop_zero]
  repeat still_step
  still_call (same_rev (E1.out _))
  repeat still_step
  still_call (same_rev (E2.out _))
  repeat still_step
  still_call (same_rev (E3.out _))
  repeat still_step
  still_call (same_rev (E4.out _))
  repeat still_step
  refine wpStill_nil ?_
  go_wp2
  exact bodyPost_ret (v := .agg #[.int .i64 (e1 - 5400000), .int .i64 (e2 - 5400000), .int .i64 (e3 - 10800000), .int .i64 (e4 - 10800000)]) (by first | (simp only [results, Tryz.results299]; go_simp; done) | simp [results, Tryz.results299, go_sem, *]) rfl ⟨rfl, by (repeat (first | exact Below.refl _ _ | refine bl_drewN ?_ | refine bl_drew ?_ | refine bl_alloc ?_ _ | refine Below.setCell ?_ (by (first | (simp; done) | (simp; omega) | omega)) _ | refine bl_step (by assumption) ?_))⟩
theorem info_partsC {P : Program} {t : TypeId} {z : Value} {s b : Nat} (h : (P.info? t).map (fun i => (i.zero, i.size, i.bytes)) = some (some z, s, b)) : ∃ i, P.info? t = some i ∧ i.zero = some z ∧ i.size = s ∧ i.bytes = b := by
  cases hi : P.info? t with
  | none => rw [hi] at h; cases h
  | some i => rw [hi] at h; simp at h; exact ⟨i, rfl, h.1, h.2.1, h.2.2⟩
theorem infoCell : (Tryz.prog.info? 180).map (fun i => (i.zero, i.size, i.bytes)) = some (some (.agg #[.int .i64 0, .int .i64 0, .int .i64 0]), 3, 24) := by kernel_rfl
theorem cnews (w : World) (x y z : Value) (t : Nat) : ∀ (j : Nat) u, ([x, y, z] : List Value)[j]? = some u → (w.alloc (Obj.cells #[x, y, z] t)).cell? ((⟨w.heap.size, 0, none⟩ : Addr).add j) = some u := by
  intro j u h
  match j, h with
  | 0, h => simp at h; subst h; simp [Addr.add, go_sem]
  | 1, h => simp at h; subst h; simp [Addr.add, go_sem]
  | 2, h => simp at h; subst h; simp [Addr.add, go_sem]
  | n + 3, h => simp at h
theorem cone (a b c : Int) : ∀ u ∈ ([.int .i64 a, .int .i64 b, .int .i64 c] : List Value), u.oneCell' = true := by
  intro u hu
  simp at hu
  rcases hu with rfl | rfl | rfl <;> rfl
/-- the numbers of a list of cells, one after the other -/
def flat : List (Int × Int × Int) → List Value
  | [] => []
  | x :: l => .int .i64 x.1 :: .int .i64 x.2.1 :: .int .i64 x.2.2 :: flat l
theorem flat_len (l : List (Int × Int × Int)) : (flat l).length = l.length * 3 := by
  induction l with
  | nil => rfl
  | cons x l ih => simp [flat, ih]; omega
theorem flat_app (l k : List (Int × Int × Int)) : flat (l ++ k) = flat l ++ flat k := by
  induction l with
  | nil => rfl
  | cons x l ih => simp [flat, ih]
theorem flat_get (l : List (Int × Int × Int)) : ∀ {i : Nat} {x : Int × Int × Int}, l[i]? = some x → (flat l)[i * 3]? = some (.int .i64 x.1) ∧ (flat l)[i * 3 + 1]? = some (.int .i64 x.2.1) ∧ (flat l)[i * 3 + 2]? = some (.int .i64 x.2.2) := by
  induction l with
  | nil => intro i x h; simp at h
  | cons y l ih =>
    intro i x h
    cases i with
    | zero => simp at h; subst h; simp [flat]
    | succ i =>
      have := ih (i := i) (x := x) (by simpa using h)
      rw [Nat.succ_mul]
      simpa [flat] using this
theorem cBox_any (l r c : Int) (w : World) (h : vc l r c) :
    Calls Tryz.prog 259 #[.agg #[.int .i64 l, .int .i64 r, .int .i64 c]] w fun e w' => e = .returned (.tuple #[bxV l r c, .int .i64 0]) ∧ Below w.heap.size w w' := by
  have V := hidden fun w => cvalid_ok l r c w h
  have B := hidden fun w => cbox_any l r c w h
  unfold bxV at *
  generalize edg r l - 5400000 = e1 at *
  generalize edg (r + 1) l - 5400000 = e2 at *
  generalize edg c l - 10800000 = e3 at *
  generalize edg (c + 1) l - 10800000 = e4 at *
  go_enter Tryz.func259, Tryz.ntmps259
  go_wp2_with (((first | (go_at_call 264; ((with_reducible refine (V.out _).mono ?_); rintro e w' ⟨rfl, hb⟩); have nm0 := trivial) | (go_at_call 299; ((with_reducible refine (B.out _).mono ?_); rintro e w' ⟨rfl, hb⟩); have nm1 := trivial)); (try replace hb := below_undrew hb); (try replace hb := below_undrewN hb); obtain ⟨hcell, hfroz⟩ := bcell hb; have hz := hb.size; (try simp at hz); (try (have z6 := Nat.lt_of_lt_of_le z7 hz)); (try (have z7 := Nat.lt_of_lt_of_le z8 hz)); (try (have z8 := Nat.lt_of_lt_of_le z9 hz)); (try (have z9 := Nat.lt_of_lt_of_le (Nat.lt_succ_self _) hz)); (try have z0 : w.heap.size < w'.heap.size := by omega); (try have z1 : w.heap.size + 1 < w'.heap.size := by omega); (try have z2 : w.heap.size + 1 + 1 < w'.heap.size := by omega); (try have z3 : w.heap.size + 1 + 1 + 1 < w'.heap.size := by omega); (try have y1 : w1.heap.size < w'.heap.size := by omega); (try have x1 : w1.heap.size + 1 < w'.heap.size := by omega); (try have z10 : w1.heap.size < w'.heap.size + 1 := by omega); (first | (clear nm0; obtain ⟨w1, rfl⟩ : ∃ v, v = w' := ⟨_, rfl⟩) | (clear nm1; obtain ⟨w2, rfl⟩ : ∃ v, v = w' := ⟨_, rfl⟩))))
  exact bodyPost_ret (v := .tuple #[.agg #[.int .i64 e1, .int .i64 e2, .int .i64 e3, .int .i64 e4], .int .i64 0]) (by first | (simp only [results, Tryz.results259]; go_simp; done) | simp [results, Tryz.results259, go_sem, *]) rfl ⟨rfl, by (repeat (first | (with_reducible exact Below.refl _ _) | (with_reducible refine Below.setCell ?_ (by (first | (simp; done) | (simp; omega) | omega)) _) | (with_reducible refine bl_alloc ?_ _) | (with_reducible refine bl_drewN ?_) | (with_reducible refine bl_drew ?_) | (with_reducible refine bl_step (by assumption) ?_)))⟩
theorem rbox_any (l r c : Int) (w : World) (h : vc l r c) :
    Calls Tryz.prog 204 #[.agg #[.int .i64 l, .int .i64 r, .int .i64 c]] w fun e w' => e = .returned (bxV l r c) ∧ Below w.heap.size w w' := by
  have B := hidden fun w => cBox_any l r c w h
  unfold bxV at *
  generalize edg r l - 5400000 = e1 at *
  generalize edg (r + 1) l - 5400000 = e2 at *
  generalize edg c l - 10800000 = e3 at *
  generalize edg (c + 1) l - 10800000 = e4 at *
  go_enter Tryz.func204, Tryz.ntmps204
  go_wp2_with (go_at_call 259; ((with_reducible refine (B.out _).mono ?_); rintro e w' ⟨rfl, hb⟩); (try replace hb := below_undrew hb); (try replace hb := below_undrewN hb); obtain ⟨hcell, hfroz⟩ := bcell hb; have hz := hb.size; (try simp at hz); (try (have z6 := Nat.lt_of_lt_of_le z7 hz)); (try (have z7 := Nat.lt_of_lt_of_le z8 hz)); (try (have z8 := Nat.lt_of_lt_of_le z9 hz)); (try (have z9 := Nat.lt_of_lt_of_le (Nat.lt_succ_self _) hz)); (try have z0 : w.heap.size < w'.heap.size := by omega); (try have z1 : w.heap.size + 1 < w'.heap.size := by omega); (try have z2 : w.heap.size + 1 + 1 < w'.heap.size := by omega); (try have z3 : w.heap.size + 1 + 1 + 1 < w'.heap.size := by omega); obtain ⟨w1, rfl⟩ : ∃ v, v = w' := ⟨_, rfl⟩)
  exact bodyPost_ret (v := .agg #[.int .i64 e1, .int .i64 e2, .int .i64 e3, .int .i64 e4]) (by first | (simp only [results, Tryz.results204]; go_simp; done) | simp [results, Tryz.results204, go_sem, *]) rfl ⟨rfl, by (repeat (first | (with_reducible exact Below.refl _ _) | (with_reducible refine Below.setCell ?_ (by (first | (simp; done) | (simp; omega) | omega)) _) | (with_reducible refine bl_alloc ?_ _) | (with_reducible refine bl_drewN ?_) | (with_reducible refine bl_drew ?_) | (with_reducible refine bl_step (by assumption) ?_)))⟩
theorem own_base {w : World} {b0 base : Nat} {e : TypeId} {size : Nat} {v : Value} {n : Nat} {xs : List Value} (hb : b0 ≤ base) (h : w.ownsRow base e size v n xs) : w.ownsRow b0 e size v n xs := by
  refine ⟨h.1, ?_⟩
  rcases h.2 with h | ⟨g, cap, cur, h1, h2, h3, h4⟩
  · exact Or.inl h
  · exact Or.inr ⟨g, cap, cur, h1, Nat.le_trans hb h2, h3, h4⟩
theorem capp {w wr w1 : World} {e : TypeId} {v : Value} {k : Nat} {xs : List Value} {o : Obj} (hb : Below w.heap.size w wr) (hown : wr.ownsRow w.heap.size e 3 v k xs) (hg : (wr.alloc o).grownBy w1 v.ownBlock) : Below w.heap.size w w1 :=
  Below.grown (bl_alloc hb o) hg (bl_alloc hb o).size (fun j hj => (hown.lt j hj).1)
def kids (l r c : Int) : List (Int × Int × Int) := [(l + 1, 2 * r, 2 * c), (l + 1, 2 * r, 2 * c + 1), (l + 1, 2 * r + 1, 2 * c), (l + 1, 2 * r + 1, 2 * c + 1)]
set_option maxRecDepth 100000 in
set_option maxHeartbeats 4000000 in
theorem kids_any (l r c : Int) (w : World) (h : vc l r c) (hl : l ≤ 2) :
    Calls Tryz.prog 208 #[.agg #[.int .i64 l, .int .i64 r, .int .i64 c]] w fun e w' => ∃ v, e = .returned (.tuple #[v, .int .i64 0]) ∧ w'.ownsRow w.heap.size 180 3 v 4 (flat (kids l r c)) ∧ Below w.heap.size w w' := by
  have V := hidden fun w => cvalid_ok l r c w h
  have hb0 : 0 ≤ l ∧ 0 ≤ r ∧ r ≤ 15 ∧ 0 ≤ c ∧ c ≤ 15 := by unfold vc at h; omega
  obtain ⟨l0, r0, r1, c0, c1⟩ := hb0
  have n16 : (l == 16) = false := by simp; omega
  clear h
  obtain ⟨i0, hi, hz0, hz1, hz2⟩ := info_partsC infoCell
  go_enter Tryz.func208, Tryz.ntmps208
  go_wp2_with (go_at_call 264; ((with_reducible refine (V.out _).mono ?_); rintro e w' ⟨rfl, hb⟩); (try replace hb := below_undrew hb); (try replace hb := below_undrewN hb); obtain ⟨hcell, hfroz⟩ := bcell hb; have hz := hb.size; (try simp at hz); (try (have z6 := Nat.lt_of_lt_of_le z7 hz)); (try (have z7 := Nat.lt_of_lt_of_le z8 hz)); (try (have z8 := Nat.lt_of_lt_of_le z9 hz)); (try (have z9 := Nat.lt_of_lt_of_le (Nat.lt_succ_self _) hz)); (try have z0 : w.heap.size < w'.heap.size := by omega); (try have z1 : w.heap.size + 1 < w'.heap.size := by omega); (try have z2 : w.heap.size + 1 + 1 < w'.heap.size := by omega); (try have z3 : w.heap.size + 1 + 1 + 1 < w'.heap.size := by omega); obtain ⟨w1, rfl⟩ : ∃ v, v = w' := ⟨_, rfl⟩)
  go_loopw [4, 14] (fun v iv wr => ∃ k : Nat, iv = .int .i64 k ∧ k ≤ 4 ∧ wr.ownsRow w1.heap.size 180 3 v k (flat ((kids l r c).take k)) ∧ Below w1.heap.size w1 wr) (fun _ iv _ => (8 - (intOf iv).toNat))
  case atStart => exact ⟨0, rfl, by decide, World.ownsRow_nil _ _ _ _, Below.refl _ _⟩
  case round =>
    obtain ⟨k, rfl, k4, hown, hB⟩ := hrel
    have hzB := hB.size
    have C0 : wr.cell? ⟨w.heap.size, 0, none⟩ = some (.int .i64 l) := cell_later hB (by simp [go_sem, *])
    have C1 : wr.cell? ⟨w.heap.size, 1, none⟩ = some (.int .i64 r) := cell_later hB (by simp [go_sem, *])
    have C2 : wr.cell? ⟨w.heap.size, 2, none⟩ = some (.int .i64 c) := cell_later hB (by simp [go_sem, *])
    by_cases hk : k < 4
    · have hk4 : k = 0 ∨ k = 1 ∨ k = 2 ∨ k = 3 := by omega
      rcases hk4 with rfl | rfl | rfl | rfl
      · go_wp2_with (at_builtin; refine wpList_append_own_at _ rfl _ _ 92 rfl w1.heap.size 180 i0 (.agg #[.int .i64 0, .int .i64 0, .int .i64 0]) 3 24 Tryz.underlying92 hi hz0 hz1 hz2 rfl (by decide) _ 0 _ rfl (hown.alloc _) ⟨wr.heap.size, 0, none⟩ 1 1 [.int .i64 (l + 1), .int .i64 (2 * r), .int .i64 (2 * c)] rfl rfl (cnews _ _ _ _ _) (cone _ _ _) (by decide) (by decide) (by simp; omega) ?_; intro v' w' hown' hg _ _)
        go_wp2
        go_roundw
        case rel => exact ⟨1, rfl, by decide, hown', capp hB hown hg⟩
        case measure => simp [intOf]
      · go_wp2_with (at_builtin; refine wpList_append_own_at _ rfl _ _ 92 rfl w1.heap.size 180 i0 (.agg #[.int .i64 0, .int .i64 0, .int .i64 0]) 3 24 Tryz.underlying92 hi hz0 hz1 hz2 rfl (by decide) _ 1 _ rfl (hown.alloc _) ⟨wr.heap.size, 0, none⟩ 1 1 [.int .i64 (l + 1), .int .i64 (2 * r), .int .i64 (2 * c + 1)] rfl rfl (cnews _ _ _ _ _) (cone _ _ _) (by decide) (by decide) (by simp; omega) ?_; intro v' w' hown' hg _ _)
        go_wp2
        go_roundw
        case rel => exact ⟨2, rfl, by decide, hown', capp hB hown hg⟩
        case measure => simp [intOf]
      · go_wp2_with (at_builtin; refine wpList_append_own_at _ rfl _ _ 92 rfl w1.heap.size 180 i0 (.agg #[.int .i64 0, .int .i64 0, .int .i64 0]) 3 24 Tryz.underlying92 hi hz0 hz1 hz2 rfl (by decide) _ 2 _ rfl (hown.alloc _) ⟨wr.heap.size, 0, none⟩ 1 1 [.int .i64 (l + 1), .int .i64 (2 * r + 1), .int .i64 (2 * c)] rfl rfl (cnews _ _ _ _ _) (cone _ _ _) (by decide) (by decide) (by simp; omega) ?_; intro v' w' hown' hg _ _)
        go_wp2
        go_roundw
        case rel => exact ⟨3, rfl, by decide, hown', capp hB hown hg⟩
        case measure => simp [intOf]
      · go_wp2_with (at_builtin; refine wpList_append_own_at _ rfl _ _ 92 rfl w1.heap.size 180 i0 (.agg #[.int .i64 0, .int .i64 0, .int .i64 0]) 3 24 Tryz.underlying92 hi hz0 hz1 hz2 rfl (by decide) _ 3 _ rfl (hown.alloc _) ⟨wr.heap.size, 0, none⟩ 1 1 [.int .i64 (l + 1), .int .i64 (2 * r + 1), .int .i64 (2 * c + 1)] rfl rfl (cnews _ _ _ _ _) (cone _ _ _) (by decide) (by decide) (by simp; omega) ?_; intro v' w' hown' hg _ _)
        go_wp2
        go_roundw
        case rel => exact ⟨4, rfl, by decide, hown', capp hB hown hg⟩
        case measure => simp [intOf]
    · obtain rfl : k = 4 := by omega
      go_wp2
      exact bodyPost_ret (v := .tuple #[u4, .int .i64 0]) (by simp [results, Tryz.results208, go_sem, *]) rfl ⟨u4, rfl, own_base (by omega) hown, by (repeat (first | (with_reducible exact Below.refl _ _) | (with_reducible refine Below.setCell ?_ (by (first | (simp; done) | (simp; omega) | omega)) _) | (with_reducible refine bl_alloc ?_ _) | (with_reducible refine bl_drewN ?_) | (with_reducible refine bl_drew ?_) | (with_reducible refine bl_step (by assumption) ?_)))⟩
end Go.Proofs.YtdhbeoahpfimbaaGreat
