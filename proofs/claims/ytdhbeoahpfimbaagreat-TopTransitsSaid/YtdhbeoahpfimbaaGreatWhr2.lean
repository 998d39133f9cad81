/- Book.Where, of a star. -/
import Derived.Test.YtdhbeoahpfimbaaGreatWhr
namespace Go.Proofs.YtdhbeoahpfimbaaGreat
open Go.RowKit
set_option maxHeartbeats 4000000 in
theorem where_ok (b n k : Nat) (nm : Nat → ByteArray) (f : Nat → Nat → Int) (a c : Int) (w : World) (hB : BkS w b n nm f) (hn : n ≤ 100) (hk : k < n) (hf : fstI (fun j => sameB (nm j) (nm k)) n = k) (hA : nm k ≠ AR) (ht : timeB a c = true) (hd : c - a < 86400000)
    (s0 : 0 ≤ f k 0) (s1 : f k 0 ≤ 215999) (d0 : -54000 ≤ f k 1) (d1 : f k 1 ≤ 54000) :
    Calls Tryz.prog 108 #[.pointer (some ⟨b, 0, none⟩), .string (nm k), .agg #[.int .i64 a, .int .i64 c]] w fun e w' => e = .returned (.tuple #[.agg #[.int .i64 (ghLo (f k 0) a c), .int .i64 (ghHi (f k 0) a c), .int .i64 (dcLo (f k 1)), .int .i64 (dcHi (f k 1)), .int .i64 0, .int .i64 0, .int .i64 0, .int .i64 0], .int .i64 0]) ∧ Below w.heap.size w w' := by
  obtain ⟨b0, b1, g, cc, b2, hst⟩ := hB
  have IX := hidden fun wq p (hb : Below w.heap.size w wq) (hp : wq.cell? p = some (.string (nm k))) =>
    whr1_idx g 0 n cc nm f (fun j => sameB (nm j) (nm k)) (.pointer (some p)) k wq (hst.later hb) hn (fun i _ wc hb => whr1_any _ _ _ _ _ _ wc (cell_later hb hp)) (fun i hi hg h => by rw [← hf]; exact fst_hit _ n i hi hg h) (fun h => by rw [← hf]; exact fst_none _ n h)
  have S := hidden fun wq => star_ok (nm k) (f k 0) (f k 1) (f k 2) a c wq ht s0 s1 d0 d1
  have c0 := hst.name hk
  have c1 := hst.sha hk
  have c2 := hst.dec hk
  have c3 := hst.mag hk
  simp only [Nat.zero_add] at c0 c1 c2 c3
  have LB : b < w.heap.size := World.block_lt_of_cell? _ _ b0
  have LG : g < w.heap.size := World.block_lt_of_cell? _ _ c0
  have m1 : b < w.heap.size + 1 := by omega
  have m2 : b < w.heap.size + 1 + 1 := by omega
  have m3 : b < w.heap.size + 1 + 1 + 1 := by omega
  have j1 : g < w.heap.size + 1 := by omega
  have j2 : g < w.heap.size + 1 + 1 := by omega
  have j3 : g < w.heap.size + 1 + 1 + 1 := by omega
  have q := timeB_t ht
  have q1 := q.1; have q2 := q.2.1; have q3 := q.2.2
  clear q hst hf s0 s1 d0 d1
  obtain ⟨x, hx⟩ : ∃ x, ghLo (f k 0) a c = x := ⟨_, rfl⟩
  obtain ⟨y, hy⟩ : ∃ y, ghHi (f k 0) a c = y := ⟨_, rfl⟩
  rw [hx, hy] at S ⊢
  clear hx hy
  obtain ⟨t, hT⟩ : ∃ t, nm k = t := ⟨_, rfl⟩
  rw [hT] at IX S c0 hA ⊢
  have E : (t.toList == [65, 114, 105, 101, 115]) = false := ar_ne hA
  clear hT hA
  go_enter Tryz.func108, Tryz.ntmps108
  go_wp2_with (((first | (go_at_call 53; ((with_reducible refine (tvalid_any _ _ _).mono ?_); rintro e w' ⟨rfl, hb⟩); have nm0 := trivial) | (go_at_call 182; ((with_reducible refine (IX.out _ _ (by (repeat (first | (with_reducible exact Below.refl _ _) | (with_reducible refine Below.setCell ?_ (by (first | (simp; done) | (simp; omega) | omega)) _) | (with_reducible refine bl_alloc ?_ _) | (with_reducible refine bl_drewN ?_) | (with_reducible refine bl_drew ?_) | (with_reducible refine bl_step (by assumption) ?_)))) (by simp [go_sem, *])).mono ?_); rintro e w' ⟨rfl, hb⟩); have nm1 := trivial)); (try replace hb := below_undrew hb); (try replace hb := below_undrewN hb); obtain ⟨hcell, hfroz⟩ := bcell hb; have hz := hb.size; (try simp at hz); (try (have z6 := Nat.lt_of_lt_of_le z7 hz)); (try (have z7 := Nat.lt_of_lt_of_le z8 hz)); (try (have z8 := Nat.lt_of_lt_of_le z9 hz)); (try (have z9 := Nat.lt_of_lt_of_le (Nat.lt_succ_self _) hz)); (try have z0 : w.heap.size < w'.heap.size := by omega); (try have z1 : w.heap.size + 1 < w'.heap.size := by omega); (try have z2 : w.heap.size + 1 + 1 < w'.heap.size := by omega); (try have z3 : w.heap.size + 1 + 1 + 1 < w'.heap.size := by omega); (try have y1 : w1.heap.size < w'.heap.size := by omega); (try have x1 : w1.heap.size + 1 < w'.heap.size := by omega); (try have z10 : w1.heap.size < w'.heap.size + 1 := by omega); (first | (clear nm0; obtain ⟨w1, rfl⟩ : ∃ v, v = w' := ⟨_, rfl⟩) | (clear nm1; obtain ⟨w2, rfl⟩ : ∃ v, v = w' := ⟨_, rfl⟩))))
  (refine name_code ?_; intro w' hb; (try replace hb := below_undrew hb); (try replace hb := below_undrewN hb); obtain ⟨hcell, hfroz⟩ := bcell hb; have hz := hb.size; (try simp at hz); (try (have z6 := Nat.lt_of_lt_of_le z7 hz)); (try (have z7 := Nat.lt_of_lt_of_le z8 hz)); (try (have z8 := Nat.lt_of_lt_of_le z9 hz)); (try (have z9 := Nat.lt_of_lt_of_le (Nat.lt_succ_self _) hz)); (try have z0 : w.heap.size < w'.heap.size := by omega); (try have z1 : w.heap.size + 1 < w'.heap.size := by omega); (try have z2 : w.heap.size + 1 + 1 < w'.heap.size := by omega); (try have z3 : w.heap.size + 1 + 1 + 1 < w'.heap.size := by omega); (try have y1 : w1.heap.size < w'.heap.size := by omega); (try have y2 : w2.heap.size < w'.heap.size := by omega); (try have y3 : w3.heap.size < w'.heap.size := by omega); (try have x1 : w1.heap.size + 1 < w'.heap.size := by omega); (try have x2 : w2.heap.size + 1 < w'.heap.size := by omega); (try have x3 : w3.heap.size + 1 < w'.heap.size := by omega); (try have z10 : w1.heap.size < w'.heap.size + 1 := by omega); (try have z20 : w2.heap.size < w'.heap.size + 1 := by omega); (try have z30 : w3.heap.size < w'.heap.size + 1 := by omega))
  have p0 : w'.cell? ⟨w.heap.size, 0, none⟩ = some (.string t) := by first | (simp [go_sem, *]; done) | assumption
  have p1 : w'.cell? ⟨w.heap.size + 1, 0, none⟩ = some (.int .i64 a) := by simp [go_sem, *]
  have p2 : w'.cell? ⟨w.heap.size + 1, 1, none⟩ = some (.int .i64 c) := by simp [go_sem, *]
  have r0 : w'.cell? ⟨w.heap.size + 1 + 1, 0, none⟩ = some (.int .i64 0) := by simp [go_sem, *]
  have r1 : w'.cell? ⟨w.heap.size + 1 + 1, 1, none⟩ = some (.int .i64 0) := by simp [go_sem, *]
  have r2 : w'.cell? ⟨w.heap.size + 1 + 1, 2, none⟩ = some (.int .i64 0) := by simp [go_sem, *]
  have r3 : w'.cell? ⟨w.heap.size + 1 + 1, 3, none⟩ = some (.int .i64 0) := by simp [go_sem, *]
  have r4 : w'.cell? ⟨w.heap.size + 1 + 1, 4, none⟩ = some (.int .i64 0) := by simp [go_sem, *]
  have r5 : w'.cell? ⟨w.heap.size + 1 + 1, 5, none⟩ = some (.int .i64 0) := by simp [go_sem, *]
  have r6 : w'.cell? ⟨w.heap.size + 1 + 1, 6, none⟩ = some (.int .i64 0) := by simp [go_sem, *]
  have r7 : w'.cell? ⟨w.heap.size + 1 + 1, 7, none⟩ = some (.int .i64 0) := by simp [go_sem, *]
  have rf : ∀ o, w'.frozen? ⟨w.heap.size + 1 + 1, o, none⟩ = false := by intro o; simp [go_sem, *]
  have lb1 : b < w1.heap.size := by omega
  have lb2 : b < w2.heap.size := by omega
  have e2 : w'.cell? ⟨b, 2, none⟩ = some (.slice (some ⟨g, 0, none⟩) n cc) := by simp [go_sem, *]
  have hw0 : Below w.heap.size w w' := by (repeat (first | (with_reducible exact Below.refl _ _) | (with_reducible refine Below.setCell ?_ (by (first | (simp; done) | (simp; omega) | omega)) _) | (with_reducible refine bl_alloc ?_ _) | (with_reducible refine bl_drewN ?_) | (with_reducible refine bl_drew ?_) | (with_reducible refine bl_step (by assumption) ?_)))
  replace c0 := cell_later hw0 c0
  replace c1 := cell_later hw0 c1
  replace c2 := cell_later hw0 c2
  replace c3 := cell_later hw0 c3
  have hzb : w.heap.size + 1 + 1 < w'.heap.size := World.block_lt_of_cell? _ _ r0
  have hzc : g < w'.heap.size := by omega
  have hzd : b < w'.heap.size := by omega
  have ng : g ≠ w.heap.size + 1 + 1 := by omega
  have nb : b ≠ w.heap.size + 1 + 1 := by omega
  have kk : decide ((k : Int) < 0) = false := by simp
  clear hcell hfroz hz hb b0 b1 b2
  obtain ⟨V0, rfl⟩ : ∃ v, v = w' := ⟨_, rfl⟩
  refine wp_region_quiet_below (by kernel_rfl) (by kernel_rfl) ?_
  repeat (first | go_big_quiet_step (fail) | quiet_step (fail))
  refine wpQuiet_nil ?_; intro w' hw'; have hb := below_of_regrown hw'; clear hw'; (try replace hb := below_undrew hb); (try replace hb := below_undrewN hb); obtain ⟨hcell, hfroz⟩ := bcell hb; have hz := hb.size; (try simp at hz); (try (have z6 := Nat.lt_of_lt_of_le z7 hz)); (try (have z7 := Nat.lt_of_lt_of_le z8 hz)); (try (have z8 := Nat.lt_of_lt_of_le z9 hz)); (try (have z9 := Nat.lt_of_lt_of_le (Nat.lt_succ_self _) hz)); (try have z0 : w.heap.size < w'.heap.size := by omega); (try have z1 : w.heap.size + 1 < w'.heap.size := by omega); (try have z2 : w.heap.size + 1 + 1 < w'.heap.size := by omega); (try have z3 : w.heap.size + 1 + 1 + 1 < w'.heap.size := by omega); (try have y1 : w1.heap.size < w'.heap.size := by omega); (try have y2 : w2.heap.size < w'.heap.size := by omega); (try have y3 : w3.heap.size < w'.heap.size := by omega); (try have x1 : w1.heap.size + 1 < w'.heap.size := by omega); (try have x2 : w2.heap.size + 1 < w'.heap.size := by omega); (try have x3 : w3.heap.size + 1 < w'.heap.size := by omega); (try have z10 : w1.heap.size < w'.heap.size + 1 := by omega); (try have z20 : w2.heap.size < w'.heap.size + 1 := by omega); (try have z30 : w3.heap.size < w'.heap.size + 1 := by omega)
  have k0 : decide ((0 : Int) ≤ (k : Int)) = true := by simp
  have dw : decide ((86400000 : Int) ≤ c - a) = false := by simp; omega
  have dx : (c - a).bmod (2 ^ 64) = c - a := Int.bmod_eq_of_le (by omega) (by omega)
  obtain ⟨w3, rfl⟩ : ∃ v, v = w' := ⟨_, rfl⟩
  replace hb := bl_step hb hw0
  clear hw0
  have v0 : ∀ bb o, bb < V0.heap.size → w3.cell? ⟨bb, o, none⟩ = V0.cell? ⟨bb, o, none⟩ := hcell
  have hy0 : w.heap.size < V0.heap.size := World.block_lt_of_cell? _ _ p0
  rw [← v0 _ _ hy0] at p0
  have hy1 : w.heap.size + 1 < V0.heap.size := World.block_lt_of_cell? _ _ p1
  rw [← v0 _ _ hy1] at p1 p2
  rw [← v0 _ _ hzb] at r0 r1 r2 r3 r4 r5 r6 r7
  rw [← v0 _ _ hzd] at e2
  rw [← v0 _ _ hzc] at c0 c1 c2 c3
  have rg : ∀ o, w3.frozen? ⟨w.heap.size + 1 + 1, o, none⟩ = false := by intro o; rw [hfroz _ _ hzb]; exact rf o
  have hzi : w.heap.size < w3.heap.size := World.block_lt_of_cell? _ _ p0
  have hzh : w.heap.size + 1 < w3.heap.size := World.block_lt_of_cell? _ _ p1
  have hze : w.heap.size + 1 + 1 < w3.heap.size := World.block_lt_of_cell? _ _ r0
  have hzf : g < w3.heap.size := World.block_lt_of_cell? _ _ c0
  have hzg : b < w3.heap.size := World.block_lt_of_cell? _ _ e2
  clear rf hcell hfroz v0 hz z0 z1 z2 z10 z20
  go_wp2
  (refine name_code ?_; intro w' hb; (try replace hb := below_undrew hb); (try replace hb := below_undrewN hb); obtain ⟨hcell, hfroz⟩ := bcell hb; have hz := hb.size; (try simp at hz); (try (have z6 := Nat.lt_of_lt_of_le z7 hz)); (try (have z7 := Nat.lt_of_lt_of_le z8 hz)); (try (have z8 := Nat.lt_of_lt_of_le z9 hz)); (try (have z9 := Nat.lt_of_lt_of_le (Nat.lt_succ_self _) hz)); (try have z0 : w.heap.size < w'.heap.size := by omega); (try have z1 : w.heap.size + 1 < w'.heap.size := by omega); (try have z2 : w.heap.size + 1 + 1 < w'.heap.size := by omega); (try have z3 : w.heap.size + 1 + 1 + 1 < w'.heap.size := by omega); (try have y1 : w1.heap.size < w'.heap.size := by omega); (try have y2 : w2.heap.size < w'.heap.size := by omega); (try have y3 : w3.heap.size < w'.heap.size := by omega); (try have x1 : w1.heap.size + 1 < w'.heap.size := by omega); (try have x2 : w2.heap.size + 1 < w'.heap.size := by omega); (try have x3 : w3.heap.size + 1 < w'.heap.size := by omega); (try have z10 : w1.heap.size < w'.heap.size + 1 := by omega); (try have z20 : w2.heap.size < w'.heap.size + 1 := by omega); (try have z30 : w3.heap.size < w'.heap.size + 1 := by omega))
  have p1' : w'.cell? ⟨w.heap.size + 1, 0, none⟩ = some (.int .i64 a) := by simp [go_sem, *]
  have p2' : w'.cell? ⟨w.heap.size + 1, 1, none⟩ = some (.int .i64 c) := by simp [go_sem, *]
  have v3 : ∀ o, w'.cell? ⟨w.heap.size + 1 + 1, o, none⟩ = w3.cell? ⟨w.heap.size + 1 + 1, o, none⟩ := by intro o; simp [go_sem, *]
  have rf : ∀ o, w'.frozen? ⟨w.heap.size + 1 + 1, o, none⟩ = false := by intro o; simp [go_sem, *]
  have t0 : w'.cell? ⟨w3.heap.size, 0, none⟩ = some (.int .i64 0) := by simp [go_sem, *]
  have t1 : w'.cell? ⟨w3.heap.size, 1, none⟩ = some (.int .i64 0) := by simp [go_sem, *]
  have t2 : w'.cell? ⟨w3.heap.size, 2, none⟩ = some (.int .i64 0) := by simp [go_sem, *]
  have t3 : w'.cell? ⟨w3.heap.size, 3, none⟩ = some (.int .i64 0) := by simp [go_sem, *]
  have t4 : w'.cell? ⟨w3.heap.size, 4, none⟩ = some (.int .i64 0) := by simp [go_sem, *]
  have t5 : w'.cell? ⟨w3.heap.size, 5, none⟩ = some (.int .i64 0) := by simp [go_sem, *]
  have t6 : w'.cell? ⟨w3.heap.size, 6, none⟩ = some (.int .i64 0) := by simp [go_sem, *]
  have t7 : w'.cell? ⟨w3.heap.size, 7, none⟩ = some (.int .i64 0) := by simp [go_sem, *]
  have tf : ∀ o, w'.frozen? ⟨w3.heap.size, o, none⟩ = false := by intro o; simp [go_sem, *]
  have e2' : w'.cell? ⟨b, 2, none⟩ = some (.slice (some ⟨g, 0, none⟩) n cc) := by simp [go_sem, *]
  have v4 : ∀ o, w'.cell? ⟨g, o, none⟩ = w3.cell? ⟨g, o, none⟩ := by intro o; simp [go_sem, *]
  rw [← v3] at r0 r1 r2 r3 r4 r5 r6 r7
  rw [← v4] at c0 c1 c2 c3
  have hw0 : Below w.heap.size w w' := by (repeat (first | (with_reducible exact Below.refl _ _) | (with_reducible refine Below.setCell ?_ (by (first | (simp; done) | (simp; omega) | omega)) _) | (with_reducible refine bl_alloc ?_ _) | (with_reducible refine bl_drewN ?_) | (with_reducible refine bl_drew ?_) | (with_reducible refine bl_step (by assumption) ?_)))
  clear p0 p1 p2 e2 v3 v4 hcell hfroz hb hz rg
  obtain ⟨V1, rfl⟩ : ∃ v, v = w' := ⟨_, rfl⟩
  have f1 : w.heap.size + 1 + 1 < V1.heap.size := World.block_lt_of_cell? _ _ r0
  have f2 : w3.heap.size < V1.heap.size := World.block_lt_of_cell? _ _ t0
  have f3 : g < V1.heap.size := World.block_lt_of_cell? _ _ c0
  have f4 : b < V1.heap.size := World.block_lt_of_cell? _ _ e2'
  have n3 : w.heap.size + 1 + 1 ≠ w3.heap.size := by omega
  have n4 : w.heap.size + 1 ≠ w3.heap.size := by omega
  have n5 : g ≠ w3.heap.size := by omega
  have n6 : b ≠ w3.heap.size := by omega
  have nn : (k : Int) < n := by omega
  refine wp_region_inv (fun a0 LL aa vv => ∃ (l0 l1 l2 l3 l4 l5 l6 l7 l8 l9 l10 l11 l12 l13 : Bool) (uu : World), LL = #[l0, l1, l2, l3, l4, l5, l6, l7, l8, l9, l10, l11, l12, l13] ∧ aa = { a0 with tmps := ((a0.tmps.toList.set 10 (.int .i64 0)).take 65 ++ ([cond l9 (.tuple #[.agg #[.int .i64 x, .int .i64 y, .int .i64 (dcLo (f k 1)), .int .i64 (dcHi (f k 1)), .int .i64 0, .int .i64 0, .int .i64 0, .int .i64 0], .int .i64 0]) (undef), cond l0 (.pointer (some ⟨b, 0, none⟩)) (undef), cond l1 (.pointer (some ⟨b, 0, none⟩)) (undef), cond l2 (.pointer (some ⟨b, 2, none⟩)) (undef), cond l3 (.slice (some ⟨g, 0, none⟩) n cc) (undef), cond l4 (.int .i64 k) (undef), cond l5 (.pointer (some ⟨g, k * 4, none⟩)) (undef), cond l6 (.agg #[.string t, .int .i64 (f k 0), .int .i64 (f k 1), .int .i64 (f k 2)]) (undef), cond l7 (.agg #[.int .i64 a, .int .i64 c]) (undef), cond l8 (.tuple #[.agg #[.int .i64 x, .int .i64 y, .int .i64 (dcLo (f k 1)), .int .i64 (dcHi (f k 1)), .int .i64 0, .int .i64 0, .int .i64 0, .int .i64 0], .int .i64 0]) (undef), cond l10 (.agg #[.int .i64 x, .int .i64 y, .int .i64 (dcLo (f k 1)), .int .i64 (dcHi (f k 1)), .int .i64 0, .int .i64 0, .int .i64 0, .int .i64 0]) (undef), cond l11 (.int .i64 0) (undef)] ++ a0.tmps.toList.drop 77)).toArray } ∧ (l12 = true → l0 = true ∧ l1 = true ∧ l2 = true ∧ l3 = true ∧ l4 = true ∧ l5 = true ∧ l6 = true ∧ l7 = true ∧ l8 = true ∧ l9 = true ∧ l10 = true) ∧ Below V1.heap.size V1 uu ∧ vv = cond l12 (((((((((uu.setCell ⟨w3.heap.size, 0, none⟩ (.int .i64 x)).setCell ⟨w3.heap.size, 1, none⟩ (.int .i64 y)).setCell ⟨w3.heap.size, 2, none⟩ (.int .i64 (dcLo (f k 1)))).setCell ⟨w3.heap.size, 3, none⟩ (.int .i64 (dcHi (f k 1)))).setCell ⟨w3.heap.size, 4, none⟩ (.int .i64 0)).setCell ⟨w3.heap.size, 5, none⟩ (.int .i64 0)).setCell ⟨w3.heap.size, 6, none⟩ (.int .i64 0)).setCell ⟨w3.heap.size, 7, none⟩ (.int .i64 0))) uu) (by kernel_rfl) (by kernel_rfl) ?h0 ?hsize ?hdone ?hstep
  case h0 =>
    refine ⟨false, false, false, false, false, false, false, false, false, false, false, false, false, false, _, rfl, ?_, (fun h => by cases h), by (repeat (first | exact Below.refl _ _ | refine bl_drewN ?_ | refine bl_drew ?_ | refine bl_alloc ?_ _ | refine Below.setCell ?_ (by (first | (simp; done) | (simp; omega) | omega)) _ | refine bl_step (by assumption) ?_)), rfl⟩
    kernel_rfl
  case hsize =>
    intro LL aa vv h
    obtain ⟨l0, h⟩ := h
    obtain ⟨l1, h⟩ := h
    obtain ⟨l2, h⟩ := h
    obtain ⟨l3, h⟩ := h
    obtain ⟨l4, h⟩ := h
    obtain ⟨l5, h⟩ := h
    obtain ⟨l6, h⟩ := h
    obtain ⟨l7, h⟩ := h
    obtain ⟨l8, h⟩ := h
    obtain ⟨l9, h⟩ := h
    obtain ⟨l10, h⟩ := h
    obtain ⟨l11, h⟩ := h
    obtain ⟨l12, h⟩ := h
    obtain ⟨l13, h⟩ := h
    obtain ⟨uu, h⟩ := h
    obtain ⟨hL, _⟩ := h
    rw [hL]
    rfl
  case hstep =>
    intro LL aa vv h
    obtain ⟨l0, h⟩ := h
    obtain ⟨l1, h⟩ := h
    obtain ⟨l2, h⟩ := h
    obtain ⟨l3, h⟩ := h
    obtain ⟨l4, h⟩ := h
    obtain ⟨l5, h⟩ := h
    obtain ⟨l6, h⟩ := h
    obtain ⟨l7, h⟩ := h
    obtain ⟨l8, h⟩ := h
    obtain ⟨l9, h⟩ := h
    obtain ⟨l10, h⟩ := h
    obtain ⟨l11, h⟩ := h
    obtain ⟨l12, h⟩ := h
    obtain ⟨l13, h⟩ := h
    obtain ⟨uu, h⟩ := h
    obtain ⟨hL, h⟩ := h
    obtain ⟨ha, h⟩ := h
    obtain ⟨hall, h⟩ := h
    obtain ⟨hu, hv⟩ := h
    simp only [List.take_succ_cons, List.take_zero, List.cons_append, List.nil_append, List.drop_succ_cons, List.drop_zero, List.set_cons_zero, List.set_cons_succ] at ha
    subst hL
    subst ha
    refine ⟨?s0, ?s1, ?s2, ?s3, ?s4, ?s5, ?s6, ?s7, ?s8, ?s9, ?s10, ?s11, ?s12, ?s13, trivial⟩
    case s0 =>
      intro ff gg KK hK
      have f0 : l0 = false := ff
      cases hl : l12
      case true =>
        have := (hall hl).1
        rw [f0] at this
        cases this
      rw [hl] at hv
      simp only [cond_false] at hv
      subst hv
      clear ff gg
      subst hl
      subst f0
      simp only [cond_false]
      go_simp
      exact hK _ _ ⟨true, l1, l2, l3, l4, l5, l6, l7, l8, l9, l10, l11, false, l13, _, rfl, (by kernel_rfl), (fun h => by cases h), hu, rfl⟩
    case s1 =>
      intro ff gg KK hK
      have f0 : l1 = false := ff
      cases hl : l12
      case true =>
        have := (hall hl).2.1
        rw [f0] at this
        cases this
      rw [hl] at hv
      simp only [cond_false] at hv
      subst hv
      have t0 : l0 = true := gg ⟨0, .data⟩ (by simp) (by rfl)
      clear ff gg
      subst t0
      subst hl
      subst f0
      simp only [cond_true, cond_false]
      go_simp
      exact hK _ _ ⟨true, true, l2, l3, l4, l5, l6, l7, l8, l9, l10, l11, false, l13, _, rfl, (by kernel_rfl), (fun h => by cases h), hu, rfl⟩
    case s2 =>
      intro ff gg KK hK
      have f0 : l2 = false := ff
      cases hl : l12
      case true =>
        have := (hall hl).2.2.1
        rw [f0] at this
        cases this
      rw [hl] at hv
      simp only [cond_false] at hv
      subst hv
      have t1 : l1 = true := gg ⟨1, .data⟩ (by simp) (by rfl)
      clear ff gg
      subst t1
      subst hl
      subst f0
      simp only [cond_true, cond_false]
      go_simp
      exact hK _ _ ⟨l0, true, true, l3, l4, l5, l6, l7, l8, l9, l10, l11, false, l13, _, rfl, (by kernel_rfl), (fun h => by cases h), hu, rfl⟩
    case s3 =>
      intro ff gg KK hK
      have f0 : l3 = false := ff
      cases hl : l12
      case true =>
        have := (hall hl).2.2.2.1
        rw [f0] at this
        cases this
      rw [hl] at hv
      simp only [cond_false] at hv
      subst hv
      have t2 : l2 = true := gg ⟨2, .data⟩ (by simp) (by rfl)
      clear ff gg
      subst t2
      subst hl
      subst f0
      simp only [cond_true, cond_false]
      have ze2 := cell_later hu e2'
      go_simp
      exact hK _ _ ⟨l0, l1, true, true, l4, l5, l6, l7, l8, l9, l10, l11, false, l13, _, rfl, (by kernel_rfl), (fun h => by cases h), hu, rfl⟩
    case s4 =>
      intro ff gg KK hK
      have f0 : l4 = false := ff
      cases hl : l12
      case true =>
        have := (hall hl).2.2.2.2.1
        rw [f0] at this
        cases this
      rw [hl] at hv
      simp only [cond_false] at hv
      subst hv
      clear ff gg
      subst hl
      subst f0
      simp only [cond_false]
      go_simp
      exact hK _ _ ⟨l0, l1, l2, l3, true, l5, l6, l7, l8, l9, l10, l11, false, l13, _, rfl, (by kernel_rfl), (fun h => by cases h), hu, rfl⟩
    case s5 =>
      intro ff gg KK hK
      have f0 : l5 = false := ff
      cases hl : l12
      case true =>
        have := (hall hl).2.2.2.2.2.1
        rw [f0] at this
        cases this
      rw [hl] at hv
      simp only [cond_false] at hv
      subst hv
      have t3 : l3 = true := gg ⟨3, .data⟩ (by simp) (by rfl)
      have t4 : l4 = true := gg ⟨4, .data⟩ (by simp) (by rfl)
      clear ff gg
      subst t3 t4
      subst hl
      subst f0
      simp only [cond_true, cond_false]
      go_simp
      exact hK _ _ ⟨l0, l1, l2, true, true, true, l6, l7, l8, l9, l10, l11, false, l13, _, rfl, (by kernel_rfl), (fun h => by cases h), hu, rfl⟩
    case s6 =>
      intro ff gg KK hK
      have f0 : l6 = false := ff
      cases hl : l12
      case true =>
        have := (hall hl).2.2.2.2.2.2.1
        rw [f0] at this
        cases this
      rw [hl] at hv
      simp only [cond_false] at hv
      subst hv
      have t5 : l5 = true := gg ⟨5, .data⟩ (by simp) (by rfl)
      clear ff gg
      subst t5
      subst hl
      subst f0
      simp only [cond_true, cond_false]
      have zc0 := cell_later hu c0
      have zc1 := cell_later hu c1
      have zc2 := cell_later hu c2
      have zc3 := cell_later hu c3
      go_simp
      exact hK _ _ ⟨l0, l1, l2, l3, l4, true, true, l7, l8, l9, l10, l11, false, l13, _, rfl, (by kernel_rfl), (fun h => by cases h), hu, rfl⟩
    case s7 =>
      intro ff gg KK hK
      have f0 : l7 = false := ff
      cases hl : l12
      case true =>
        have := (hall hl).2.2.2.2.2.2.2.1
        rw [f0] at this
        cases this
      rw [hl] at hv
      simp only [cond_false] at hv
      subst hv
      clear ff gg
      subst hl
      subst f0
      simp only [cond_false]
      have zp1 := cell_later hu p1'
      have zp2 := cell_later hu p2'
      go_simp
      exact hK _ _ ⟨l0, l1, l2, l3, l4, l5, l6, true, l8, l9, l10, l11, false, l13, _, rfl, (by kernel_rfl), (fun h => by cases h), hu, rfl⟩
    case s8 =>
      intro ff gg KK hK
      have f0 : l8 = false := ff
      cases hl : l12
      case true =>
        have := (hall hl).2.2.2.2.2.2.2.2.1
        rw [f0] at this
        cases this
      rw [hl] at hv
      simp only [cond_false] at hv
      subst hv
      have t6 : l6 = true := gg ⟨6, .data⟩ (by simp) (by rfl)
      have t7 : l7 = true := gg ⟨7, .data⟩ (by simp) (by rfl)
      clear ff gg
      subst t6 t7
      subst hl
      subst f0
      simp only [cond_true, cond_false]
      go_simp
      go_at_call 188; ((with_reducible refine (S.out _).mono ?_); rintro e w' ⟨rfl, hb⟩)
      exact hK _ _ ⟨l0, l1, l2, l3, l4, l5, true, true, true, l9, l10, l11, false, l13, _, rfl, (by kernel_rfl), (fun h => by cases h), bl_step hb hu, rfl⟩
    case s9 =>
      intro ff gg KK hK
      have f0 : l9 = false := ff
      cases hl : l12
      case true =>
        have := (hall hl).2.2.2.2.2.2.2.2.2.1
        rw [f0] at this
        cases this
      rw [hl] at hv
      simp only [cond_false] at hv
      subst hv
      have t8 : l8 = true := gg ⟨8, .data⟩ (by simp) (by rfl)
      clear ff gg
      subst t8
      subst hl
      subst f0
      simp only [cond_true, cond_false]
      go_simp
      exact hK _ _ ⟨l0, l1, l2, l3, l4, l5, l6, l7, true, true, l10, l11, false, l13, _, rfl, (by kernel_rfl), (fun h => by cases h), hu, rfl⟩
    case s10 =>
      intro ff gg KK hK
      have f0 : l10 = false := ff
      cases hl : l12
      case true =>
        have := (hall hl).2.2.2.2.2.2.2.2.2.2
        rw [f0] at this
        cases this
      rw [hl] at hv
      simp only [cond_false] at hv
      subst hv
      have t9 : l9 = true := gg ⟨9, .data⟩ (by simp) (by rfl)
      clear ff gg
      subst t9
      subst hl
      subst f0
      simp only [cond_true, cond_false]
      go_simp
      exact hK _ _ ⟨l0, l1, l2, l3, l4, l5, l6, l7, l8, true, true, l11, false, l13, _, rfl, (by kernel_rfl), (fun h => by cases h), hu, rfl⟩
    case s11 =>
      intro ff gg KK hK
      have f0 : l11 = false := ff
      have t9 : l9 = true := gg ⟨9, .data⟩ (by simp) (by rfl)
      clear ff gg
      subst t9
      subst f0
      simp only [cond_true, cond_false]
      go_simp
      exact hK _ _ ⟨l0, l1, l2, l3, l4, l5, l6, l7, l8, true, l10, true, l12, l13, _, rfl, (by kernel_rfl), hall, hu, (by first | rfl | exact hv)⟩
    case s12 =>
      intro ff gg KK hK
      have f0 : l12 = false := ff
      have t0 : l0 = true := gg ⟨0, .phase⟩ (by simp) (by rfl)
      have t1 : l1 = true := gg ⟨1, .phase⟩ (by simp) (by rfl)
      have t2 : l2 = true := gg ⟨2, .phase⟩ (by simp) (by rfl)
      have t3 : l3 = true := gg ⟨3, .phase⟩ (by simp) (by rfl)
      have t4 : l4 = true := gg ⟨4, .phase⟩ (by simp) (by rfl)
      have t5 : l5 = true := gg ⟨5, .phase⟩ (by simp) (by rfl)
      have t6 : l6 = true := gg ⟨6, .phase⟩ (by simp) (by rfl)
      have t7 : l7 = true := gg ⟨7, .phase⟩ (by simp) (by rfl)
      have t8 : l8 = true := gg ⟨8, .phase⟩ (by simp) (by rfl)
      have t9 : l9 = true := gg ⟨9, .phase⟩ (by simp) (by rfl)
      have t10 : l10 = true := gg ⟨10, .data⟩ (by simp) (by rfl)
      clear ff gg
      subst t0 t1 t2 t3 t4 t5 t6 t7 t8 t9 t10
      subst f0
      simp only [cond_false] at hv
      subst hv
      simp only [cond_true]
      have zf : ∀ o, vv.frozen? ⟨w3.heap.size, o, none⟩ = false := fun o => by rw [(bcell hu).2 _ _ f2]; exact tf o
      have zt0 := cell_later hu t0
      have zt1 := cell_later hu t1
      have zt2 := cell_later hu t2
      have zt3 := cell_later hu t3
      have zt4 := cell_later hu t4
      have zt5 := cell_later hu t5
      have zt6 := cell_later hu t6
      have zt7 := cell_later hu t7
      go_simp
      exact hK _ _ ⟨true, true, true, true, true, true, true, true, true, true, true, l11, true, l13, _, rfl, (by kernel_rfl), (fun _ => ⟨rfl, rfl, rfl, rfl, rfl, rfl, rfl, rfl, rfl, rfl, rfl⟩), hu, rfl⟩
    case s13 =>
      intro ff gg KK hK
      have f0 : l13 = false := ff
      have t11 : l11 = true := gg ⟨11, .data⟩ (by simp) (by rfl)
      have t12 : l12 = true := gg ⟨12, .chain⟩ (by simp) (by rfl)
      have t0 : l0 = true := gg ⟨0, .phase⟩ (by simp) (by rfl)
      have t1 : l1 = true := gg ⟨1, .phase⟩ (by simp) (by rfl)
      have t2 : l2 = true := gg ⟨2, .phase⟩ (by simp) (by rfl)
      have t3 : l3 = true := gg ⟨3, .phase⟩ (by simp) (by rfl)
      have t4 : l4 = true := gg ⟨4, .phase⟩ (by simp) (by rfl)
      have t5 : l5 = true := gg ⟨5, .phase⟩ (by simp) (by rfl)
      have t6 : l6 = true := gg ⟨6, .phase⟩ (by simp) (by rfl)
      have t7 : l7 = true := gg ⟨7, .phase⟩ (by simp) (by rfl)
      have t8 : l8 = true := gg ⟨8, .phase⟩ (by simp) (by rfl)
      have t9 : l9 = true := gg ⟨9, .phase⟩ (by simp) (by rfl)
      have t10 : l10 = true := gg ⟨10, .phase⟩ (by simp) (by rfl)
      clear ff gg
      subst t11 t12 t0 t1 t2 t3 t4 t5 t6 t7 t8 t9 t10
      subst f0
      simp only [cond_true] at hv
      subst hv
      simp only [cond_true]
      go_simp
      exact hK _ _ ⟨true, true, true, true, true, true, true, true, true, true, true, true, true, true, _, rfl, (by kernel_rfl), hall, hu, rfl⟩
  case hdone =>
    intro LL aa vv h hd
    obtain ⟨l0, h⟩ := h
    obtain ⟨l1, h⟩ := h
    obtain ⟨l2, h⟩ := h
    obtain ⟨l3, h⟩ := h
    obtain ⟨l4, h⟩ := h
    obtain ⟨l5, h⟩ := h
    obtain ⟨l6, h⟩ := h
    obtain ⟨l7, h⟩ := h
    obtain ⟨l8, h⟩ := h
    obtain ⟨l9, h⟩ := h
    obtain ⟨l10, h⟩ := h
    obtain ⟨l11, h⟩ := h
    obtain ⟨l12, h⟩ := h
    obtain ⟨l13, h⟩ := h
    obtain ⟨uu, h⟩ := h
    obtain ⟨hL, h⟩ := h
    obtain ⟨ha, h⟩ := h
    obtain ⟨hall, h⟩ := h
    obtain ⟨hu, hv⟩ := h
    rw [hL] at hd
    have t0 : l0 = true := hd 0 (by decide)
    have t1 : l1 = true := hd 1 (by decide)
    have t2 : l2 = true := hd 2 (by decide)
    have t3 : l3 = true := hd 3 (by decide)
    have t4 : l4 = true := hd 4 (by decide)
    have t5 : l5 = true := hd 5 (by decide)
    have t6 : l6 = true := hd 6 (by decide)
    have t7 : l7 = true := hd 7 (by decide)
    have t8 : l8 = true := hd 8 (by decide)
    have t9 : l9 = true := hd 9 (by decide)
    have t10 : l10 = true := hd 10 (by decide)
    have t11 : l11 = true := hd 11 (by decide)
    have t12 : l12 = true := hd 12 (by decide)
    have t13 : l13 = true := hd 13 (by decide)
    clear hd hL hall
    subst t0 t1 t2 t3 t4 t5 t6 t7 t8 t9 t10 t11 t12 t13
    simp only [cond_true, List.take_succ_cons, List.take_zero, List.cons_append, List.nil_append, List.drop_succ_cons, List.drop_zero, List.set_cons_zero, List.set_cons_succ] at ha
    simp only [cond_true] at hv
    subst ha
    subst hv
    have hf1 : ∀ o, uu.frozen? ⟨w.heap.size + 1 + 1, o, none⟩ = false := fun o => by rw [(bcell hu).2 _ _ f1]; exact rf o
    have zr0 := cell_later hu r0
    have zr1 := cell_later hu r1
    have zr2 := cell_later hu r2
    have zr3 := cell_later hu r3
    have zr4 := cell_later hu r4
    have zr5 := cell_later hu r5
    have zr6 := cell_later hu r6
    have zr7 := cell_later hu r7
    have zt0 := cell_later hu t0
    have zt1 := cell_later hu t1
    have zt2 := cell_later hu t2
    have zt3 := cell_later hu t3
    have zt4 := cell_later hu t4
    have zt5 := cell_later hu t5
    have zt6 := cell_later hu t6
    have zt7 := cell_later hu t7
    have hu2 : Below w.heap.size w uu := bl_step hu hw0
    have y1 : w.heap.size + 1 + 1 < uu.heap.size := World.block_lt_of_cell? _ _ zr0
    have y2 : w3.heap.size < uu.heap.size := World.block_lt_of_cell? _ _ zt0
    have y3 : w3.heap.size ≠ w.heap.size + 1 + 1 := by omega
    have y4 : w.heap.size ≤ w3.heap.size := by omega
    clear hu r0 r1 r2 r3 r4 r5 r6 r7 t0 t1 t2 t3 t4 t5 t6 t7 rf tf c0 c1 c2 c3
    refine name_world (F := Exit.inBlock _ _ _ _) ?_
    intro w' hb
    obtain ⟨hcell, hfroz⟩ := bcell hb
    have hz := hb.size
    simp at hz
    have q0 : w'.cell? ⟨w3.heap.size, 0, none⟩ = some (.int .i64 x) := by simp [go_sem, *]
    have q1 : w'.cell? ⟨w3.heap.size, 1, none⟩ = some (.int .i64 y) := by simp [go_sem, *]
    have q2 : w'.cell? ⟨w3.heap.size, 2, none⟩ = some (.int .i64 (dcLo (f k 1))) := by simp [go_sem, *]
    have q3 : w'.cell? ⟨w3.heap.size, 3, none⟩ = some (.int .i64 (dcHi (f k 1))) := by simp [go_sem, *]
    have q4 : w'.cell? ⟨w3.heap.size, 4, none⟩ = some (.int .i64 0) := by simp [go_sem, *]
    have q5 : w'.cell? ⟨w3.heap.size, 5, none⟩ = some (.int .i64 0) := by simp [go_sem, *]
    have q6 : w'.cell? ⟨w3.heap.size, 6, none⟩ = some (.int .i64 0) := by simp [go_sem, *]
    have q7 : w'.cell? ⟨w3.heap.size, 7, none⟩ = some (.int .i64 0) := by simp [go_sem, *]
    have o0 : w'.cell? ⟨w.heap.size + 1 + 1, 0, none⟩ = some (.int .i64 0) := by simp [go_sem, *]
    have o1 : w'.cell? ⟨w.heap.size + 1 + 1, 1, none⟩ = some (.int .i64 0) := by simp [go_sem, *]
    have o2 : w'.cell? ⟨w.heap.size + 1 + 1, 2, none⟩ = some (.int .i64 0) := by simp [go_sem, *]
    have o3 : w'.cell? ⟨w.heap.size + 1 + 1, 3, none⟩ = some (.int .i64 0) := by simp [go_sem, *]
    have o4 : w'.cell? ⟨w.heap.size + 1 + 1, 4, none⟩ = some (.int .i64 0) := by simp [go_sem, *]
    have o5 : w'.cell? ⟨w.heap.size + 1 + 1, 5, none⟩ = some (.int .i64 0) := by simp [go_sem, *]
    have o6 : w'.cell? ⟨w.heap.size + 1 + 1, 6, none⟩ = some (.int .i64 0) := by simp [go_sem, *]
    have o7 : w'.cell? ⟨w.heap.size + 1 + 1, 7, none⟩ = some (.int .i64 0) := by simp [go_sem, *]
    have of : ∀ o, w'.frozen? ⟨w.heap.size + 1 + 1, o, none⟩ = false := by intro o; simp [go_sem, *]
    have hw4 : Below w.heap.size w w' := bl_step hb ((((((((hu2.setCell y4 _).setCell y4 _).setCell y4 _).setCell y4 _).setCell y4 _).setCell y4 _).setCell y4 _).setCell y4 _)
    clear hcell hfroz hz hb zr0 zr1 zr2 zr3 zr4 zr5 zr6 zr7 zt0 zt1 zt2 zt3 zt4 zt5 zt6 zt7
    have y5 : w.heap.size ≤ w.heap.size + 1 + 1 := by omega
    go_wp2
    exact bodyPost_ret (v := .tuple #[.agg #[.int .i64 x, .int .i64 y, .int .i64 (dcLo (f k 1)), .int .i64 (dcHi (f k 1)), .int .i64 0, .int .i64 0, .int .i64 0, .int .i64 0], .int .i64 0]) (by first | (simp only [results, Tryz.results108]; go_simp; done) | simp [results, Tryz.results108, go_sem, *]) rfl ⟨rfl, ((((((((hw4.setCell y5 _).setCell y5 _).setCell y5 _).setCell y5 _).setCell y5 _).setCell y5 _).setCell y5 _).setCell y5 _)⟩
end Go.Proofs.YtdhbeoahpfimbaaGreat
