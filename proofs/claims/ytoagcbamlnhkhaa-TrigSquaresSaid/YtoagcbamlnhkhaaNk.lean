/- The product of boxes in the statements of chapter 6. -/
import Derived.Test.YtoagcbamlnhkhaaNj
namespace Go.Proofs.Ytoagcbamlnhkhaa
open Go.RowKit

/-- the least and the greatest of the first m of four numbers -/
def mnF (p0 p1 p2 p3 : Int) : Nat → Int
  | 0 => p0
  | 1 => p0
  | 2 => min p0 p1
  | 3 => min (min p0 p1) p2
  | _ => min (min (min p0 p1) p2) p3
def mxF (p0 p1 p2 p3 : Int) : Nat → Int
  | 0 => p0
  | 1 => p0
  | 2 => max p0 p1
  | 3 => max (max p0 p1) p2
  | _ => max (max (max p0 p1) p2) p3

/-- the state of the loops: what stood at w0 but for block E; the box that grows -/
def TM (w w0 wr : World) (E m : Nat) (lo hi : Int) : Prop :=
  (∀ b o, b ≠ E → b < w0.heap.size → wr.cell? ⟨b, o, none⟩ = w0.cell? ⟨b, o, none⟩) ∧ (∀ b o, b < w0.heap.size → wr.frozen? ⟨b, o, none⟩ = w0.frozen? ⟨b, o, none⟩) ∧ w0.heap.size ≤ wr.heap.size ∧ Below w.heap.size w wr ∧
  ∃ A n c b A2 n2 c2 b2, wr.cell? ⟨E, 0, none⟩ = some (.slice A n c) ∧ wr.cell? ⟨E, 1, none⟩ = some (.bool b) ∧ wr.cell? ⟨E, 2, none⟩ = some (.slice A2 n2 c2) ∧ wr.cell? ⟨E, 3, none⟩ = some (.bool b2) ∧
    (0 < m → (Dig wr A n c lo.natAbs ∧ b = decide (lo < 0) ∧ Fr (w.heap.size + 4) A) ∧ (Dig wr A2 n2 c2 hi.natAbs ∧ b2 = decide (hi < 0) ∧ Fr (w.heap.size + 4) A2))

theorem TM.step {w w0 wr w5 : World} {E m : Nat} {lo hi : Int} (h : TM w w0 wr E m lo hi) (hb : Below wr.heap.size wr w5) (hE : E < wr.heap.size) : TM w w5 w5 E m lo hi := by
  obtain ⟨_, _, _, h4, A, n, c, b, A2, n2, c2, b2, e0, e1, e2, e3, h5⟩ := h
  exact ⟨fun _ _ _ _ => rfl, fun _ _ _ => rfl, Nat.le_refl _, bl_step hb h4, A, n, c, b, A2, n2, c2, b2, (hb.cell (p := ⟨E, 0, none⟩) hE).trans e0, (hb.cell (p := ⟨E, 1, none⟩) hE).trans e1, (hb.cell (p := ⟨E, 2, none⟩) hE).trans e2, (hb.cell (p := ⟨E, 3, none⟩) hE).trans e3,
    fun hm => ⟨⟨(h5 hm).1.1.below hb, (h5 hm).1.2⟩, ⟨(h5 hm).2.1.below hb, (h5 hm).2.2⟩⟩⟩
theorem TM.back {w w0 wr w5 wv : World} {E m : Nat} {lo hi : Int} (hk : ∀ b o, b ≠ E → b < w0.heap.size → wr.cell? ⟨b, o, none⟩ = w0.cell? ⟨b, o, none⟩) (hf : ∀ b o, b < w0.heap.size → wr.frozen? ⟨b, o, none⟩ = w0.frozen? ⟨b, o, none⟩) (hs : w0.heap.size ≤ wr.heap.size)
    (hb : Below wr.heap.size wr w5) (h : TM w w5 wv E m lo hi) : TM w w0 wv E m lo hi := by
  obtain ⟨h1, h2, h3, h4⟩ := h
  have s5 := hb.size
  exact ⟨fun b o hne hlt => (h1 b o hne (by omega)).trans ((hb.cell (p := ⟨b, o, none⟩) (by exact Nat.lt_of_lt_of_le hlt hs)).trans (hk b o hne hlt)), fun b o hlt => (h2 b o (by omega)).trans ((hb.frozen (p := ⟨b, o, none⟩) (by exact Nat.lt_of_lt_of_le hlt hs)).trans (hf b o hlt)), by omega, h4⟩
/-- the three states of a loop of two rounds -/
def TR (a b c : Prop) (v : Value) : Prop := (v = .int .i64 0 ∧ a) ∨ (v = .int .i64 1 ∧ b) ∨ (v = .int .i64 2 ∧ c)
theorem TR.zero {a b c : Prop} (h : a) : TR a b c (.int .i64 0) := .inl ⟨rfl, h⟩
theorem TR.one {a b c : Prop} (h : b) : TR a b c (.int .i64 1) := .inr (.inl ⟨rfl, h⟩)
theorem TR.two {a b c : Prop} (h : c) : TR a b c (.int .i64 2) := .inr (.inr ⟨rfl, h⟩)
theorem compare02_b (A1 A2 : Option Addr) (n1 n2 c1 c2 : Nat) (x y u : Int) (b1 b2 : Bool) (w : World) (h1 : Dig w A1 n1 c1 x.natAbs) (h2 : Dig w A2 n2 c2 y.natAbs) (hx : x.natAbs < pw 30) (hy : y.natAbs < pw 30) (e1 : b1 = decide (x < 0)) (e2 : b2 = decide (y < 0)) (hu : cmpI x y = u) :
    Calls Try.prog 39 #[.agg #[.slice A1 n1 c1, .bool b1], .agg #[.slice A2 n2 c2, .bool b2]] w fun e w' => e = .returned (.int .i64 u) ∧ Below w.heap.size w w' := by
  rw [e1, e2, ← hu]
  exact compare02_any A1 A2 n1 n2 c1 c2 x y w h1 h2 hx hy
theorem TM.same {w w0 wr v : World} {E m : Nat} {lo hi : Int} (h : TM w w0 wr E m lo hi) (hb : Below wr.heap.size wr v) (hE : E < wr.heap.size) (m' : Nat) (hm : 0 < m) : TM w w0 v E m' lo hi := by
  obtain ⟨h1, h2, h3, h4, A, n, c, b, A2, n2, c2, b2, e0, e1, e2, e3, h5⟩ := h
  exact ⟨fun b o hne hlt => (hb.cell (p := ⟨b, o, none⟩) (by exact Nat.lt_of_lt_of_le hlt h3)).trans (h1 b o hne hlt), fun b o hlt => (hb.frozen (p := ⟨b, o, none⟩) (by exact Nat.lt_of_lt_of_le hlt h3)).trans (h2 b o hlt), Nat.le_trans h3 hb.size, bl_step hb h4, A, n, c, b, A2, n2, c2, b2,
    (hb.cell (p := ⟨E, 0, none⟩) hE).trans e0, (hb.cell (p := ⟨E, 1, none⟩) hE).trans e1, (hb.cell (p := ⟨E, 2, none⟩) hE).trans e2, (hb.cell (p := ⟨E, 3, none⟩) hE).trans e3,
    fun _ => ⟨⟨(h5 hm).1.1.below hb, (h5 hm).1.2⟩, ⟨(h5 hm).2.1.below hb, (h5 hm).2.2⟩⟩⟩
theorem fr_ne {N E : Nat} {A : Option Addr} (h : Fr N A) (hE : E < N) : ∀ a, A = some a → a.block ≠ E := fun a e => by have := h a e; omega
theorem TM.put0 {w w0 v : World} {E m : Nat} {lo hi z : Int} {PA : Option Addr} {Pn Pc : Nat} {Pb : Bool} (h : TM w w0 v E m lo hi) (hE : w.heap.size + 3 = E) (_hEv : E < v.heap.size) (m' : Nat) (hm : 0 < m) (hd : Dig v PA Pn Pc z.natAbs) (hp : Pb = decide (z < 0)) (hf : Fr (w.heap.size + 4) PA) :
    TM w w0 ((v.setCell ⟨E, 0, none⟩ (.slice PA Pn Pc)).setCell ⟨E, 1, none⟩ (.bool Pb)) E m' z hi := by
  obtain ⟨h1, h2, h3, h4, A, n, c, b, A2, n2, c2, b2, e0, e1, e2, e3, h5⟩ := h
  have k5 := h5 hm
  have np := fr_ne hf (by omega : E < w.heap.size + 4)
  have n2' := fr_ne k5.2.2.2 (by omega : E < w.heap.size + 4)
  refine ⟨fun b o hne hlt => ?_, fun b o hlt => by simpa using h2 b o hlt, by simpa using h3, (h4.setCell (show w.heap.size ≤ E by omega) _).setCell (show w.heap.size ≤ E by omega) _, PA, Pn, Pc, Pb, A2, n2, c2, b2, by simp [go_sem, e0], by simp [go_sem, e1], by simp [go_sem, e2], by simp [go_sem, e3], fun _ => ⟨⟨(hd.store ⟨E, 0, none⟩ _ np).store ⟨E, 1, none⟩ _ np, hp, hf⟩, ⟨(k5.2.1.store ⟨E, 0, none⟩ _ n2').store ⟨E, 1, none⟩ _ n2', k5.2.2⟩⟩⟩
  rw [World.cell?_setCell_other _ _ _ _ (by intro e; have := congrArg Addr.block e; simp at this; omega), World.cell?_setCell_other _ _ _ _ (by intro e; have := congrArg Addr.block e; simp at this; omega)]
  exact h1 b o hne hlt
theorem TM.put1 {w w0 v : World} {E m : Nat} {lo hi z : Int} {PA : Option Addr} {Pn Pc : Nat} {Pb : Bool} (h : TM w w0 v E m lo hi) (hE : w.heap.size + 3 = E) (_hEv : E < v.heap.size) (m' : Nat) (hm : 0 < m) (hd : Dig v PA Pn Pc z.natAbs) (hp : Pb = decide (z < 0)) (hf : Fr (w.heap.size + 4) PA) :
    TM w w0 ((v.setCell ⟨E, 2, none⟩ (.slice PA Pn Pc)).setCell ⟨E, 3, none⟩ (.bool Pb)) E m' lo z := by
  obtain ⟨h1, h2, h3, h4, A, n, c, b, A2, n2, c2, b2, e0, e1, e2, e3, h5⟩ := h
  have k5 := h5 hm
  have np := fr_ne hf (by omega : E < w.heap.size + 4)
  have n1' := fr_ne k5.1.2.2 (by omega : E < w.heap.size + 4)
  refine ⟨fun b o hne hlt => ?_, fun b o hlt => by simpa using h2 b o hlt, by simpa using h3, (h4.setCell (show w.heap.size ≤ E by omega) _).setCell (show w.heap.size ≤ E by omega) _, A, n, c, b, PA, Pn, Pc, Pb, by simp [go_sem, e0], by simp [go_sem, e1], by simp [go_sem, e2], by simp [go_sem, e3], fun _ => ⟨⟨(k5.1.1.store ⟨E, 2, none⟩ _ n1').store ⟨E, 3, none⟩ _ n1', k5.1.2⟩, ⟨(hd.store ⟨E, 2, none⟩ _ np).store ⟨E, 3, none⟩ _ np, hp, hf⟩⟩⟩
  rw [World.cell?_setCell_other _ _ _ _ (by intro e; have := congrArg Addr.block e; simp at this; omega), World.cell?_setCell_other _ _ _ _ (by intro e; have := congrArg Addr.block e; simp at this; omega)]
  exact h1 b o hne hlt
/-- the first number is both ends -/
theorem TM.one {w w0 wr v : World} {E m : Nat} {lo hi z : Int} {PA : Option Addr} {Pn Pc : Nat} {Pb : Bool} (h : TM w w0 wr E m lo hi) (hb : Below wr.heap.size wr v) (hE : w.heap.size + 3 = E) (hEv : E < wr.heap.size) (m' : Nat) (hd : Dig v PA Pn Pc z.natAbs) (hp : Pb = decide (z < 0)) (hf : Fr (w.heap.size + 4) PA) :
    TM w w0 ((((v.setCell ⟨E, 0, none⟩ (.slice PA Pn Pc)).setCell ⟨E, 1, none⟩ (.bool Pb)).setCell ⟨E, 2, none⟩ (.slice PA Pn Pc)).setCell ⟨E, 3, none⟩ (.bool Pb)) E m' z z := by
  obtain ⟨h1, h2, h3, h4, A, n, c, b, A2, n2, c2, b2, e0, e1, e2, e3, h5⟩ := h
  have np := fr_ne hf (by omega : E < w.heap.size + 4)
  have f0 := (hb.cell (p := ⟨E, 0, none⟩) hEv).trans e0
  have f1 := (hb.cell (p := ⟨E, 1, none⟩) hEv).trans e1
  have f2 := (hb.cell (p := ⟨E, 2, none⟩) hEv).trans e2
  have f3 := (hb.cell (p := ⟨E, 3, none⟩) hEv).trans e3
  have dd := (((hd.store ⟨E, 0, none⟩ (.slice PA Pn Pc) np).store ⟨E, 1, none⟩ (.bool Pb) np).store ⟨E, 2, none⟩ (.slice PA Pn Pc) np).store ⟨E, 3, none⟩ (.bool Pb) np
  refine ⟨fun b o hne hlt => ?_, fun b o hlt => ?_, by have := hb.size; simp; omega, ((((bl_step hb h4).setCell (show w.heap.size ≤ E by omega) _).setCell (show w.heap.size ≤ E by omega) _).setCell (show w.heap.size ≤ E by omega) _).setCell (show w.heap.size ≤ E by omega) _, PA, Pn, Pc, Pb, PA, Pn, Pc, Pb, by simp [go_sem, f0], by simp [go_sem, f1], by simp [go_sem, f2], by simp [go_sem, f3], fun _ => ⟨⟨dd, hp, hf⟩, ⟨dd, hp, hf⟩⟩⟩
  · repeat rw [World.cell?_setCell_other _ _ _ _ (by intro e; have := congrArg Addr.block e; simp at this; omega)]
    exact (hb.cell (p := ⟨b, o, none⟩) (by exact Nat.lt_of_lt_of_le hlt h3)).trans (h1 b o hne hlt)
  · simpa using (hb.frozen (p := ⟨b, o, none⟩) (by exact Nat.lt_of_lt_of_le hlt h3)).trans (h2 b o hlt)
theorem mul06_num (A1 A2 : Option Addr) (n1 n2 c1 c2 : Nat) (x y : Int) (w : World) (h1 : Dig w A1 n1 c1 x.natAbs) (h2 : Dig w A2 n2 c2 y.natAbs) (hx : x.natAbs < pw 9) (hy : y.natAbs < pw 9) :
    Calls Try.prog 40 #[.agg #[.slice A1 n1 c1, .bool (decide (x < 0))], .agg #[.slice A2 n2 c2, .bool (decide (y < 0))]] w (NumRes w (x * y)) :=
  mul02_num A1 A2 n1 n2 c1 c2 x y w h1 h2 (Nat.lt_of_lt_of_le hx (pw_le (by decide))) (Nat.lt_of_lt_of_le hy (pw_le (by decide)))
theorem prod_pw {x y : Int} (hx : x.natAbs < pw 9) (hy : y.natAbs < pw 9) : (x * y).natAbs < pw 18 := by
  rw [Int.natAbs_mul, show pw 18 = pw 9 * pw 9 from pw_add 9 9]
  have p := pw_pos 9
  exact Nat.lt_of_le_of_lt (Nat.mul_le_mul_right _ (Nat.le_of_lt hx)) (Nat.mul_lt_mul_of_pos_left hy p)

set_option maxRecDepth 100000 in
set_option maxHeartbeats 16000000 in
theorem times06_any (A1 A2 A3 A4 : Option Addr) (n1 n2 n3 n4 c1 c2 c3 c4 : Nat) (x1 x2 y1 y2 : Int) (w : World) (g1 : Dig w A1 n1 c1 x1.natAbs) (g2 : Dig w A2 n2 c2 x2.natAbs) (g3 : Dig w A3 n3 c3 y1.natAbs) (g4 : Dig w A4 n4 c4 y2.natAbs)
    (p1 : x1.natAbs < pw 9) (p2 : x2.natAbs < pw 9) (p3 : y1.natAbs < pw 9) (p4 : y2.natAbs < pw 9) :
    Calls Try.prog 23 #[.agg #[.slice A1 n1 c1, .bool (decide (x1 < 0)), .slice A2 n2 c2, .bool (decide (x2 < 0))], .agg #[.slice A3 n3 c3, .bool (decide (y1 < 0)), .slice A4 n4 c4, .bool (decide (y2 < 0))]] w
      (BoxRes w (mnF (x1 * y1) (x1 * y2) (x2 * y1) (x2 * y2) 4) (mxF (x1 * y1) (x1 * y2) (x2 * y1) (x2 * y2) 4)) := by
  have M13 := fun v (h : Below w.heap.size w v) => mul06_num A1 A3 n1 n3 c1 c3 x1 y1 v (g1.below h) (g3.below h) p1 p3
  have Q13 := hidden (Nat.lt_of_lt_of_le (prod_pw p1 p3) (pw_le (by decide : 18 ≤ 30)))
  have M14 := fun v (h : Below w.heap.size w v) => mul06_num A1 A4 n1 n4 c1 c4 x1 y2 v (g1.below h) (g4.below h) p1 p4
  have Q14 := hidden (Nat.lt_of_lt_of_le (prod_pw p1 p4) (pw_le (by decide : 18 ≤ 30)))
  have M23 := fun v (h : Below w.heap.size w v) => mul06_num A2 A3 n2 n3 c2 c3 x2 y1 v (g2.below h) (g3.below h) p2 p3
  have Q23 := hidden (Nat.lt_of_lt_of_le (prod_pw p2 p3) (pw_le (by decide : 18 ≤ 30)))
  have M24 := fun v (h : Below w.heap.size w v) => mul06_num A2 A4 n2 n4 c2 c4 x2 y2 v (g2.below h) (g4.below h) p2 p4
  have Q24 := hidden (Nat.lt_of_lt_of_le (prod_pw p2 p4) (pw_le (by decide : 18 ≤ 30)))
  unfold NumRes at M13 M14 M23 M24
  obtain ⟨b1, e1⟩ : ∃ b1, decide (x1 < 0) = b1 := ⟨_, rfl⟩
  obtain ⟨b2, e2⟩ : ∃ b2, decide (x2 < 0) = b2 := ⟨_, rfl⟩
  obtain ⟨b3, e3⟩ : ∃ b3, decide (y1 < 0) = b3 := ⟨_, rfl⟩
  obtain ⟨b4, e4⟩ : ∃ b4, decide (y2 < 0) = b4 := ⟨_, rfl⟩
  rw [e1, e3] at M13
  rw [e1, e4] at M14
  rw [e2, e3] at M23
  rw [e2, e4] at M24
  rw [e1, e2, e3, e4]
  obtain ⟨P13, f13⟩ : ∃ P, x1 * y1 = P := ⟨_, rfl⟩
  rw [f13] at M13 Q13
  replace M13 := hidden M13
  obtain ⟨P14, f14⟩ : ∃ P, x1 * y2 = P := ⟨_, rfl⟩
  rw [f14] at M14 Q14
  replace M14 := hidden M14
  obtain ⟨P23, f23⟩ : ∃ P, x2 * y1 = P := ⟨_, rfl⟩
  rw [f23] at M23 Q23
  replace M23 := hidden M23
  obtain ⟨P24, f24⟩ : ∃ P, x2 * y2 = P := ⟨_, rfl⟩
  rw [f24] at M24 Q24
  replace M24 := hidden M24
  rw [f13, f14, f23, f24]
  clear e1 e2 e3 e4 f13 f14 f23 f24 g1 g2 g3 g4 p1 p2 p3 p4
  go_enter Try.func23, Try.ntmps23
  go_wp2
  (refine name_code ?_; intro w' hb; (try replace hb := below_undrew hb); (try replace hb := below_undrewN hb); obtain ⟨hcell, hfroz⟩ := bcell hb; have hz := hb.size; (try simp at hz); (try (have z6 := Nat.lt_of_lt_of_le z7 hz)); (try (have z7 := Nat.lt_of_lt_of_le z8 hz)); (try (have z8 := Nat.lt_of_lt_of_le z9 hz)); (try (have z9 := Nat.lt_of_lt_of_le (Nat.lt_succ_self _) hz)); (try (have z0 : w.heap.size < w'.heap.size := by omega)); (try (have z1 : w.heap.size + 1 < w'.heap.size := by omega)); (try (have z2 : w.heap.size + 1 + 1 < w'.heap.size := by omega)); (try (have z3 : w.heap.size + 1 + 1 + 1 < w'.heap.size := by omega)); (try (have y1 : w1.heap.size < w'.heap.size := by omega)); (try (have y2 : w2.heap.size < w'.heap.size := by omega)); (try (have y3 : w3.heap.size < w'.heap.size := by omega)); (try (have y4 : w4.heap.size < w'.heap.size := by omega)); (try (have y5 : w5.heap.size < w'.heap.size := by omega)); (try (have y6 : w6.heap.size < w'.heap.size := by omega)); (try (have x1 : w1.heap.size + 1 < w'.heap.size := by omega)); (try (have x2 : w2.heap.size + 1 < w'.heap.size := by omega)); (try (have x3 : w3.heap.size + 1 < w'.heap.size := by omega)); (try (have x4 : w4.heap.size + 1 < w'.heap.size := by omega)); (try (have x5 : w5.heap.size + 1 < w'.heap.size := by omega)); (try (have x6 : w6.heap.size + 1 < w'.heap.size := by omega)); (try (have y7 : w7.heap.size < w'.heap.size := by omega)); (try (have y8 : w8.heap.size < w'.heap.size := by omega)); (try (have y9 : w9.heap.size < w'.heap.size := by omega)); (try (have z10 : w1.heap.size < w'.heap.size + 1 := by omega)); (try (have z20 : w2.heap.size < w'.heap.size + 1 := by omega)); (try (have z30 : w3.heap.size < w'.heap.size + 1 := by omega)); (try (have z40 : w4.heap.size < w'.heap.size + 1 := by omega)); (try (have z50 : w5.heap.size < w'.heap.size + 1 := by omega)); (try (have z60 : w6.heap.size < w'.heap.size + 1 := by omega)); (try (have z70 : w7.heap.size < w'.heap.size + 1 := by omega)); (try (have z80 : w8.heap.size < w'.heap.size + 1 := by omega)))
  have y0_ : w'.cell? ⟨w.heap.size + 1, 0, none⟩ = some (.slice A3 n3 c3) := by simp [go_sem, *]
  have y1_ : w'.cell? ⟨w.heap.size + 1, 1, none⟩ = some (.bool b3) := by simp [go_sem, *]
  have y2_ : w'.cell? ⟨w.heap.size + 1, 2, none⟩ = some (.slice A4 n4 c4) := by simp [go_sem, *]
  have y3_ : w'.cell? ⟨w.heap.size + 1, 3, none⟩ = some (.bool b4) := by simp [go_sem, *]
  have xc0 : w'.cell? ⟨w.heap.size + 1 + 1 + 1 + 1, 0, none⟩ = some (.slice A1 n1 c1) := by simp [go_sem, *]
  have xc1 : w'.cell? ⟨w.heap.size + 1 + 1 + 1 + 1, 1, none⟩ = some (.bool b1) := by simp [go_sem, *]
  have xc2 : w'.cell? ⟨w.heap.size + 1 + 1 + 1 + 1, 2, none⟩ = some (.slice A2 n2 c2) := by simp [go_sem, *]
  have xc3 : w'.cell? ⟨w.heap.size + 1 + 1 + 1 + 1, 3, none⟩ = some (.bool b2) := by simp [go_sem, *]
  have oc0 : w'.cell? ⟨w.heap.size + 1 + 1 + 1, 0, none⟩ = some (.slice none 0 0) := by simp [go_sem, *]
  have oc1 : w'.cell? ⟨w.heap.size + 1 + 1 + 1, 1, none⟩ = some (.bool false) := by simp [go_sem, *]
  have oc2 : w'.cell? ⟨w.heap.size + 1 + 1 + 1, 2, none⟩ = some (.slice none 0 0) := by simp [go_sem, *]
  have oc3 : w'.cell? ⟨w.heap.size + 1 + 1 + 1, 3, none⟩ = some (.bool false) := by simp [go_sem, *]
  have rc0 : w'.cell? ⟨w.heap.size + 1 + 1, 0, none⟩ = some (.slice none 0 0) := by simp [go_sem, *]
  have rc1 : w'.cell? ⟨w.heap.size + 1 + 1, 1, none⟩ = some (.bool false) := by simp [go_sem, *]
  have rc2 : w'.cell? ⟨w.heap.size + 1 + 1, 2, none⟩ = some (.slice none 0 0) := by simp [go_sem, *]
  have rc3 : w'.cell? ⟨w.heap.size + 1 + 1, 3, none⟩ = some (.bool false) := by simp [go_sem, *]
  have cf : ∀ o, w'.frozen? ⟨w.heap.size + 1 + 1 + 1, o, none⟩ = false := by intro o; simp [go_sem, *]
  have cg : ∀ o, w'.frozen? ⟨w.heap.size + 1 + 1, o, none⟩ = false := by intro o; simp [go_sem, *]
  have hw6 : Below w.heap.size w w' := by (repeat (first | (with_reducible exact Below.refl _ _) | (with_reducible refine Below.setCell ?_ (by (first | (simp; done) | (simp; omega) | omega)) _) | (with_reducible refine bl_alloc ?_ _) | (with_reducible refine bl_drewN ?_) | (with_reducible refine bl_drew ?_) | (with_reducible refine bl_step (by assumption) ?_)))
  have sz0 : w.heap.size + 5 ≤ w'.heap.size := by first | omega | (simp at hz; omega)
  clear hcell hfroz hz hb
  obtain ⟨w0, rfl⟩ : ∃ v, v = w' := ⟨_, rfl⟩
  go_loopw [18] (fun iv wr => TR (TM w w0 wr (w.heap.size + 1 + 1 + 1) (0) (mnF P13 P14 P23 P24 (0)) (mxF P13 P14 P23 P24 (0))) (TM w w0 wr (w.heap.size + 1 + 1 + 1) (2) (mnF P13 P14 P23 P24 (2)) (mxF P13 P14 P23 P24 (2))) (TM w w0 wr (w.heap.size + 1 + 1 + 1) (4) (mnF P13 P14 P23 P24 (4)) (mxF P13 P14 P23 P24 (4))) iv) (fun iv _ => 2 - (intOf iv).toNat)
  case atStart => exact TR.zero ⟨fun _ _ _ _ => rfl, fun _ _ _ => rfl, Nat.le_refl _, hw6, none, 0, 0, false, none, 0, 0, false, oc0, oc1, oc2, oc3, fun h => absurd h (by omega)⟩
  case round =>
    rcases hrel with ⟨rfl, htm⟩ | ⟨rfl, htm⟩ | ⟨rfl, htm⟩
    · obtain ⟨wo, rfl⟩ : ∃ v, v = wr := ⟨_, rfl⟩
      have HT := hidden htm
      obtain ⟨hk, hf, hs, hbw, htm2⟩ := htm
      clear htm2
      have HK := hidden hk
      have HF := hidden hf
      have hB3 : w.heap.size + 1 + 1 + 1 < wo.heap.size := by omega
      have wy0_ := (hk _ _ (by omega) (by omega)).trans y0_
      have wy1_ := (hk _ _ (by omega) (by omega)).trans y1_
      have wy2_ := (hk _ _ (by omega) (by omega)).trans y2_
      have wy3_ := (hk _ _ (by omega) (by omega)).trans y3_
      have wxc0 := (hk _ _ (by omega) (by omega)).trans xc0
      have wxc1 := (hk _ _ (by omega) (by omega)).trans xc1
      have wxc2 := (hk _ _ (by omega) (by omega)).trans xc2
      have wxc3 := (hk _ _ (by omega) (by omega)).trans xc3
      have wrc0 := (hk _ _ (by omega) (by omega)).trans rc0
      have wrc1 := (hk _ _ (by omega) (by omega)).trans rc1
      have wrc2 := (hk _ _ (by omega) (by omega)).trans rc2
      have wrc3 := (hk _ _ (by omega) (by omega)).trans rc3
      have cfr : ∀ o, wo.frozen? ⟨w.heap.size + 1 + 1 + 1, o, none⟩ = false := fun o => (hf _ o (by omega)).trans (cf o)
      have cgr : ∀ o, wo.frozen? ⟨w.heap.size + 1 + 1, o, none⟩ = false := fun o => (hf _ o (by omega)).trans (cg o)
      clear hk hf
      have t0 : w.heap.size < wo.heap.size := by omega
      have t0_ : w.heap.size < wo.heap.size + 1 := by omega
      have t1 : w.heap.size + 1 < wo.heap.size := by omega
      have t1_ : w.heap.size + 1 < wo.heap.size + 1 := by omega
      have t2 : w.heap.size + 1 + 1 < wo.heap.size := by omega
      have t2_ : w.heap.size + 1 + 1 < wo.heap.size + 1 := by omega
      have t3 : w.heap.size + 1 + 1 + 1 < wo.heap.size := by omega
      have t3_ : w.heap.size + 1 + 1 + 1 < wo.heap.size + 1 := by omega
      have t4 : w.heap.size + 1 + 1 + 1 + 1 < wo.heap.size := by omega
      have t4_ : w.heap.size + 1 + 1 + 1 + 1 < wo.heap.size + 1 := by omega
      go_wp2
      (refine name_code ?_; intro w' hb; (try replace hb := below_undrew hb); (try replace hb := below_undrewN hb); obtain ⟨hcell, hfroz⟩ := bcell hb; have hz := hb.size; (try simp at hz); (try (have z6 := Nat.lt_of_lt_of_le z7 hz)); (try (have z7 := Nat.lt_of_lt_of_le z8 hz)); (try (have z8 := Nat.lt_of_lt_of_le z9 hz)); (try (have z9 := Nat.lt_of_lt_of_le (Nat.lt_succ_self _) hz)); (try (have z0 : w.heap.size < w'.heap.size := by omega)); (try (have z1 : w.heap.size + 1 < w'.heap.size := by omega)); (try (have z2 : w.heap.size + 1 + 1 < w'.heap.size := by omega)); (try (have z3 : w.heap.size + 1 + 1 + 1 < w'.heap.size := by omega)); (try (have y1 : w1.heap.size < w'.heap.size := by omega)); (try (have y2 : w2.heap.size < w'.heap.size := by omega)); (try (have y3 : w3.heap.size < w'.heap.size := by omega)); (try (have y4 : w4.heap.size < w'.heap.size := by omega)); (try (have y5 : w5.heap.size < w'.heap.size := by omega)); (try (have y6 : w6.heap.size < w'.heap.size := by omega)); (try (have x1 : w1.heap.size + 1 < w'.heap.size := by omega)); (try (have x2 : w2.heap.size + 1 < w'.heap.size := by omega)); (try (have x3 : w3.heap.size + 1 < w'.heap.size := by omega)); (try (have x4 : w4.heap.size + 1 < w'.heap.size := by omega)); (try (have x5 : w5.heap.size + 1 < w'.heap.size := by omega)); (try (have x6 : w6.heap.size + 1 < w'.heap.size := by omega)); (try (have y7 : w7.heap.size < w'.heap.size := by omega)); (try (have y8 : w8.heap.size < w'.heap.size := by omega)); (try (have y9 : w9.heap.size < w'.heap.size := by omega)); (try (have z10 : w1.heap.size < w'.heap.size + 1 := by omega)); (try (have z20 : w2.heap.size < w'.heap.size + 1 := by omega)); (try (have z30 : w3.heap.size < w'.heap.size + 1 := by omega)); (try (have z40 : w4.heap.size < w'.heap.size + 1 := by omega)); (try (have z50 : w5.heap.size < w'.heap.size + 1 := by omega)); (try (have z60 : w6.heap.size < w'.heap.size + 1 := by omega)); (try (have z70 : w7.heap.size < w'.heap.size + 1 := by omega)); (try (have z80 : w8.heap.size < w'.heap.size + 1 := by omega)))
      have ux0 : w'.cell? ⟨wo.heap.size, 0, none⟩ = some (.slice A1 n1 c1) := by simp [go_sem, *]
      have ux1 : w'.cell? ⟨wo.heap.size, 1, none⟩ = some (.bool b1) := by simp [go_sem, *]
      have vx0 : w'.cell? ⟨wo.heap.size + 1, 0, none⟩ = some (.slice A3 n3 c3) := by simp [go_sem, *]
      have vx1 : w'.cell? ⟨wo.heap.size + 1, 1, none⟩ = some (.bool b3) := by simp [go_sem, *]
      have vx2 : w'.cell? ⟨wo.heap.size + 1, 2, none⟩ = some (.slice A4 n4 c4) := by simp [go_sem, *]
      have vx3 : w'.cell? ⟨wo.heap.size + 1, 3, none⟩ = some (.bool b4) := by simp [go_sem, *]
      have cf5 : ∀ o, w'.frozen? ⟨w.heap.size + 1 + 1 + 1, o, none⟩ = false := by intro o; simp [go_sem, *]
      have hb5 : Below wo.heap.size wo w' := by (repeat (first | (with_reducible exact Below.refl _ _) | (with_reducible refine Below.setCell ?_ (by (first | (simp; done) | (simp; omega) | omega)) _) | (with_reducible refine bl_alloc ?_ _) | (with_reducible refine bl_drewN ?_) | (with_reducible refine bl_drew ?_) | (with_reducible refine bl_step (by assumption) ?_)))
      have sz5 : wo.heap.size + 2 ≤ w'.heap.size := by first | omega | (simp at hz; omega)
      have h5 := hidden (HT.out.step hb5 hB3)
      clear hcell hfroz hz hb wy0_ wy1_ wy2_ wy3_ wxc0 wxc1 wxc2 wxc3 wrc0 wrc1 wrc2 wrc3 cfr cgr
      obtain ⟨w5, rfl⟩ : ∃ v, v = w' := ⟨_, rfl⟩
      go_loopw [29] (fun kv wv => TR (TM w w5 wv (w.heap.size + 1 + 1 + 1) (0) (mnF P13 P14 P23 P24 (0)) (mxF P13 P14 P23 P24 (0))) (TM w w5 wv (w.heap.size + 1 + 1 + 1) (1) (mnF P13 P14 P23 P24 (1)) (mxF P13 P14 P23 P24 (1))) (TM w w5 wv (w.heap.size + 1 + 1 + 1) (2) (mnF P13 P14 P23 P24 (2)) (mxF P13 P14 P23 P24 (2))) kv) (fun kv _ => 2 - (intOf kv).toNat)
      case atStart => exact TR.zero h5.out
      case round =>
        rcases hrel with ⟨rfl, htm⟩ | ⟨rfl, htm⟩ | ⟨rfl, htm⟩
        · have HV := hidden htm
          obtain ⟨vk, vf, vs, vb, LA, Ln, Lc, Lb, RA, Rn, Rc, Rb, l0, l1, l2, l3, lm⟩ := htm
          have VK := hidden vk
          have VF := hidden vf
          have LM := hidden lm
          clear lm
          have ux0_ := (vk _ _ (by omega) (by omega)).trans ux0
          have ux1_ := (vk _ _ (by omega) (by omega)).trans ux1
          have vx0_ := (vk _ _ (by omega) (by omega)).trans vx0
          have vx1_ := (vk _ _ (by omega) (by omega)).trans vx1
          have vx2_ := (vk _ _ (by omega) (by omega)).trans vx2
          have vx3_ := (vk _ _ (by omega) (by omega)).trans vx3
          have cfv : ∀ o, wr.frozen? ⟨w.heap.size + 1 + 1 + 1, o, none⟩ = false := fun o => (vf _ o (by omega)).trans (cf5 o)
          clear vk vf
          have r0 : wo.heap.size < wr.heap.size := by omega
          have r0_ : wo.heap.size < wr.heap.size + 1 := by omega
          have r1 : wo.heap.size + 1 < wr.heap.size := by omega
          have r1_ : wo.heap.size + 1 < wr.heap.size + 1 := by omega
          have r3 : w.heap.size + 1 + 1 + 1 < wr.heap.size := by omega
          go_wp2_with fail
          go_at_call 40
          refine (M13.out _ (by (repeat (first | (with_reducible exact Below.refl _ _) | (with_reducible refine Below.setCell ?_ (by (first | (simp; done) | (simp; omega) | omega)) _) | (with_reducible refine bl_alloc ?_ _) | (with_reducible refine bl_drewN ?_) | (with_reducible refine bl_drew ?_) | (with_reducible refine bl_step (by assumption) ?_))))).mono ?_
          rintro e w' ⟨PA, Pn, Pc, Pb, rfl, hd, hpb, hfr, hb⟩
          have HD := hidden hd
          have HF := hidden (hfr.le (M := wr.heap.size) (by simp))
          have HP := hidden hpb
          clear hd hpb hfr
          have hb6 : Below wr.heap.size wr w' := bl_step hb (by (repeat (first | (with_reducible exact Below.refl _ _) | (with_reducible refine Below.setCell ?_ (by (first | (simp; done) | (simp; omega) | omega)) _) | (with_reducible refine bl_alloc ?_ _) | (with_reducible refine bl_drewN ?_) | (with_reducible refine bl_drew ?_) | (with_reducible refine bl_step (by assumption) ?_))))
          have s6 := hb6.size
          have sx : wr.heap.size < w'.heap.size := by have := hb.size; simp at this; omega
          have m0 := cell_later hb6 l0
          have m1 := cell_later hb6 l1
          have m2 := cell_later hb6 l2
          have m3 := cell_later hb6 l3
          have cfw : ∀ o, w'.frozen? ⟨w.heap.size + 1 + 1 + 1, o, none⟩ = false := fun o => (hb6.frozen (p := ⟨w.heap.size + 1 + 1 + 1, o, none⟩) r3).trans (cfv o)
          clear l0 l1 l2 l3 cfv hb
          obtain ⟨w6, rfl⟩ : ∃ v, v = w' := ⟨_, rfl⟩
          have r6 : w.heap.size + 1 + 1 + 1 < w6.heap.size := by omega
          have r6_ : w.heap.size + 1 + 1 + 1 < w6.heap.size + 1 := by omega
          go_wp2
          go_roundw
          case rel => exact TR.one (TM.same (lo := P13) (hi := P13) (m := 1) (TM.one (z := P13) HV.out hb6 rfl r3 1 HD.out HP.out (HF.out.le (by omega))) ((Below.refl _ _).alloc (Nat.le_refl _) _) (by simpa using r6) 1 (by omega))
          case measure => first | (simp [intOf]; done) | (simp [intOf]; omega)
        · have HV := hidden htm
          obtain ⟨vk, vf, vs, vb, LA, Ln, Lc, Lb, RA, Rn, Rc, Rb, l0, l1, l2, l3, lm⟩ := htm
          have VK := hidden vk
          have VF := hidden vf
          have LM := hidden lm
          clear lm
          have ux0_ := (vk _ _ (by omega) (by omega)).trans ux0
          have ux1_ := (vk _ _ (by omega) (by omega)).trans ux1
          have vx0_ := (vk _ _ (by omega) (by omega)).trans vx0
          have vx1_ := (vk _ _ (by omega) (by omega)).trans vx1
          have vx2_ := (vk _ _ (by omega) (by omega)).trans vx2
          have vx3_ := (vk _ _ (by omega) (by omega)).trans vx3
          have cfv : ∀ o, wr.frozen? ⟨w.heap.size + 1 + 1 + 1, o, none⟩ = false := fun o => (vf _ o (by omega)).trans (cf5 o)
          clear vk vf
          have r0 : wo.heap.size < wr.heap.size := by omega
          have r0_ : wo.heap.size < wr.heap.size + 1 := by omega
          have r1 : wo.heap.size + 1 < wr.heap.size := by omega
          have r1_ : wo.heap.size + 1 < wr.heap.size + 1 := by omega
          have r3 : w.heap.size + 1 + 1 + 1 < wr.heap.size := by omega
          go_wp2_with fail
          go_at_call 40
          refine (M14.out _ (by (repeat (first | (with_reducible exact Below.refl _ _) | (with_reducible refine Below.setCell ?_ (by (first | (simp; done) | (simp; omega) | omega)) _) | (with_reducible refine bl_alloc ?_ _) | (with_reducible refine bl_drewN ?_) | (with_reducible refine bl_drew ?_) | (with_reducible refine bl_step (by assumption) ?_))))).mono ?_
          rintro e w' ⟨PA, Pn, Pc, Pb, rfl, hd, hpb, hfr, hb⟩
          have HD := hidden hd
          have HF := hidden (hfr.le (M := wr.heap.size) (by simp))
          have HP := hidden hpb
          clear hd hpb hfr
          have hb6 : Below wr.heap.size wr w' := bl_step hb (by (repeat (first | (with_reducible exact Below.refl _ _) | (with_reducible refine Below.setCell ?_ (by (first | (simp; done) | (simp; omega) | omega)) _) | (with_reducible refine bl_alloc ?_ _) | (with_reducible refine bl_drewN ?_) | (with_reducible refine bl_drew ?_) | (with_reducible refine bl_step (by assumption) ?_))))
          have s6 := hb6.size
          have sx : wr.heap.size < w'.heap.size := by have := hb.size; simp at this; omega
          have m0 := cell_later hb6 l0
          have m1 := cell_later hb6 l1
          have m2 := cell_later hb6 l2
          have m3 := cell_later hb6 l3
          have cfw : ∀ o, w'.frozen? ⟨w.heap.size + 1 + 1 + 1, o, none⟩ = false := fun o => (hb6.frozen (p := ⟨w.heap.size + 1 + 1 + 1, o, none⟩) r3).trans (cfv o)
          clear l0 l1 l2 l3 cfv hb
          obtain ⟨w6, rfl⟩ : ∃ v, v = w' := ⟨_, rfl⟩
          have r6 : w.heap.size + 1 + 1 + 1 < w6.heap.size := by omega
          have r6_ : w.heap.size + 1 + 1 + 1 < w6.heap.size + 1 := by omega
          obtain ⟨⟨ld, lb, lf⟩, ⟨rd, rb, rf⟩⟩ := LM.out (by omega)
          have LD := hidden ld
          have LB := hidden lb
          have LF := hidden lf
          have RD := hidden rd
          have RB := hidden rb
          have RF := hidden rf
          clear ld lb lf rd rb rf
          have lh : (mnF P13 P14 P23 P24 1) ≤ (mxF P13 P14 P23 P24 1) := by simp only [mnF, mxF]; omega
          have ml : (mnF P13 P14 P23 P24 2) = min (mnF P13 P14 P23 P24 1) P14 := rfl
          have mh : (mxF P13 P14 P23 P24 2) = max (mxF P13 P14 P23 P24 1) P14 := rfl
          have bl : ((mnF P13 P14 P23 P24 1)).natAbs < pw 30 := by have := Q13.out; have := Q14.out; have := Q23.out; have := Q24.out; simp only [mnF]; omega
          have bh : ((mxF P13 P14 P23 P24 1)).natAbs < pw 30 := by have := Q13.out; have := Q14.out; have := Q23.out; have := Q24.out; simp only [mxF]; omega
          obtain ⟨lo, elo⟩ : ∃ z, (mnF P13 P14 P23 P24 1) = z := ⟨_, rfl⟩
          obtain ⟨hi, ehi⟩ : ∃ z, (mxF P13 P14 P23 P24 1) = z := ⟨_, rfl⟩
          rw [elo] at lh ml bl
          rw [ehi] at lh mh bh
          have HV2 := HV.out
          rw [elo, ehi] at HV2
          rw [elo] at LD LB
          rw [ehi] at RD RB
          have HV3 := hidden HV2
          have ML := hidden ml
          have MH := hidden mh
          have BL := hidden bl
          have BH := hidden bh
          clear elo ehi HV2 ml mh bl bh
          obtain ⟨u1, eu1⟩ : ∃ u, cmpI P14 lo = u := ⟨_, rfl⟩
          obtain ⟨u2, eu2⟩ : ∃ u, cmpI P14 hi = u := ⟨_, rfl⟩
          have U1 := hidden eu1
          have U2 := hidden eu2
          unfold cmpI at eu1 eu2
          by_cases lt : P14 < lo
          · have v1 : u1 < 0 := by rw [if_pos lt] at eu1; omega
            have v2 : ¬ 0 < u2 := by rw [if_pos (by omega)] at eu2; omega
            clear eu1 eu2
            go_wp2_with fail
            go_at_call 39
            refine (compare02_b PA LA Pn Ln Pc Lc P14 lo u1 Pb Lb _ (HD.out.below (by (repeat (first | (with_reducible exact Below.refl _ _) | (with_reducible refine Below.setCell ?_ (by (first | (simp; done) | (simp; omega) | omega)) _) | (with_reducible refine bl_alloc ?_ _) | (with_reducible refine bl_drewN ?_) | (with_reducible refine bl_drew ?_) | (with_reducible refine bl_step (by assumption) ?_))))) (LD.out.below (by (repeat (first | (with_reducible exact Below.refl _ _) | (with_reducible refine Below.setCell ?_ (by (first | (simp; done) | (simp; omega) | omega)) _) | (with_reducible refine bl_alloc ?_ _) | (with_reducible refine bl_drewN ?_) | (with_reducible refine bl_drew ?_) | (with_reducible refine bl_step (by assumption) ?_))))) Q14.out BL.out HP.out LB.out U1.out).mono ?_
            rintro e w' ⟨rfl, hb⟩
            have hb7 : Below w6.heap.size w6 w' := bl_step hb (by (repeat (first | (with_reducible exact Below.refl _ _) | (with_reducible refine Below.setCell ?_ (by (first | (simp; done) | (simp; omega) | omega)) _) | (with_reducible refine bl_alloc ?_ _) | (with_reducible refine bl_drewN ?_) | (with_reducible refine bl_drew ?_) | (with_reducible refine bl_step (by assumption) ?_))))
            have k0 := cell_later hb7 m0
            have k1 := cell_later hb7 m1
            have k2 := cell_later hb7 m2
            have k3 := cell_later hb7 m3
            have cfz : ∀ o, w'.frozen? ⟨w.heap.size + 1 + 1 + 1, o, none⟩ = false := fun o => (hb7.frozen (p := ⟨w.heap.size + 1 + 1 + 1, o, none⟩) r6).trans (cfw o)
            have t10 : w'.cell? ⟨w6.heap.size, 0, none⟩ = some (.slice PA Pn Pc) := cell_later hb (by simp [go_sem])
            have t10b : w'.cell? ⟨w6.heap.size, 1, none⟩ = some (.bool Pb) := cell_later hb (by simp [go_sem])
            clear m0 m1 m2 m3 cfw hb
            obtain ⟨w7, rfl⟩ : ∃ v, v = w' := ⟨_, rfl⟩
            have s7 := hb7.size
            have r7 : w.heap.size + 1 + 1 + 1 < w7.heap.size := by omega
            have ne7 : w6.heap.size ≠ w.heap.size + 1 + 1 + 1 := by omega
            have ne8 : w.heap.size + 1 + 1 + 1 ≠ w6.heap.size := by omega
            have np := fr_ne HF.out r3
            have nr := fr_ne RF.out (by omega : w.heap.size + 1 + 1 + 1 < w.heap.size + 4)
            have NP := hidden np
            have NR := hidden nr
            clear np nr
            go_wp2_with fail
            go_at_call 39
            refine (compare02_b PA RA Pn Rn Pc Rc P14 hi u2 Pb Rb _ (((HD.out.below hb7).store ⟨w.heap.size + 1 + 1 + 1, 0, none⟩ _ NP.out).store ⟨w.heap.size + 1 + 1 + 1, 1, none⟩ _ NP.out) (((RD.out.below (bl_step hb7 hb6)).store ⟨w.heap.size + 1 + 1 + 1, 0, none⟩ _ NR.out).store ⟨w.heap.size + 1 + 1 + 1, 1, none⟩ _ NR.out) Q14.out BH.out HP.out RB.out U2.out).mono ?_
            rintro e w' ⟨rfl, hb⟩
            have hv := hidden (((HV3.out.same (bl_step hb7 hb6) r3 1 (by omega)).put0 rfl r7 1 (by omega) (HD.out.below hb7) HP.out (HF.out.le (by omega))).same hb (by simpa using r7) 2 (by omega))
            go_wp2
            go_roundw
            case rel => exact TR.two (by rw [show mnF P13 P14 P23 P24 2 = P14 by rw [ML.out]; omega, show mxF P13 P14 P23 P24 2 = hi by rw [MH.out]; omega]; exact hv.out)
            case measure => first | (simp [intOf]; done) | (simp [intOf]; omega)
          · have v1 : ¬ u1 < 0 := by rw [if_neg lt] at eu1; split at eu1 <;> omega
            go_wp2_with fail
            go_at_call 39
            refine (compare02_b PA LA Pn Ln Pc Lc P14 lo u1 Pb Lb _ (HD.out.below (by (repeat (first | (with_reducible exact Below.refl _ _) | (with_reducible refine Below.setCell ?_ (by (first | (simp; done) | (simp; omega) | omega)) _) | (with_reducible refine bl_alloc ?_ _) | (with_reducible refine bl_drewN ?_) | (with_reducible refine bl_drew ?_) | (with_reducible refine bl_step (by assumption) ?_))))) (LD.out.below (by (repeat (first | (with_reducible exact Below.refl _ _) | (with_reducible refine Below.setCell ?_ (by (first | (simp; done) | (simp; omega) | omega)) _) | (with_reducible refine bl_alloc ?_ _) | (with_reducible refine bl_drewN ?_) | (with_reducible refine bl_drew ?_) | (with_reducible refine bl_step (by assumption) ?_))))) Q14.out BL.out HP.out LB.out U1.out).mono ?_
            rintro e w' ⟨rfl, hb⟩
            have hb7 : Below w6.heap.size w6 w' := bl_step hb (by (repeat (first | (with_reducible exact Below.refl _ _) | (with_reducible refine Below.setCell ?_ (by (first | (simp; done) | (simp; omega) | omega)) _) | (with_reducible refine bl_alloc ?_ _) | (with_reducible refine bl_drewN ?_) | (with_reducible refine bl_drew ?_) | (with_reducible refine bl_step (by assumption) ?_))))
            have k0 := cell_later hb7 m0
            have k1 := cell_later hb7 m1
            have k2 := cell_later hb7 m2
            have k3 := cell_later hb7 m3
            have cfz : ∀ o, w'.frozen? ⟨w.heap.size + 1 + 1 + 1, o, none⟩ = false := fun o => (hb7.frozen (p := ⟨w.heap.size + 1 + 1 + 1, o, none⟩) r6).trans (cfw o)
            have t10 : w'.cell? ⟨w6.heap.size, 0, none⟩ = some (.slice PA Pn Pc) := cell_later hb (by simp [go_sem])
            have t10b : w'.cell? ⟨w6.heap.size, 1, none⟩ = some (.bool Pb) := cell_later hb (by simp [go_sem])
            clear m0 m1 m2 m3 cfw hb
            obtain ⟨w7, rfl⟩ : ∃ v, v = w' := ⟨_, rfl⟩
            have s7 := hb7.size
            have r7 : w.heap.size + 1 + 1 + 1 < w7.heap.size := by omega
            have ne7 : w6.heap.size ≠ w.heap.size + 1 + 1 + 1 := by omega
            have ne8 : w.heap.size + 1 + 1 + 1 ≠ w6.heap.size := by omega
            have dp := hidden (HD.out.below hb7)
            by_cases gt : hi < P14
            · have v2 : 0 < u2 := by rw [if_neg (by omega), if_neg (by omega)] at eu2; omega
              clear eu1 eu2
              go_wp2_with fail
              go_at_call 39
              refine (compare02_b PA RA Pn Rn Pc Rc P14 hi u2 Pb Rb _ ((HD.out.below hb7)) (RD.out.below (bl_step hb7 hb6)) Q14.out BH.out HP.out RB.out U2.out).mono ?_
              rintro e w' ⟨rfl, hb⟩
              have hb8 := hb
              have z0 := cell_later hb k0
              have z1 := cell_later hb k1
              have z2 := cell_later hb k2
              have z3 := cell_later hb k3
              have z4 := cell_later hb t10
              have z5 := cell_later hb t10b
              have z6 : ∀ o, w'.frozen? ⟨w.heap.size + 1 + 1 + 1, o, none⟩ = false := fun o => (hb.frozen (p := ⟨w.heap.size + 1 + 1 + 1, o, none⟩) r7).trans (cfz o)
              clear hb k0 k1 k2 k3 t10 t10b cfz
              have hv := hidden ((HV3.out.same (bl_step hb8 (bl_step hb7 hb6)) r3 1 (by omega)).put1 rfl (by have := hb8.size; omega) 2 (by omega) ((HD.out.below hb7).below hb8) HP.out (HF.out.le (by omega)))
              go_wp2
              go_roundw
              case rel => exact TR.two (by rw [show mnF P13 P14 P23 P24 2 = lo by rw [ML.out]; omega, show mxF P13 P14 P23 P24 2 = P14 by rw [MH.out]; omega]; exact hv.out)
              case measure => first | (simp [intOf]; done) | (simp [intOf]; omega)
            · have v2 : ¬ 0 < u2 := by split at eu2; omega; split at eu2 <;> omega
              clear eu1 eu2
              go_wp2_with fail
              go_at_call 39
              refine (compare02_b PA RA Pn Rn Pc Rc P14 hi u2 Pb Rb _ ((HD.out.below hb7)) (RD.out.below (bl_step hb7 hb6)) Q14.out BH.out HP.out RB.out U2.out).mono ?_
              rintro e w' ⟨rfl, hb⟩
              have hv := hidden (HV3.out.same (bl_step hb (bl_step hb7 hb6)) r3 2 (by omega))
              go_wp2
              go_roundw
              case rel => exact TR.two (by rw [show mnF P13 P14 P23 P24 2 = lo by rw [ML.out]; omega, show mxF P13 P14 P23 P24 2 = hi by rw [MH.out]; omega]; exact hv.out)
              case measure => first | (simp [intOf]; done) | (simp [intOf]; omega)
        · have HV := hidden htm
          obtain ⟨vk, vf, vs, vb, LA, Ln, Lc, Lb, RA, Rn, Rc, Rb, l0, l1, l2, l3, lm⟩ := htm
          have VK := hidden vk
          have VF := hidden vf
          have LM := hidden lm
          clear lm
          have ux0_ := (vk _ _ (by omega) (by omega)).trans ux0
          have ux1_ := (vk _ _ (by omega) (by omega)).trans ux1
          have vx0_ := (vk _ _ (by omega) (by omega)).trans vx0
          have vx1_ := (vk _ _ (by omega) (by omega)).trans vx1
          have vx2_ := (vk _ _ (by omega) (by omega)).trans vx2
          have vx3_ := (vk _ _ (by omega) (by omega)).trans vx3
          have cfv : ∀ o, wr.frozen? ⟨w.heap.size + 1 + 1 + 1, o, none⟩ = false := fun o => (vf _ o (by omega)).trans (cf5 o)
          clear vk vf
          have bk := hidden (TM.back HK.out HF.out hs hb5 HV.out)
          go_wp2
          go_roundw
          case rel => exact TR.one bk.out
          case measure => first | (simp [intOf]; done) | (simp [intOf]; omega)
    · obtain ⟨wo, rfl⟩ : ∃ v, v = wr := ⟨_, rfl⟩
      have HT := hidden htm
      obtain ⟨hk, hf, hs, hbw, htm2⟩ := htm
      clear htm2
      have HK := hidden hk
      have HF := hidden hf
      have hB3 : w.heap.size + 1 + 1 + 1 < wo.heap.size := by omega
      have wy0_ := (hk _ _ (by omega) (by omega)).trans y0_
      have wy1_ := (hk _ _ (by omega) (by omega)).trans y1_
      have wy2_ := (hk _ _ (by omega) (by omega)).trans y2_
      have wy3_ := (hk _ _ (by omega) (by omega)).trans y3_
      have wxc0 := (hk _ _ (by omega) (by omega)).trans xc0
      have wxc1 := (hk _ _ (by omega) (by omega)).trans xc1
      have wxc2 := (hk _ _ (by omega) (by omega)).trans xc2
      have wxc3 := (hk _ _ (by omega) (by omega)).trans xc3
      have wrc0 := (hk _ _ (by omega) (by omega)).trans rc0
      have wrc1 := (hk _ _ (by omega) (by omega)).trans rc1
      have wrc2 := (hk _ _ (by omega) (by omega)).trans rc2
      have wrc3 := (hk _ _ (by omega) (by omega)).trans rc3
      have cfr : ∀ o, wo.frozen? ⟨w.heap.size + 1 + 1 + 1, o, none⟩ = false := fun o => (hf _ o (by omega)).trans (cf o)
      have cgr : ∀ o, wo.frozen? ⟨w.heap.size + 1 + 1, o, none⟩ = false := fun o => (hf _ o (by omega)).trans (cg o)
      clear hk hf
      have t0 : w.heap.size < wo.heap.size := by omega
      have t0_ : w.heap.size < wo.heap.size + 1 := by omega
      have t1 : w.heap.size + 1 < wo.heap.size := by omega
      have t1_ : w.heap.size + 1 < wo.heap.size + 1 := by omega
      have t2 : w.heap.size + 1 + 1 < wo.heap.size := by omega
      have t2_ : w.heap.size + 1 + 1 < wo.heap.size + 1 := by omega
      have t3 : w.heap.size + 1 + 1 + 1 < wo.heap.size := by omega
      have t3_ : w.heap.size + 1 + 1 + 1 < wo.heap.size + 1 := by omega
      have t4 : w.heap.size + 1 + 1 + 1 + 1 < wo.heap.size := by omega
      have t4_ : w.heap.size + 1 + 1 + 1 + 1 < wo.heap.size + 1 := by omega
      go_wp2
      (refine name_code ?_; intro w' hb; (try replace hb := below_undrew hb); (try replace hb := below_undrewN hb); obtain ⟨hcell, hfroz⟩ := bcell hb; have hz := hb.size; (try simp at hz); (try (have z6 := Nat.lt_of_lt_of_le z7 hz)); (try (have z7 := Nat.lt_of_lt_of_le z8 hz)); (try (have z8 := Nat.lt_of_lt_of_le z9 hz)); (try (have z9 := Nat.lt_of_lt_of_le (Nat.lt_succ_self _) hz)); (try (have z0 : w.heap.size < w'.heap.size := by omega)); (try (have z1 : w.heap.size + 1 < w'.heap.size := by omega)); (try (have z2 : w.heap.size + 1 + 1 < w'.heap.size := by omega)); (try (have z3 : w.heap.size + 1 + 1 + 1 < w'.heap.size := by omega)); (try (have y1 : w1.heap.size < w'.heap.size := by omega)); (try (have y2 : w2.heap.size < w'.heap.size := by omega)); (try (have y3 : w3.heap.size < w'.heap.size := by omega)); (try (have y4 : w4.heap.size < w'.heap.size := by omega)); (try (have y5 : w5.heap.size < w'.heap.size := by omega)); (try (have y6 : w6.heap.size < w'.heap.size := by omega)); (try (have x1 : w1.heap.size + 1 < w'.heap.size := by omega)); (try (have x2 : w2.heap.size + 1 < w'.heap.size := by omega)); (try (have x3 : w3.heap.size + 1 < w'.heap.size := by omega)); (try (have x4 : w4.heap.size + 1 < w'.heap.size := by omega)); (try (have x5 : w5.heap.size + 1 < w'.heap.size := by omega)); (try (have x6 : w6.heap.size + 1 < w'.heap.size := by omega)); (try (have y7 : w7.heap.size < w'.heap.size := by omega)); (try (have y8 : w8.heap.size < w'.heap.size := by omega)); (try (have y9 : w9.heap.size < w'.heap.size := by omega)); (try (have z10 : w1.heap.size < w'.heap.size + 1 := by omega)); (try (have z20 : w2.heap.size < w'.heap.size + 1 := by omega)); (try (have z30 : w3.heap.size < w'.heap.size + 1 := by omega)); (try (have z40 : w4.heap.size < w'.heap.size + 1 := by omega)); (try (have z50 : w5.heap.size < w'.heap.size + 1 := by omega)); (try (have z60 : w6.heap.size < w'.heap.size + 1 := by omega)); (try (have z70 : w7.heap.size < w'.heap.size + 1 := by omega)); (try (have z80 : w8.heap.size < w'.heap.size + 1 := by omega)))
      have ux0 : w'.cell? ⟨wo.heap.size, 0, none⟩ = some (.slice A2 n2 c2) := by simp [go_sem, *]
      have ux1 : w'.cell? ⟨wo.heap.size, 1, none⟩ = some (.bool b2) := by simp [go_sem, *]
      have vx0 : w'.cell? ⟨wo.heap.size + 1, 0, none⟩ = some (.slice A3 n3 c3) := by simp [go_sem, *]
      have vx1 : w'.cell? ⟨wo.heap.size + 1, 1, none⟩ = some (.bool b3) := by simp [go_sem, *]
      have vx2 : w'.cell? ⟨wo.heap.size + 1, 2, none⟩ = some (.slice A4 n4 c4) := by simp [go_sem, *]
      have vx3 : w'.cell? ⟨wo.heap.size + 1, 3, none⟩ = some (.bool b4) := by simp [go_sem, *]
      have cf5 : ∀ o, w'.frozen? ⟨w.heap.size + 1 + 1 + 1, o, none⟩ = false := by intro o; simp [go_sem, *]
      have hb5 : Below wo.heap.size wo w' := by (repeat (first | (with_reducible exact Below.refl _ _) | (with_reducible refine Below.setCell ?_ (by (first | (simp; done) | (simp; omega) | omega)) _) | (with_reducible refine bl_alloc ?_ _) | (with_reducible refine bl_drewN ?_) | (with_reducible refine bl_drew ?_) | (with_reducible refine bl_step (by assumption) ?_)))
      have sz5 : wo.heap.size + 2 ≤ w'.heap.size := by first | omega | (simp at hz; omega)
      have h5 := hidden (HT.out.step hb5 hB3)
      clear hcell hfroz hz hb wy0_ wy1_ wy2_ wy3_ wxc0 wxc1 wxc2 wxc3 wrc0 wrc1 wrc2 wrc3 cfr cgr
      obtain ⟨w5, rfl⟩ : ∃ v, v = w' := ⟨_, rfl⟩
      go_loopw [29] (fun kv wv => TR (TM w w5 wv (w.heap.size + 1 + 1 + 1) (2) (mnF P13 P14 P23 P24 (2)) (mxF P13 P14 P23 P24 (2))) (TM w w5 wv (w.heap.size + 1 + 1 + 1) (3) (mnF P13 P14 P23 P24 (3)) (mxF P13 P14 P23 P24 (3))) (TM w w5 wv (w.heap.size + 1 + 1 + 1) (4) (mnF P13 P14 P23 P24 (4)) (mxF P13 P14 P23 P24 (4))) kv) (fun kv _ => 2 - (intOf kv).toNat)
      case atStart => exact TR.zero h5.out
      case round =>
        rcases hrel with ⟨rfl, htm⟩ | ⟨rfl, htm⟩ | ⟨rfl, htm⟩
        · have HV := hidden htm
          obtain ⟨vk, vf, vs, vb, LA, Ln, Lc, Lb, RA, Rn, Rc, Rb, l0, l1, l2, l3, lm⟩ := htm
          have VK := hidden vk
          have VF := hidden vf
          have LM := hidden lm
          clear lm
          have ux0_ := (vk _ _ (by omega) (by omega)).trans ux0
          have ux1_ := (vk _ _ (by omega) (by omega)).trans ux1
          have vx0_ := (vk _ _ (by omega) (by omega)).trans vx0
          have vx1_ := (vk _ _ (by omega) (by omega)).trans vx1
          have vx2_ := (vk _ _ (by omega) (by omega)).trans vx2
          have vx3_ := (vk _ _ (by omega) (by omega)).trans vx3
          have cfv : ∀ o, wr.frozen? ⟨w.heap.size + 1 + 1 + 1, o, none⟩ = false := fun o => (vf _ o (by omega)).trans (cf5 o)
          clear vk vf
          have r0 : wo.heap.size < wr.heap.size := by omega
          have r0_ : wo.heap.size < wr.heap.size + 1 := by omega
          have r1 : wo.heap.size + 1 < wr.heap.size := by omega
          have r1_ : wo.heap.size + 1 < wr.heap.size + 1 := by omega
          have r3 : w.heap.size + 1 + 1 + 1 < wr.heap.size := by omega
          go_wp2_with fail
          go_at_call 40
          refine (M23.out _ (by (repeat (first | (with_reducible exact Below.refl _ _) | (with_reducible refine Below.setCell ?_ (by (first | (simp; done) | (simp; omega) | omega)) _) | (with_reducible refine bl_alloc ?_ _) | (with_reducible refine bl_drewN ?_) | (with_reducible refine bl_drew ?_) | (with_reducible refine bl_step (by assumption) ?_))))).mono ?_
          rintro e w' ⟨PA, Pn, Pc, Pb, rfl, hd, hpb, hfr, hb⟩
          have HD := hidden hd
          have HF := hidden (hfr.le (M := wr.heap.size) (by simp))
          have HP := hidden hpb
          clear hd hpb hfr
          have hb6 : Below wr.heap.size wr w' := bl_step hb (by (repeat (first | (with_reducible exact Below.refl _ _) | (with_reducible refine Below.setCell ?_ (by (first | (simp; done) | (simp; omega) | omega)) _) | (with_reducible refine bl_alloc ?_ _) | (with_reducible refine bl_drewN ?_) | (with_reducible refine bl_drew ?_) | (with_reducible refine bl_step (by assumption) ?_))))
          have s6 := hb6.size
          have sx : wr.heap.size < w'.heap.size := by have := hb.size; simp at this; omega
          have m0 := cell_later hb6 l0
          have m1 := cell_later hb6 l1
          have m2 := cell_later hb6 l2
          have m3 := cell_later hb6 l3
          have cfw : ∀ o, w'.frozen? ⟨w.heap.size + 1 + 1 + 1, o, none⟩ = false := fun o => (hb6.frozen (p := ⟨w.heap.size + 1 + 1 + 1, o, none⟩) r3).trans (cfv o)
          clear l0 l1 l2 l3 cfv hb
          obtain ⟨w6, rfl⟩ : ∃ v, v = w' := ⟨_, rfl⟩
          have r6 : w.heap.size + 1 + 1 + 1 < w6.heap.size := by omega
          have r6_ : w.heap.size + 1 + 1 + 1 < w6.heap.size + 1 := by omega
          obtain ⟨⟨ld, lb, lf⟩, ⟨rd, rb, rf⟩⟩ := LM.out (by omega)
          have LD := hidden ld
          have LB := hidden lb
          have LF := hidden lf
          have RD := hidden rd
          have RB := hidden rb
          have RF := hidden rf
          clear ld lb lf rd rb rf
          have lh : (mnF P13 P14 P23 P24 2) ≤ (mxF P13 P14 P23 P24 2) := by simp only [mnF, mxF]; omega
          have ml : (mnF P13 P14 P23 P24 3) = min (mnF P13 P14 P23 P24 2) P23 := rfl
          have mh : (mxF P13 P14 P23 P24 3) = max (mxF P13 P14 P23 P24 2) P23 := rfl
          have bl : ((mnF P13 P14 P23 P24 2)).natAbs < pw 30 := by have := Q13.out; have := Q14.out; have := Q23.out; have := Q24.out; simp only [mnF]; omega
          have bh : ((mxF P13 P14 P23 P24 2)).natAbs < pw 30 := by have := Q13.out; have := Q14.out; have := Q23.out; have := Q24.out; simp only [mxF]; omega
          obtain ⟨lo, elo⟩ : ∃ z, (mnF P13 P14 P23 P24 2) = z := ⟨_, rfl⟩
          obtain ⟨hi, ehi⟩ : ∃ z, (mxF P13 P14 P23 P24 2) = z := ⟨_, rfl⟩
          rw [elo] at lh ml bl
          rw [ehi] at lh mh bh
          have HV2 := HV.out
          rw [elo, ehi] at HV2
          rw [elo] at LD LB
          rw [ehi] at RD RB
          have HV3 := hidden HV2
          have ML := hidden ml
          have MH := hidden mh
          have BL := hidden bl
          have BH := hidden bh
          clear elo ehi HV2 ml mh bl bh
          obtain ⟨u1, eu1⟩ : ∃ u, cmpI P23 lo = u := ⟨_, rfl⟩
          obtain ⟨u2, eu2⟩ : ∃ u, cmpI P23 hi = u := ⟨_, rfl⟩
          have U1 := hidden eu1
          have U2 := hidden eu2
          unfold cmpI at eu1 eu2
          by_cases lt : P23 < lo
          · have v1 : u1 < 0 := by rw [if_pos lt] at eu1; omega
            have v2 : ¬ 0 < u2 := by rw [if_pos (by omega)] at eu2; omega
            clear eu1 eu2
            go_wp2_with fail
            go_at_call 39
            refine (compare02_b PA LA Pn Ln Pc Lc P23 lo u1 Pb Lb _ (HD.out.below (by (repeat (first | (with_reducible exact Below.refl _ _) | (with_reducible refine Below.setCell ?_ (by (first | (simp; done) | (simp; omega) | omega)) _) | (with_reducible refine bl_alloc ?_ _) | (with_reducible refine bl_drewN ?_) | (with_reducible refine bl_drew ?_) | (with_reducible refine bl_step (by assumption) ?_))))) (LD.out.below (by (repeat (first | (with_reducible exact Below.refl _ _) | (with_reducible refine Below.setCell ?_ (by (first | (simp; done) | (simp; omega) | omega)) _) | (with_reducible refine bl_alloc ?_ _) | (with_reducible refine bl_drewN ?_) | (with_reducible refine bl_drew ?_) | (with_reducible refine bl_step (by assumption) ?_))))) Q23.out BL.out HP.out LB.out U1.out).mono ?_
            rintro e w' ⟨rfl, hb⟩
            have hb7 : Below w6.heap.size w6 w' := bl_step hb (by (repeat (first | (with_reducible exact Below.refl _ _) | (with_reducible refine Below.setCell ?_ (by (first | (simp; done) | (simp; omega) | omega)) _) | (with_reducible refine bl_alloc ?_ _) | (with_reducible refine bl_drewN ?_) | (with_reducible refine bl_drew ?_) | (with_reducible refine bl_step (by assumption) ?_))))
            have k0 := cell_later hb7 m0
            have k1 := cell_later hb7 m1
            have k2 := cell_later hb7 m2
            have k3 := cell_later hb7 m3
            have cfz : ∀ o, w'.frozen? ⟨w.heap.size + 1 + 1 + 1, o, none⟩ = false := fun o => (hb7.frozen (p := ⟨w.heap.size + 1 + 1 + 1, o, none⟩) r6).trans (cfw o)
            have t10 : w'.cell? ⟨w6.heap.size, 0, none⟩ = some (.slice PA Pn Pc) := cell_later hb (by simp [go_sem])
            have t10b : w'.cell? ⟨w6.heap.size, 1, none⟩ = some (.bool Pb) := cell_later hb (by simp [go_sem])
            clear m0 m1 m2 m3 cfw hb
            obtain ⟨w7, rfl⟩ : ∃ v, v = w' := ⟨_, rfl⟩
            have s7 := hb7.size
            have r7 : w.heap.size + 1 + 1 + 1 < w7.heap.size := by omega
            have ne7 : w6.heap.size ≠ w.heap.size + 1 + 1 + 1 := by omega
            have ne8 : w.heap.size + 1 + 1 + 1 ≠ w6.heap.size := by omega
            have np := fr_ne HF.out r3
            have nr := fr_ne RF.out (by omega : w.heap.size + 1 + 1 + 1 < w.heap.size + 4)
            have NP := hidden np
            have NR := hidden nr
            clear np nr
            go_wp2_with fail
            go_at_call 39
            refine (compare02_b PA RA Pn Rn Pc Rc P23 hi u2 Pb Rb _ (((HD.out.below hb7).store ⟨w.heap.size + 1 + 1 + 1, 0, none⟩ _ NP.out).store ⟨w.heap.size + 1 + 1 + 1, 1, none⟩ _ NP.out) (((RD.out.below (bl_step hb7 hb6)).store ⟨w.heap.size + 1 + 1 + 1, 0, none⟩ _ NR.out).store ⟨w.heap.size + 1 + 1 + 1, 1, none⟩ _ NR.out) Q23.out BH.out HP.out RB.out U2.out).mono ?_
            rintro e w' ⟨rfl, hb⟩
            have hv := hidden (((HV3.out.same (bl_step hb7 hb6) r3 2 (by omega)).put0 rfl r7 2 (by omega) (HD.out.below hb7) HP.out (HF.out.le (by omega))).same hb (by simpa using r7) 3 (by omega))
            go_wp2
            go_roundw
            case rel => exact TR.one (by rw [show mnF P13 P14 P23 P24 3 = P23 by rw [ML.out]; omega, show mxF P13 P14 P23 P24 3 = hi by rw [MH.out]; omega]; exact hv.out)
            case measure => first | (simp [intOf]; done) | (simp [intOf]; omega)
          · have v1 : ¬ u1 < 0 := by rw [if_neg lt] at eu1; split at eu1 <;> omega
            go_wp2_with fail
            go_at_call 39
            refine (compare02_b PA LA Pn Ln Pc Lc P23 lo u1 Pb Lb _ (HD.out.below (by (repeat (first | (with_reducible exact Below.refl _ _) | (with_reducible refine Below.setCell ?_ (by (first | (simp; done) | (simp; omega) | omega)) _) | (with_reducible refine bl_alloc ?_ _) | (with_reducible refine bl_drewN ?_) | (with_reducible refine bl_drew ?_) | (with_reducible refine bl_step (by assumption) ?_))))) (LD.out.below (by (repeat (first | (with_reducible exact Below.refl _ _) | (with_reducible refine Below.setCell ?_ (by (first | (simp; done) | (simp; omega) | omega)) _) | (with_reducible refine bl_alloc ?_ _) | (with_reducible refine bl_drewN ?_) | (with_reducible refine bl_drew ?_) | (with_reducible refine bl_step (by assumption) ?_))))) Q23.out BL.out HP.out LB.out U1.out).mono ?_
            rintro e w' ⟨rfl, hb⟩
            have hb7 : Below w6.heap.size w6 w' := bl_step hb (by (repeat (first | (with_reducible exact Below.refl _ _) | (with_reducible refine Below.setCell ?_ (by (first | (simp; done) | (simp; omega) | omega)) _) | (with_reducible refine bl_alloc ?_ _) | (with_reducible refine bl_drewN ?_) | (with_reducible refine bl_drew ?_) | (with_reducible refine bl_step (by assumption) ?_))))
            have k0 := cell_later hb7 m0
            have k1 := cell_later hb7 m1
            have k2 := cell_later hb7 m2
            have k3 := cell_later hb7 m3
            have cfz : ∀ o, w'.frozen? ⟨w.heap.size + 1 + 1 + 1, o, none⟩ = false := fun o => (hb7.frozen (p := ⟨w.heap.size + 1 + 1 + 1, o, none⟩) r6).trans (cfw o)
            have t10 : w'.cell? ⟨w6.heap.size, 0, none⟩ = some (.slice PA Pn Pc) := cell_later hb (by simp [go_sem])
            have t10b : w'.cell? ⟨w6.heap.size, 1, none⟩ = some (.bool Pb) := cell_later hb (by simp [go_sem])
            clear m0 m1 m2 m3 cfw hb
            obtain ⟨w7, rfl⟩ : ∃ v, v = w' := ⟨_, rfl⟩
            have s7 := hb7.size
            have r7 : w.heap.size + 1 + 1 + 1 < w7.heap.size := by omega
            have ne7 : w6.heap.size ≠ w.heap.size + 1 + 1 + 1 := by omega
            have ne8 : w.heap.size + 1 + 1 + 1 ≠ w6.heap.size := by omega
            have dp := hidden (HD.out.below hb7)
            by_cases gt : hi < P23
            · have v2 : 0 < u2 := by rw [if_neg (by omega), if_neg (by omega)] at eu2; omega
              clear eu1 eu2
              go_wp2_with fail
              go_at_call 39
              refine (compare02_b PA RA Pn Rn Pc Rc P23 hi u2 Pb Rb _ ((HD.out.below hb7)) (RD.out.below (bl_step hb7 hb6)) Q23.out BH.out HP.out RB.out U2.out).mono ?_
              rintro e w' ⟨rfl, hb⟩
              have hb8 := hb
              have z0 := cell_later hb k0
              have z1 := cell_later hb k1
              have z2 := cell_later hb k2
              have z3 := cell_later hb k3
              have z4 := cell_later hb t10
              have z5 := cell_later hb t10b
              have z6 : ∀ o, w'.frozen? ⟨w.heap.size + 1 + 1 + 1, o, none⟩ = false := fun o => (hb.frozen (p := ⟨w.heap.size + 1 + 1 + 1, o, none⟩) r7).trans (cfz o)
              clear hb k0 k1 k2 k3 t10 t10b cfz
              have hv := hidden ((HV3.out.same (bl_step hb8 (bl_step hb7 hb6)) r3 2 (by omega)).put1 rfl (by have := hb8.size; omega) 3 (by omega) ((HD.out.below hb7).below hb8) HP.out (HF.out.le (by omega)))
              go_wp2
              go_roundw
              case rel => exact TR.one (by rw [show mnF P13 P14 P23 P24 3 = lo by rw [ML.out]; omega, show mxF P13 P14 P23 P24 3 = P23 by rw [MH.out]; omega]; exact hv.out)
              case measure => first | (simp [intOf]; done) | (simp [intOf]; omega)
            · have v2 : ¬ 0 < u2 := by split at eu2; omega; split at eu2 <;> omega
              clear eu1 eu2
              go_wp2_with fail
              go_at_call 39
              refine (compare02_b PA RA Pn Rn Pc Rc P23 hi u2 Pb Rb _ ((HD.out.below hb7)) (RD.out.below (bl_step hb7 hb6)) Q23.out BH.out HP.out RB.out U2.out).mono ?_
              rintro e w' ⟨rfl, hb⟩
              have hv := hidden (HV3.out.same (bl_step hb (bl_step hb7 hb6)) r3 3 (by omega))
              go_wp2
              go_roundw
              case rel => exact TR.one (by rw [show mnF P13 P14 P23 P24 3 = lo by rw [ML.out]; omega, show mxF P13 P14 P23 P24 3 = hi by rw [MH.out]; omega]; exact hv.out)
              case measure => first | (simp [intOf]; done) | (simp [intOf]; omega)
        · have HV := hidden htm
          obtain ⟨vk, vf, vs, vb, LA, Ln, Lc, Lb, RA, Rn, Rc, Rb, l0, l1, l2, l3, lm⟩ := htm
          have VK := hidden vk
          have VF := hidden vf
          have LM := hidden lm
          clear lm
          have ux0_ := (vk _ _ (by omega) (by omega)).trans ux0
          have ux1_ := (vk _ _ (by omega) (by omega)).trans ux1
          have vx0_ := (vk _ _ (by omega) (by omega)).trans vx0
          have vx1_ := (vk _ _ (by omega) (by omega)).trans vx1
          have vx2_ := (vk _ _ (by omega) (by omega)).trans vx2
          have vx3_ := (vk _ _ (by omega) (by omega)).trans vx3
          have cfv : ∀ o, wr.frozen? ⟨w.heap.size + 1 + 1 + 1, o, none⟩ = false := fun o => (vf _ o (by omega)).trans (cf5 o)
          clear vk vf
          have r0 : wo.heap.size < wr.heap.size := by omega
          have r0_ : wo.heap.size < wr.heap.size + 1 := by omega
          have r1 : wo.heap.size + 1 < wr.heap.size := by omega
          have r1_ : wo.heap.size + 1 < wr.heap.size + 1 := by omega
          have r3 : w.heap.size + 1 + 1 + 1 < wr.heap.size := by omega
          go_wp2_with fail
          go_at_call 40
          refine (M24.out _ (by (repeat (first | (with_reducible exact Below.refl _ _) | (with_reducible refine Below.setCell ?_ (by (first | (simp; done) | (simp; omega) | omega)) _) | (with_reducible refine bl_alloc ?_ _) | (with_reducible refine bl_drewN ?_) | (with_reducible refine bl_drew ?_) | (with_reducible refine bl_step (by assumption) ?_))))).mono ?_
          rintro e w' ⟨PA, Pn, Pc, Pb, rfl, hd, hpb, hfr, hb⟩
          have HD := hidden hd
          have HF := hidden (hfr.le (M := wr.heap.size) (by simp))
          have HP := hidden hpb
          clear hd hpb hfr
          have hb6 : Below wr.heap.size wr w' := bl_step hb (by (repeat (first | (with_reducible exact Below.refl _ _) | (with_reducible refine Below.setCell ?_ (by (first | (simp; done) | (simp; omega) | omega)) _) | (with_reducible refine bl_alloc ?_ _) | (with_reducible refine bl_drewN ?_) | (with_reducible refine bl_drew ?_) | (with_reducible refine bl_step (by assumption) ?_))))
          have s6 := hb6.size
          have sx : wr.heap.size < w'.heap.size := by have := hb.size; simp at this; omega
          have m0 := cell_later hb6 l0
          have m1 := cell_later hb6 l1
          have m2 := cell_later hb6 l2
          have m3 := cell_later hb6 l3
          have cfw : ∀ o, w'.frozen? ⟨w.heap.size + 1 + 1 + 1, o, none⟩ = false := fun o => (hb6.frozen (p := ⟨w.heap.size + 1 + 1 + 1, o, none⟩) r3).trans (cfv o)
          clear l0 l1 l2 l3 cfv hb
          obtain ⟨w6, rfl⟩ : ∃ v, v = w' := ⟨_, rfl⟩
          have r6 : w.heap.size + 1 + 1 + 1 < w6.heap.size := by omega
          have r6_ : w.heap.size + 1 + 1 + 1 < w6.heap.size + 1 := by omega
          obtain ⟨⟨ld, lb, lf⟩, ⟨rd, rb, rf⟩⟩ := LM.out (by omega)
          have LD := hidden ld
          have LB := hidden lb
          have LF := hidden lf
          have RD := hidden rd
          have RB := hidden rb
          have RF := hidden rf
          clear ld lb lf rd rb rf
          have lh : (mnF P13 P14 P23 P24 3) ≤ (mxF P13 P14 P23 P24 3) := by simp only [mnF, mxF]; omega
          have ml : (mnF P13 P14 P23 P24 4) = min (mnF P13 P14 P23 P24 3) P24 := rfl
          have mh : (mxF P13 P14 P23 P24 4) = max (mxF P13 P14 P23 P24 3) P24 := rfl
          have bl : ((mnF P13 P14 P23 P24 3)).natAbs < pw 30 := by have := Q13.out; have := Q14.out; have := Q23.out; have := Q24.out; simp only [mnF]; omega
          have bh : ((mxF P13 P14 P23 P24 3)).natAbs < pw 30 := by have := Q13.out; have := Q14.out; have := Q23.out; have := Q24.out; simp only [mxF]; omega
          obtain ⟨lo, elo⟩ : ∃ z, (mnF P13 P14 P23 P24 3) = z := ⟨_, rfl⟩
          obtain ⟨hi, ehi⟩ : ∃ z, (mxF P13 P14 P23 P24 3) = z := ⟨_, rfl⟩
          rw [elo] at lh ml bl
          rw [ehi] at lh mh bh
          have HV2 := HV.out
          rw [elo, ehi] at HV2
          rw [elo] at LD LB
          rw [ehi] at RD RB
          have HV3 := hidden HV2
          have ML := hidden ml
          have MH := hidden mh
          have BL := hidden bl
          have BH := hidden bh
          clear elo ehi HV2 ml mh bl bh
          obtain ⟨u1, eu1⟩ : ∃ u, cmpI P24 lo = u := ⟨_, rfl⟩
          obtain ⟨u2, eu2⟩ : ∃ u, cmpI P24 hi = u := ⟨_, rfl⟩
          have U1 := hidden eu1
          have U2 := hidden eu2
          unfold cmpI at eu1 eu2
          by_cases lt : P24 < lo
          · have v1 : u1 < 0 := by rw [if_pos lt] at eu1; omega
            have v2 : ¬ 0 < u2 := by rw [if_pos (by omega)] at eu2; omega
            clear eu1 eu2
            go_wp2_with fail
            go_at_call 39
            refine (compare02_b PA LA Pn Ln Pc Lc P24 lo u1 Pb Lb _ (HD.out.below (by (repeat (first | (with_reducible exact Below.refl _ _) | (with_reducible refine Below.setCell ?_ (by (first | (simp; done) | (simp; omega) | omega)) _) | (with_reducible refine bl_alloc ?_ _) | (with_reducible refine bl_drewN ?_) | (with_reducible refine bl_drew ?_) | (with_reducible refine bl_step (by assumption) ?_))))) (LD.out.below (by (repeat (first | (with_reducible exact Below.refl _ _) | (with_reducible refine Below.setCell ?_ (by (first | (simp; done) | (simp; omega) | omega)) _) | (with_reducible refine bl_alloc ?_ _) | (with_reducible refine bl_drewN ?_) | (with_reducible refine bl_drew ?_) | (with_reducible refine bl_step (by assumption) ?_))))) Q24.out BL.out HP.out LB.out U1.out).mono ?_
            rintro e w' ⟨rfl, hb⟩
            have hb7 : Below w6.heap.size w6 w' := bl_step hb (by (repeat (first | (with_reducible exact Below.refl _ _) | (with_reducible refine Below.setCell ?_ (by (first | (simp; done) | (simp; omega) | omega)) _) | (with_reducible refine bl_alloc ?_ _) | (with_reducible refine bl_drewN ?_) | (with_reducible refine bl_drew ?_) | (with_reducible refine bl_step (by assumption) ?_))))
            have k0 := cell_later hb7 m0
            have k1 := cell_later hb7 m1
            have k2 := cell_later hb7 m2
            have k3 := cell_later hb7 m3
            have cfz : ∀ o, w'.frozen? ⟨w.heap.size + 1 + 1 + 1, o, none⟩ = false := fun o => (hb7.frozen (p := ⟨w.heap.size + 1 + 1 + 1, o, none⟩) r6).trans (cfw o)
            have t10 : w'.cell? ⟨w6.heap.size, 0, none⟩ = some (.slice PA Pn Pc) := cell_later hb (by simp [go_sem])
            have t10b : w'.cell? ⟨w6.heap.size, 1, none⟩ = some (.bool Pb) := cell_later hb (by simp [go_sem])
            clear m0 m1 m2 m3 cfw hb
            obtain ⟨w7, rfl⟩ : ∃ v, v = w' := ⟨_, rfl⟩
            have s7 := hb7.size
            have r7 : w.heap.size + 1 + 1 + 1 < w7.heap.size := by omega
            have ne7 : w6.heap.size ≠ w.heap.size + 1 + 1 + 1 := by omega
            have ne8 : w.heap.size + 1 + 1 + 1 ≠ w6.heap.size := by omega
            have np := fr_ne HF.out r3
            have nr := fr_ne RF.out (by omega : w.heap.size + 1 + 1 + 1 < w.heap.size + 4)
            have NP := hidden np
            have NR := hidden nr
            clear np nr
            go_wp2_with fail
            go_at_call 39
            refine (compare02_b PA RA Pn Rn Pc Rc P24 hi u2 Pb Rb _ (((HD.out.below hb7).store ⟨w.heap.size + 1 + 1 + 1, 0, none⟩ _ NP.out).store ⟨w.heap.size + 1 + 1 + 1, 1, none⟩ _ NP.out) (((RD.out.below (bl_step hb7 hb6)).store ⟨w.heap.size + 1 + 1 + 1, 0, none⟩ _ NR.out).store ⟨w.heap.size + 1 + 1 + 1, 1, none⟩ _ NR.out) Q24.out BH.out HP.out RB.out U2.out).mono ?_
            rintro e w' ⟨rfl, hb⟩
            have hv := hidden (((HV3.out.same (bl_step hb7 hb6) r3 3 (by omega)).put0 rfl r7 3 (by omega) (HD.out.below hb7) HP.out (HF.out.le (by omega))).same hb (by simpa using r7) 4 (by omega))
            go_wp2
            go_roundw
            case rel => exact TR.two (by rw [show mnF P13 P14 P23 P24 4 = P24 by rw [ML.out]; omega, show mxF P13 P14 P23 P24 4 = hi by rw [MH.out]; omega]; exact hv.out)
            case measure => first | (simp [intOf]; done) | (simp [intOf]; omega)
          · have v1 : ¬ u1 < 0 := by rw [if_neg lt] at eu1; split at eu1 <;> omega
            go_wp2_with fail
            go_at_call 39
            refine (compare02_b PA LA Pn Ln Pc Lc P24 lo u1 Pb Lb _ (HD.out.below (by (repeat (first | (with_reducible exact Below.refl _ _) | (with_reducible refine Below.setCell ?_ (by (first | (simp; done) | (simp; omega) | omega)) _) | (with_reducible refine bl_alloc ?_ _) | (with_reducible refine bl_drewN ?_) | (with_reducible refine bl_drew ?_) | (with_reducible refine bl_step (by assumption) ?_))))) (LD.out.below (by (repeat (first | (with_reducible exact Below.refl _ _) | (with_reducible refine Below.setCell ?_ (by (first | (simp; done) | (simp; omega) | omega)) _) | (with_reducible refine bl_alloc ?_ _) | (with_reducible refine bl_drewN ?_) | (with_reducible refine bl_drew ?_) | (with_reducible refine bl_step (by assumption) ?_))))) Q24.out BL.out HP.out LB.out U1.out).mono ?_
            rintro e w' ⟨rfl, hb⟩
            have hb7 : Below w6.heap.size w6 w' := bl_step hb (by (repeat (first | (with_reducible exact Below.refl _ _) | (with_reducible refine Below.setCell ?_ (by (first | (simp; done) | (simp; omega) | omega)) _) | (with_reducible refine bl_alloc ?_ _) | (with_reducible refine bl_drewN ?_) | (with_reducible refine bl_drew ?_) | (with_reducible refine bl_step (by assumption) ?_))))
            have k0 := cell_later hb7 m0
            have k1 := cell_later hb7 m1
            have k2 := cell_later hb7 m2
            have k3 := cell_later hb7 m3
            have cfz : ∀ o, w'.frozen? ⟨w.heap.size + 1 + 1 + 1, o, none⟩ = false := fun o => (hb7.frozen (p := ⟨w.heap.size + 1 + 1 + 1, o, none⟩) r6).trans (cfw o)
            have t10 : w'.cell? ⟨w6.heap.size, 0, none⟩ = some (.slice PA Pn Pc) := cell_later hb (by simp [go_sem])
            have t10b : w'.cell? ⟨w6.heap.size, 1, none⟩ = some (.bool Pb) := cell_later hb (by simp [go_sem])
            clear m0 m1 m2 m3 cfw hb
            obtain ⟨w7, rfl⟩ : ∃ v, v = w' := ⟨_, rfl⟩
            have s7 := hb7.size
            have r7 : w.heap.size + 1 + 1 + 1 < w7.heap.size := by omega
            have ne7 : w6.heap.size ≠ w.heap.size + 1 + 1 + 1 := by omega
            have ne8 : w.heap.size + 1 + 1 + 1 ≠ w6.heap.size := by omega
            have dp := hidden (HD.out.below hb7)
            by_cases gt : hi < P24
            · have v2 : 0 < u2 := by rw [if_neg (by omega), if_neg (by omega)] at eu2; omega
              clear eu1 eu2
              go_wp2_with fail
              go_at_call 39
              refine (compare02_b PA RA Pn Rn Pc Rc P24 hi u2 Pb Rb _ ((HD.out.below hb7)) (RD.out.below (bl_step hb7 hb6)) Q24.out BH.out HP.out RB.out U2.out).mono ?_
              rintro e w' ⟨rfl, hb⟩
              have hb8 := hb
              have z0 := cell_later hb k0
              have z1 := cell_later hb k1
              have z2 := cell_later hb k2
              have z3 := cell_later hb k3
              have z4 := cell_later hb t10
              have z5 := cell_later hb t10b
              have z6 : ∀ o, w'.frozen? ⟨w.heap.size + 1 + 1 + 1, o, none⟩ = false := fun o => (hb.frozen (p := ⟨w.heap.size + 1 + 1 + 1, o, none⟩) r7).trans (cfz o)
              clear hb k0 k1 k2 k3 t10 t10b cfz
              have hv := hidden ((HV3.out.same (bl_step hb8 (bl_step hb7 hb6)) r3 3 (by omega)).put1 rfl (by have := hb8.size; omega) 4 (by omega) ((HD.out.below hb7).below hb8) HP.out (HF.out.le (by omega)))
              go_wp2
              go_roundw
              case rel => exact TR.two (by rw [show mnF P13 P14 P23 P24 4 = lo by rw [ML.out]; omega, show mxF P13 P14 P23 P24 4 = P24 by rw [MH.out]; omega]; exact hv.out)
              case measure => first | (simp [intOf]; done) | (simp [intOf]; omega)
            · have v2 : ¬ 0 < u2 := by split at eu2; omega; split at eu2 <;> omega
              clear eu1 eu2
              go_wp2_with fail
              go_at_call 39
              refine (compare02_b PA RA Pn Rn Pc Rc P24 hi u2 Pb Rb _ ((HD.out.below hb7)) (RD.out.below (bl_step hb7 hb6)) Q24.out BH.out HP.out RB.out U2.out).mono ?_
              rintro e w' ⟨rfl, hb⟩
              have hv := hidden (HV3.out.same (bl_step hb (bl_step hb7 hb6)) r3 4 (by omega))
              go_wp2
              go_roundw
              case rel => exact TR.two (by rw [show mnF P13 P14 P23 P24 4 = lo by rw [ML.out]; omega, show mxF P13 P14 P23 P24 4 = hi by rw [MH.out]; omega]; exact hv.out)
              case measure => first | (simp [intOf]; done) | (simp [intOf]; omega)
        · have HV := hidden htm
          obtain ⟨vk, vf, vs, vb, LA, Ln, Lc, Lb, RA, Rn, Rc, Rb, l0, l1, l2, l3, lm⟩ := htm
          have VK := hidden vk
          have VF := hidden vf
          have LM := hidden lm
          clear lm
          have ux0_ := (vk _ _ (by omega) (by omega)).trans ux0
          have ux1_ := (vk _ _ (by omega) (by omega)).trans ux1
          have vx0_ := (vk _ _ (by omega) (by omega)).trans vx0
          have vx1_ := (vk _ _ (by omega) (by omega)).trans vx1
          have vx2_ := (vk _ _ (by omega) (by omega)).trans vx2
          have vx3_ := (vk _ _ (by omega) (by omega)).trans vx3
          have cfv : ∀ o, wr.frozen? ⟨w.heap.size + 1 + 1 + 1, o, none⟩ = false := fun o => (vf _ o (by omega)).trans (cf5 o)
          clear vk vf
          have bk := hidden (TM.back HK.out HF.out hs hb5 HV.out)
          go_wp2
          go_roundw
          case rel => exact TR.two bk.out
          case measure => first | (simp [intOf]; done) | (simp [intOf]; omega)
    · obtain ⟨wo, rfl⟩ : ∃ v, v = wr := ⟨_, rfl⟩
      have HT := hidden htm
      obtain ⟨hk, hf, hs, hbw, htm2⟩ := htm
      clear htm2
      have HK := hidden hk
      have HF := hidden hf
      have hB3 : w.heap.size + 1 + 1 + 1 < wo.heap.size := by omega
      have wy0_ := (hk _ _ (by omega) (by omega)).trans y0_
      have wy1_ := (hk _ _ (by omega) (by omega)).trans y1_
      have wy2_ := (hk _ _ (by omega) (by omega)).trans y2_
      have wy3_ := (hk _ _ (by omega) (by omega)).trans y3_
      have wxc0 := (hk _ _ (by omega) (by omega)).trans xc0
      have wxc1 := (hk _ _ (by omega) (by omega)).trans xc1
      have wxc2 := (hk _ _ (by omega) (by omega)).trans xc2
      have wxc3 := (hk _ _ (by omega) (by omega)).trans xc3
      have wrc0 := (hk _ _ (by omega) (by omega)).trans rc0
      have wrc1 := (hk _ _ (by omega) (by omega)).trans rc1
      have wrc2 := (hk _ _ (by omega) (by omega)).trans rc2
      have wrc3 := (hk _ _ (by omega) (by omega)).trans rc3
      have cfr : ∀ o, wo.frozen? ⟨w.heap.size + 1 + 1 + 1, o, none⟩ = false := fun o => (hf _ o (by omega)).trans (cf o)
      have cgr : ∀ o, wo.frozen? ⟨w.heap.size + 1 + 1, o, none⟩ = false := fun o => (hf _ o (by omega)).trans (cg o)
      clear hk hf
      obtain ⟨h1, h2, h3, h4, LA, Ln, Lc, Lb, RA, Rn, Rc, Rb, l0, l1, l2, l3, lm⟩ := HT.out
      obtain ⟨⟨ld, lb, lf⟩, ⟨rd, rb, rf⟩⟩ := lm (by omega)
      have nl := hidden (fr_ne lf (by omega : w.heap.size + 1 + 1 < w.heap.size + 4))
      have nr := hidden (fr_ne rf (by omega : w.heap.size + 1 + 1 < w.heap.size + 4))
      have LD := hidden ld
      have LB := hidden lb
      have LF := hidden lf
      have RD := hidden rd
      have RB := hidden rb
      have RF := hidden rf
      have H4 := hidden h4
      clear h1 h2 h4 lm ld lb lf rd rb rf
      have q2 : w.heap.size + 1 + 1 < wo.heap.size := by omega
      go_wp2
      exact bodyPost_ret (v := .agg #[.slice LA Ln Lc, .bool Lb, .slice RA Rn Rc, .bool Rb]) (by first | (simp only [results, Try.results23]; go_simp; done) | simp [results, Try.results23, go_sem, *]) rfl ⟨LA, Ln, Lc, Lb, RA, Rn, Rc, Rb, rfl, ⟨(((LD.out.store ⟨w.heap.size + 1 + 1, 0, none⟩ _ nl.out).store ⟨w.heap.size + 1 + 1, 1, none⟩ _ nl.out).store ⟨w.heap.size + 1 + 1, 2, none⟩ _ nl.out).store ⟨w.heap.size + 1 + 1, 3, none⟩ _ nl.out, LB.out, LF.out.le (by omega)⟩, ⟨(((RD.out.store ⟨w.heap.size + 1 + 1, 0, none⟩ _ nr.out).store ⟨w.heap.size + 1 + 1, 1, none⟩ _ nr.out).store ⟨w.heap.size + 1 + 1, 2, none⟩ _ nr.out).store ⟨w.heap.size + 1 + 1, 3, none⟩ _ nr.out, RB.out, RF.out.le (by omega)⟩, (((H4.out.setCell (by simp; omega) _).setCell (by simp; omega) _).setCell (by simp; omega) _).setCell (by simp; omega) _⟩

end Go.Proofs.Ytoagcbamlnhkhaa
