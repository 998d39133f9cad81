/- Lanes: many small numbers packed in one, a step of all of them at once, and a test of all of them at once. Plain arithmetic. -/
namespace Go.Proofs.Ytoagcbamlnhkhaa.Rot

/-- 2^256, the room of a lane -/
def pack : List Nat → Nat
  | [] => 0
  | x :: l => x + 2 ^ 256 * pack l

theorem pk_add {α : Type} (f g : α → Nat) (l : List α) : pack (l.map f) + pack (l.map g) = pack (l.map fun i => f i + g i) := by
  induction l with
  | nil => rfl
  | cons x l ih => simp only [List.map_cons, pack]; rw [← ih, Nat.mul_add]; omega
theorem pk_mul {α : Type} (f : α → Nat) (k : Nat) (l : List α) : pack (l.map f) * k = pack (l.map fun i => f i * k) := by
  induction l with
  | nil => simp [pack]
  | cons x l ih => simp only [List.map_cons, pack]; rw [← ih, Nat.add_mul, Nat.mul_assoc]
theorem pk_congr {α : Type} {f g : α → Nat} {l : List α} (h : ∀ i ∈ l, f i = g i) : pack (l.map f) = pack (l.map g) := by
  rw [List.map_congr_left h]
theorem pk_sub {α : Type} (f g : α → Nat) (l : List α) (h : ∀ i ∈ l, g i ≤ f i) : pack (l.map f) - pack (l.map g) = pack (l.map fun i => f i - g i) := by
  have e : pack (l.map f) = pack (l.map fun i => f i - g i) + pack (l.map g) := by
    rw [pk_add]; exact pk_congr fun i hi => (Nat.sub_add_cancel (h i hi)).symm
  omega
theorem and_split (x y a b : Nat) (hx : x < 2 ^ 256) (ha : a < 2 ^ 256) : (x + 2 ^ 256 * y) &&& (a + 2 ^ 256 * b) = (x &&& a) + 2 ^ 256 * (y &&& b) := by
  have hxa : x &&& a < 2 ^ 256 := Nat.lt_of_le_of_lt Nat.and_le_left hx
  apply Nat.eq_of_testBit_eq
  intro j
  rw [Nat.testBit_and, Nat.add_comm x, Nat.add_comm a, Nat.add_comm (x &&& a), Nat.testBit_two_pow_mul_add _ hx, Nat.testBit_two_pow_mul_add _ ha, Nat.testBit_two_pow_mul_add _ hxa]
  split
  · rw [Nat.testBit_and]
  · rw [Nat.testBit_and]
theorem pk_and {α : Type} (f : α → Nat) (m : Nat) (l : List α) (hm : m < 2 ^ 256) (h : ∀ i ∈ l, f i < 2 ^ 256) : pack (l.map f) &&& pack (l.map fun _ => m) = pack (l.map fun i => f i &&& m) := by
  induction l with
  | nil => simp [pack]
  | cons x l ih =>
    simp only [List.map_cons, pack]
    rw [and_split _ _ _ _ (h x (List.mem_cons_self ..)) hm, ih fun i hi => h i (List.mem_cons_of_mem _ hi)]
theorem pk_shift {α : Type} (f : α → Nat) (l : List α) (h : ∀ i ∈ l, f i < 2 ^ 256) : (pack (l.map f) >>> 128) &&& pack (l.map fun _ => 2 ^ 128 - 1) = pack (l.map fun i => f i / 2 ^ 128) := by
  induction l with
  | nil => simp [pack]
  | cons x l ih =>
    have hx := h x (List.mem_cons_self ..)
    simp only [List.map_cons, pack]
    rw [← ih fun i hi => h i (List.mem_cons_of_mem _ hi)]
    generalize pack (l.map f) = y
    generalize (pack (l.map fun _ => 2 ^ 128 - 1)) = b
    generalize f x = v at *
    have e : (v + 2 ^ 256 * y) >>> 128 = (v / 2 ^ 128 + 2 ^ 128 * (y % 2 ^ 128)) + 2 ^ 256 * (y >>> 128) := by
      rw [Nat.shiftRight_eq_div_pow, Nat.shiftRight_eq_div_pow]; omega
    have k : v / 2 ^ 128 + 2 ^ 128 * (y % 2 ^ 128) < 2 ^ 256 := by omega
    rw [e, and_split _ _ _ _ k (by omega), Nat.and_two_pow_sub_one_eq_mod]
    congr 1
    omega
theorem pk_inj {α : Type} (f g : α → Nat) (l : List α) (hf : ∀ i ∈ l, f i < 2 ^ 256) (hg : ∀ i ∈ l, g i < 2 ^ 256) (h : pack (l.map f) = pack (l.map g)) : ∀ i ∈ l, f i = g i := by
  induction l with
  | nil => intro i hi; cases hi
  | cons x l ih =>
    simp only [List.map_cons, pack] at h
    have a := hf x (List.mem_cons_self ..)
    have b := hg x (List.mem_cons_self ..)
    have e : f x = g x ∧ pack (l.map f) = pack (l.map g) := by omega
    intro i hi
    rcases List.mem_cons.1 hi with rfl | hi
    · exact e.1
    · exact ih (fun i hi => hf i (List.mem_cons_of_mem _ hi)) (fun i hi => hg i (List.mem_cons_of_mem _ hi)) e.2 i hi

/-- 2^128 times the cosine and the sine of a unit, rounded -/
def uC : Nat := 340282366920924066805512056100497561939
def uS : Nat := 98984128154162191825446416122235
/-- one unit further: 2^128 times the sine, and what the cosine lacks to 1 -/
def stepS (s d : Nat) : Nat := ((2 ^ 128 - d) * uS + s * uC) / 2 ^ 128
def stepD (s d : Nat) : Nat := (2 ^ 128 - uC) + (d * uC + s * uS) / 2 ^ 128
def it : Nat → Nat × Nat → Nat × Nat
  | 0, p => p
  | t + 1, p => (stepS (it t p).1 (it t p).2, stepD (it t p).1 (it t p).2)
/-- far from the multiples of 2^98 -/
def good (v : Nat) : Prop := 2 ^ 77 ≤ (v + 2 ^ 76) % 2 ^ 98

theorem it_add (a b : Nat) (p : Nat × Nat) : it (a + b) p = it b (it a p) := by
  induction b with
  | zero => rfl
  | succ b ih => rw [← Nat.add_assoc]; simp only [it, ih]

/-- bounds that hold over a lane -/
def roomy (p : Nat × Nat) : Prop := p.1 ≤ 2 ^ 127 + 2 ^ 126 ∧ p.2 ≤ 2 ^ 126 + 2 ^ 124
theorem step_bd (s d a b : Nat) (hs : s ≤ a) (hd : d ≤ b) (ha : a ≤ 2 ^ 128) : stepS s d ≤ a + uS ∧ stepD s d ≤ b + (2 ^ 128 - uC) + uS := by
  unfold stepS stepD uC uS
  constructor
  · have h : (2 ^ 128 - d) * 98984128154162191825446416122235 ≤ 2 ^ 128 * 98984128154162191825446416122235 := Nat.mul_le_mul_right _ (by omega)
    omega
  · omega
theorem it_bd (t : Nat) (p : Nat × Nat) (ht : t ≤ 45000) (hp : roomy p) : (it t p).1 ≤ 2 ^ 127 + 2 ^ 126 + t * uS ∧ (it t p).2 ≤ 2 ^ 126 + 2 ^ 124 + t * (2 ^ 128 - uC + uS) := by
  induction t with
  | zero => unfold roomy at hp; simp only [it]; omega
  | succ t ih =>
    have h := ih (by omega)
    have k := step_bd _ _ _ _ h.1 h.2 (by unfold uS; omega)
    simp only [it, Nat.succ_mul]
    omega
theorem it_lt (t : Nat) (p : Nat × Nat) (ht : t ≤ 45000) (hp : roomy p) : (it t p).1 < 2 ^ 127 + 2 ^ 126 + 2 ^ 125 ∧ (it t p).2 < 2 ^ 127 := by
  have h := it_bd t p ht hp
  have a : t * uS ≤ 45000 * uS := Nat.mul_le_mul_right _ ht
  have b : t * (2 ^ 128 - uC + uS) ≤ 45000 * (2 ^ 128 - uC + uS) := Nat.mul_le_mul_right _ ht
  have c : 45000 * uS < 2 ^ 125 := by decide
  have d : 45000 * (2 ^ 128 - uC + uS) < 2 ^ 125 := by decide
  omega

def force (n : Nat) (f : Nat → Bool) : Bool := match n with
  | 0 => f 0
  | k + 1 => f (k + 1)
theorem force_eq (n : Nat) (f : Nat → Bool) : force n f = f n := by cases n <;> rfl
def test (ad mf w1 bb v : Nat) : Bool := Nat.beq (Nat.land (Nat.add (Nat.land (Nat.add v ad) mf) w1) bb) bb
def runs (p mk dO ad mf w1 bb s1 d1 : Nat) : Nat → Nat → Nat → Bool
  | 0, s, d => and (Nat.beq s s1) (Nat.beq d d1)
  | k + 1, s, d => and (test ad mf w1 bb s) (and (test ad mf w1 bb d)
      (force (Nat.land (Nat.shiftRight (Nat.add (Nat.mul (Nat.sub p d) uS) (Nat.mul s uC)) 128) mk) fun s' =>
       force (Nat.add dO (Nat.land (Nat.shiftRight (Nat.add (Nat.mul d uC) (Nat.mul s uS)) 128) mk)) fun d' => runs p mk dO ad mf w1 bb s1 d1 k s' d'))

/-- the packed numbers are those of the lanes after t steps -/
def isAt (l : List (Nat × Nat)) (t s d : Nat) : Prop := s = pack (l.map fun q => (it t q).1) ∧ d = pack (l.map fun q => (it t q).2)
def all (l : List (Nat × Nat)) (k : Nat) : Nat := pack (l.map fun _ => k)

theorem test_ok {α : Type} (f : α → Nat) (l : List α) (h : ∀ i ∈ l, f i < 2 ^ 128)
    (ht : test (pack (l.map fun _ => 2 ^ 76)) (pack (l.map fun _ => 2 ^ 98 - 1)) (pack (l.map fun _ => 2 ^ 98 - 2 ^ 77)) (pack (l.map fun _ => 2 ^ 98)) (pack (l.map f)) = true) : ∀ i ∈ l, good (f i) := by
  have e := Nat.eq_of_beq_eq_true ht
  change ((pack (l.map f) + pack (l.map fun _ => 2 ^ 76)) &&& pack (l.map fun _ => 2 ^ 98 - 1)) + pack (l.map fun _ => 2 ^ 98 - 2 ^ 77) &&& pack (l.map fun _ => 2 ^ 98) = _ at e
  rw [pk_add, pk_and _ _ _ (by decide) (fun i hi => by have := h i hi; omega), pk_add, pk_and _ _ _ (by decide) (fun i hi => by
    have : (f i + 2 ^ 76) &&& (2 ^ 98 - 1) ≤ 2 ^ 98 - 1 := Nat.and_le_right
    omega)] at e
  have k := pk_inj _ _ _ (fun i _ => Nat.lt_of_le_of_lt Nat.and_le_right (by decide)) (fun i _ => by decide) e
  intro i hi
  have := k i hi
  simp only [Nat.and_two_pow_sub_one_eq_mod] at this
  unfold good
  apply Decidable.byContradiction
  intro hn
  have hl : (f i + 2 ^ 76) % 2 ^ 98 + (2 ^ 98 - 2 ^ 77) < 2 ^ 98 := by omega
  have e0 := congrArg (fun v => Nat.testBit v 98) this
  simp only [Nat.testBit_and, Nat.testBit_lt_two_pow hl, Bool.false_and, Nat.testBit_two_pow_self] at e0
  cases e0

theorem runs_ok (l : List (Nat × Nat)) (hl : ∀ q ∈ l, roomy q) (s1 d1 : Nat) (k : Nat) : ∀ (t s d : Nat), isAt l t s d → t + k ≤ 45000 →
    runs (all l (2 ^ 128)) (all l (2 ^ 128 - 1)) (all l (2 ^ 128 - uC)) (all l (2 ^ 76)) (all l (2 ^ 98 - 1)) (all l (2 ^ 98 - 2 ^ 77)) (all l (2 ^ 98)) s1 d1 k s d = true →
    isAt l (t + k) s1 d1 ∧ ∀ j, t ≤ j → j < t + k → ∀ q ∈ l, good (it j q).1 ∧ good (it j q).2 := by
  induction k with
  | zero =>
    intro t s d h ht hr
    simp only [runs, Bool.and_eq_true] at hr
    have a := Nat.eq_of_beq_eq_true hr.1
    have b := Nat.eq_of_beq_eq_true hr.2
    subst a b
    exact ⟨h, fun j h1 h2 => by omega⟩
  | succ k ih =>
    intro t s d h ht hr
    simp only [runs, Bool.and_eq_true, force_eq] at hr
    obtain ⟨g1, g2, hr⟩ := hr
    obtain ⟨hs, hd⟩ := h
    have bd : ∀ q ∈ l, (it t q).1 < 2 ^ 127 + 2 ^ 126 + 2 ^ 125 ∧ (it t q).2 < 2 ^ 127 := fun q hq => it_lt t q (by omega) (hl q hq)
    rw [hs] at g1
    rw [hd] at g2
    have t1 := test_ok _ l (fun q hq => by have := (bd q hq).1; omega) g1
    have t2 := test_ok _ l (fun q hq => by have := (bd q hq).2; omega) g2
    have es : Nat.land (Nat.shiftRight (Nat.add (Nat.mul (Nat.sub (all l (2 ^ 128)) d) uS) (Nat.mul s uC)) 128) (all l (2 ^ 128 - 1)) = pack (l.map fun q => (it (t + 1) q).1) := by
      show (((all l (2 ^ 128) - d) * uS + s * uC) >>> 128) &&& all l (2 ^ 128 - 1) = _
      unfold all
      rw [hs, hd, pk_sub _ _ _ (fun q hq => by have := (bd q hq).2; omega), pk_mul, pk_mul, pk_add, pk_shift _ _ (fun q hq => by
        have := bd q hq
        have h1 : (2 ^ 128 - (it t q).2) * uS ≤ 2 ^ 128 * uS := Nat.mul_le_mul_right _ (by omega)
        unfold uS uC at *
        omega)]
      rfl
    have ed : Nat.add (all l (2 ^ 128 - uC)) (Nat.land (Nat.shiftRight (Nat.add (Nat.mul d uC) (Nat.mul s uS)) 128) (all l (2 ^ 128 - 1))) = pack (l.map fun q => (it (t + 1) q).2) := by
      show all l (2 ^ 128 - uC) + (((d * uC + s * uS) >>> 128) &&& all l (2 ^ 128 - 1)) = _
      unfold all
      rw [hs, hd, pk_mul, pk_mul, pk_add, pk_shift _ _ (fun q hq => by
        have := bd q hq
        unfold uS uC at *
        omega), pk_add]
      rfl
    rw [es, ed] at hr
    have r := ih (t + 1) _ _ ⟨rfl, rfl⟩ (by omega) hr
    refine ⟨by rw [show t + (k + 1) = t + 1 + k by omega]; exact r.1, fun j h1 h2 q hq => ?_⟩
    by_cases e : j = t
    · subst e; exact ⟨t1 q hq, t2 q hq⟩
    · exact r.2 j (by omega) (by omega) q hq

end Go.Proofs.Ytoagcbamlnhkhaa.Rot
