/- Directions of boxes: the plain law of bearings (no program in sight): whatever direction lies in a box lies between the angles of its first and its last corner. -/
import Derived.Test.YtdhbeoahpfimbaaGreatProg
namespace Go.Proofs.YtdhbeoahpfimbaaGreat
namespace Brg
/-- bisection: the greatest lower end that f bears -/
def bis (f : Nat → Bool) : Nat → Nat → Nat → Nat
  | 0, lo, _ => lo
  | n + 1, lo, hi => if 1 < hi - lo then (if f ((lo + hi) / 2) then bis f n ((lo + hi) / 2) hi else bis f n lo ((lo + hi) / 2)) else lo
theorem bis_bd (f : Nat → Bool) : ∀ n lo hi, lo ≤ hi → lo ≤ bis f n lo hi ∧ bis f n lo hi ≤ hi := by
  intro n
  induction n with
  | zero => intro lo hi h; exact ⟨Nat.le_refl _, h⟩
  | succ n ih =>
    intro lo hi h
    unfold bis
    split
    · split
      · have := ih ((lo + hi) / 2) hi (by omega); omega
      · have := ih lo ((lo + hi) / 2) (by omega); omega
    · omega
theorem bis_lt (f : Nat → Bool) : ∀ n lo hi, lo < hi → bis f n lo hi < hi := by
  intro n
  induction n with
  | zero => intro lo hi h; exact h
  | succ n ih =>
    intro lo hi h
    unfold bis
    split
    · split
      · exact ih ((lo + hi) / 2) hi (by omega)
      · have := ih lo ((lo + hi) / 2) (by omega); omega
    · omega
theorem bis_mono {f g : Nat → Bool} (h : ∀ k, f k = true → g k = true) : ∀ n lo hi, lo ≤ hi → bis f n lo hi ≤ bis g n lo hi := by
  intro n
  induction n with
  | zero => intro lo hi _; exact Nat.le_refl _
  | succ n ih =>
    intro lo hi hl
    unfold bis
    split
    · cases hf : f ((lo + hi) / 2)
      · cases hg : g ((lo + hi) / 2)
        · simp only [Bool.false_eq_true, if_false]; exact ih _ _ (by omega)
        · simp only [Bool.false_eq_true, if_false, if_true]
          have a := bis_bd f n lo ((lo + hi) / 2) (by omega)
          have b := bis_bd g n ((lo + hi) / 2) hi (by omega)
          omega
      · simp only [h _ hf, if_true]; exact ih _ _ (by omega)
    · exact Nat.le_refl _
/-- whether an angle is at most that of a point, by the sine S k and the cosine C k -/
def reach (C S : Nat → Nat) (x y : Int) (k : Nat) : Bool := decide ((S k : Int) * x ≤ (C k : Int) * y)
theorem reach_mono {C S : Nat → Nat} {x y x' y' : Int} {k : Nat} (hx : 0 < x) (hx' : 0 ≤ x') (h : y * x' ≤ x * y') (hr : reach C S x y k = true) : reach C S x' y' k = true := by
  unfold reach at *
  simp only [decide_eq_true_eq] at *
  have a : (S k : Int) * x * x' ≤ C k * y * x' := Int.mul_le_mul_of_nonneg_right hr hx'
  have b : (C k : Int) * (y * x') ≤ C k * (x * y') := Int.mul_le_mul_of_nonneg_left h (by omega)
  have e1 : (S k : Int) * x * x' = x * (S k * x') := by rw [Int.mul_comm (S k : Int) x, Int.mul_assoc]
  have e2 : (C k : Int) * (x * y') = x * (C k * y') := by rw [← Int.mul_assoc, Int.mul_comm (C k : Int) x, Int.mul_assoc]
  rw [Int.mul_assoc (C k : Int) y x'] at a
  rw [e1] at a
  rw [e2] at b
  exact Int.le_of_mul_le_mul_left (Int.le_trans a b) hx
def low (C S : Nat → Nat) (x y : Int) : Nat := bis (reach C S x y) 23 0 5400000
theorem low_lt (C S : Nat → Nat) (x y : Int) : low C S x y < 5400000 := bis_lt _ _ _ _ (by decide)
theorem low_mono {C S : Nat → Nat} {x y x' y' : Int} (hx : 0 < x) (hx' : 0 ≤ x') (h : y * x' ≤ x * y') : low C S x y ≤ low C S x' y' :=
  bis_mono (fun _ => reach_mono hx hx' h) _ _ _ (by decide)
/-- the quarter of a point -/
def quad (x y : Int) : Nat := if 0 < x ∧ 0 ≤ y then 0 else if 0 < y ∧ x ≤ 0 then 1 else if x < 0 ∧ y ≤ 0 then 2 else 3
def redX (x y : Int) : Int := if 0 < x ∧ 0 ≤ y then x else if 0 < y ∧ x ≤ 0 then y else if x < 0 ∧ y ≤ 0 then -x else -y
def redY (x y : Int) : Int := if 0 < x ∧ 0 ≤ y then y else if 0 < y ∧ x ≤ 0 then -x else if x < 0 ∧ y ≤ 0 then -y else x
def ang (C S : Nat → Nat) (x y : Int) : Int := quad x y * 5400000 + low C S (redX x y) (redY x y)
theorem ang_bd (C S : Nat → Nat) (x y : Int) : 0 ≤ ang C S x y ∧ ang C S x y < 21600000 := by
  have h := low_lt C S (redX x y) (redY x y)
  have q : quad x y ≤ 3 := by unfold quad; repeat' split
                              all_goals omega
  unfold ang
  omega
theorem ang0 {C S : Nat → Nat} {x y : Int} (h1 : 0 < x) (h2 : 0 ≤ y) : ang C S x y = low C S x y := by simp [ang, quad, redX, redY, h1, h2]
theorem ang1 {C S : Nat → Nat} {x y : Int} (h1 : 0 < y) (h2 : x ≤ 0) : ang C S x y = 5400000 + low C S y (-x) := by
  have a : ¬ (0 < x ∧ 0 ≤ y) := by omega
  simp only [ang, quad, redX, redY, if_neg a, if_pos (show 0 < y ∧ x ≤ 0 from ⟨h1, h2⟩)]
  omega
theorem ang2 {C S : Nat → Nat} {x y : Int} (h1 : x < 0) (h2 : y ≤ 0) : ang C S x y = 10800000 + low C S (-x) (-y) := by
  have a : ¬ (0 < x ∧ 0 ≤ y) := by omega
  have b : ¬ (0 < y ∧ x ≤ 0) := by omega
  simp only [ang, quad, redX, redY, if_neg a, if_neg b, if_pos (show x < 0 ∧ y ≤ 0 from ⟨h1, h2⟩)]
  omega
theorem ang3 {C S : Nat → Nat} {x y : Int} (h1 : y < 0) (h2 : 0 ≤ x) : ang C S x y = 16200000 + low C S (-y) x := by
  have a : ¬ (0 < x ∧ 0 ≤ y) := by omega
  have b : ¬ (0 < y ∧ x ≤ 0) := by omega
  have c : ¬ (x < 0 ∧ y ≤ 0) := by omega
  simp only [ang, quad, redX, redY, if_neg a, if_neg b, if_neg c]
  omega
/-- p comes before q, or at the same direction: for points of an open half-plane -/
def bef (px py qx qy : Int) : Prop := py * qx ≤ px * qy
theorem mul_np {a b : Int} (h : a ≤ 0) (k : 0 ≤ b) : a * b ≤ 0 := Int.mul_nonpos_of_nonpos_of_nonneg h k
/-- right: x > 0 -/
def keyR (C S : Nat → Nat) (x y : Int) : Int := if 0 ≤ y then ang C S x y + 21600000 else ang C S x y
theorem key_right {C S : Nat → Nat} {px py qx qy : Int} (hp : 0 < px) (hq : 0 < qx) (h : bef px py qx qy) : keyR C S px py ≤ keyR C S qx qy := by
  unfold keyR
  have bp := ang_bd C S px py
  have bq := ang_bd C S qx qy
  unfold bef at h
  by_cases hp2 : 0 ≤ py
  · by_cases hq2 : 0 ≤ qy
    · rw [if_pos hp2, if_pos hq2, ang0 hp hp2, ang0 hq hq2]
      have := low_mono (C := C) (S := S) hp (by omega : 0 ≤ qx) h
      omega
    · have a : 0 ≤ py * qx := Int.mul_nonneg hp2 (by omega)
      have b : px * qy < 0 := Int.mul_neg_of_pos_of_neg hp (by omega)
      omega
  · by_cases hq2 : 0 ≤ qy
    · rw [if_neg hp2, if_pos hq2]; omega
    · rw [if_neg hp2, if_neg hq2, ang3 (by omega) (by omega), ang3 (by omega) (by omega)]
      have := low_mono (C := C) (S := S) (x := -py) (y := px) (x' := -qy) (y' := qx) (by omega) (by omega) (by rw [Int.mul_neg, Int.neg_mul]; omega)
      omega
theorem key_left {C S : Nat → Nat} {px py qx qy : Int} (hp : px < 0) (hq : qx < 0) (h : bef px py qx qy) : ang C S px py ≤ ang C S qx qy := by
  unfold bef at h
  by_cases hp2 : 0 < py
  · by_cases hq2 : 0 < qy
    · rw [ang1 hp2 (by omega), ang1 hq2 (by omega)]
      have := low_mono (C := C) (S := S) (x := py) (y := -px) (x' := qy) (y' := -qx) (by omega) (by omega) (by rw [Int.neg_mul, Int.mul_neg]; omega)
      omega
    · rw [ang1 hp2 (by omega), ang2 hq (by omega)]
      have := low_lt C S py (-px)
      omega
  · by_cases hq2 : 0 < qy
    · have a : px * qy < 0 := Int.mul_neg_of_neg_of_pos hp hq2
      have b : 0 ≤ py * qx := Int.mul_nonneg_of_nonpos_of_nonpos (by omega) (by omega)
      omega
    · rw [ang2 hp (by omega), ang2 hq (by omega)]
      have := low_mono (C := C) (S := S) (x := -px) (y := -py) (x' := -qx) (y' := -qy) (by omega) (by omega) (by rw [Int.neg_mul_neg, Int.neg_mul_neg]; exact h)
      omega
theorem key_up {C S : Nat → Nat} {px py qx qy : Int} (hp : 0 < py) (hq : 0 < qy) (h : bef px py qx qy) : ang C S px py ≤ ang C S qx qy := by
  unfold bef at h
  by_cases hp2 : 0 < px
  · by_cases hq2 : 0 < qx
    · rw [ang0 hp2 (by omega), ang0 hq2 (by omega)]
      have := low_mono (C := C) (S := S) hp2 (by omega : 0 ≤ qx) h
      omega
    · rw [ang0 hp2 (by omega), ang1 hq (by omega)]
      have := low_lt C S px py
      omega
  · by_cases hq2 : 0 < qx
    · have a : px * qy ≤ 0 := mul_np (by omega) (by omega)
      have b : 0 < py * qx := Int.mul_pos hp hq2
      omega
    · rw [ang1 hp (by omega), ang1 hq (by omega)]
      have := low_mono (C := C) (S := S) (x := py) (y := -px) (x' := qy) (y' := -qx) (by omega) (by omega) (by rw [Int.neg_mul, Int.mul_neg]; omega)
      omega
theorem key_down {C S : Nat → Nat} {px py qx qy : Int} (hp : py < 0) (hq : qy < 0) (h : bef px py qx qy) : ang C S px py ≤ ang C S qx qy := by
  unfold bef at h
  by_cases hp2 : 0 ≤ px
  · by_cases hq2 : 0 ≤ qx
    · rw [ang3 hp hp2, ang3 hq hq2]
      have := low_mono (C := C) (S := S) (x := -py) (y := px) (x' := -qy) (y' := qx) (by omega) (by omega) (by rw [Int.mul_neg, Int.neg_mul]; omega)
      omega
    · have a : px * qy ≤ 0 := Int.mul_nonpos_of_nonneg_of_nonpos hp2 (by omega)
      have b : 0 < py * qx := Int.mul_pos_of_neg_of_neg hp (by omega)
      omega
  · by_cases hq2 : 0 ≤ qx
    · rw [ang2 (by omega) (by omega), ang3 hq hq2]
      have := low_lt C S (-px) (-py)
      omega
    · rw [ang2 (by omega) (by omega), ang2 (by omega) (by omega)]
      have := low_mono (C := C) (S := S) (x := -px) (y := -py) (x' := -qx) (y' := -qy) (by omega) (by omega) (by rw [Int.neg_mul_neg, Int.neg_mul_neg]; exact h)
      omega
/-- three points in a row: the angle of the middle one lies between -/
theorem ang_row {C S : Nat → Nat} {px py dx dy rx ry : Int} (h : (0 < px ∧ 0 < dx ∧ 0 < rx) ∨ (px < 0 ∧ dx < 0 ∧ rx < 0) ∨ (0 < py ∧ 0 < dy ∧ 0 < ry) ∨ (py < 0 ∧ dy < 0 ∧ ry < 0)) (h1 : bef px py dx dy) (h2 : bef dx dy rx ry) :
    (ang C S dx dy - ang C S px py) % 21600000 ≤ (if ang C S rx ry < ang C S px py then ang C S rx ry + 21600000 else ang C S rx ry) - ang C S px py := by
  have bp := ang_bd C S px py
  have bd := ang_bd C S dx dy
  have br := ang_bd C S rx ry
  rcases h with ⟨a, b, c⟩ | ⟨a, b, c⟩ | ⟨a, b, c⟩ | ⟨a, b, c⟩
  · have k1 := key_right (C := C) (S := S) a b h1
    have k2 := key_right (C := C) (S := S) b c h2
    unfold keyR at k1 k2
    have qp : py < 0 → 16200000 ≤ ang C S px py := fun h => by rw [ang3 h (by omega)]; omega
    have qd : dy < 0 → 16200000 ≤ ang C S dx dy := fun h => by rw [ang3 h (by omega)]; omega
    have qr : ry < 0 → 16200000 ≤ ang C S rx ry := fun h => by rw [ang3 h (by omega)]; omega
    have sp : 0 ≤ py → ang C S px py < 5400000 := fun h => by rw [ang0 a h]; have := low_lt C S px py; omega
    have sd : 0 ≤ dy → ang C S dx dy < 5400000 := fun h => by rw [ang0 b h]; have := low_lt C S dx dy; omega
    have sr : 0 ≤ ry → ang C S rx ry < 5400000 := fun h => by rw [ang0 c h]; have := low_lt C S rx ry; omega
    split at k1 <;> split at k1 <;> split at k2 <;> split <;> omega
  · have k1 := key_left (C := C) (S := S) a b h1
    have k2 := key_left (C := C) (S := S) b c h2
    split <;> omega
  · have k1 := key_up (C := C) (S := S) a b h1
    have k2 := key_up (C := C) (S := S) b c h2
    split <;> omega
  · have k1 := key_down (C := C) (S := S) a b h1
    have k2 := key_down (C := C) (S := S) b c h2
    split <;> omega
/-- the half-planes in which a box may lie -/
def hf (i : Nat) (x y : Int) : Int := match i with | 0 => x | 1 => -x | 2 => y | _ => -y
theorem bef_trans (i : Nat) {px py qx qy rx ry : Int} (hp : 0 < hf i px py) (hq : 0 < hf i qx qy) (hr : 0 < hf i rx ry) (h1 : bef px py qx qy) (h2 : bef qx qy rx ry) : bef px py rx ry := by
  unfold bef at *
  have a : 0 ≤ hf i px py * (qx * ry - qy * rx) := Int.mul_nonneg (by omega) (by omega)
  have b : 0 ≤ hf i rx ry * (px * qy - py * qx) := Int.mul_nonneg (by omega) (by omega)
  have c : hf i qx qy * (px * ry - py * rx) = hf i px py * (qx * ry - qy * rx) + hf i rx ry * (px * qy - py * qx) := by
    unfold hf
    split <;> simp only [Int.mul_sub, Int.neg_mul] <;> simp only [Int.mul_comm, Int.mul_left_comm] <;> omega
  have d : 0 ≤ px * ry - py * rx := by
    rcases Int.lt_or_le (px * ry - py * rx) 0 with h | h
    · have := Int.mul_neg_of_pos_of_neg hq h
      omega
    · exact h
  omega
theorem bef_total {px py qx qy : Int} (h : ¬ bef px py qx qy) : bef qx qy px py := by
  unfold bef at *
  rw [Int.mul_comm qy px, Int.mul_comm qx py]
  omega
def befB (p q : Int × Int) : Bool := decide (p.2 * q.1 ≤ p.1 * q.2)
theorem befB_iff (p q : Int × Int) : befB p q = true ↔ bef p.1 p.2 q.1 q.2 := by unfold befB bef; simp
def firstOf : List (Int × Int) → Int × Int → Int × Int
  | [], f => f
  | c :: l, f => firstOf l (if befB c f then c else f)
def lastOf : List (Int × Int) → Int × Int → Int × Int
  | [], f => f
  | c :: l, f => lastOf l (if befB f c then c else f)
theorem bef_refl (x y : Int) : bef x y x y := by unfold bef; rw [Int.mul_comm y x]; exact Int.le_refl _
theorem first_all (i : Nat) : ∀ (l : List (Int × Int)) (f : Int × Int) (S : List (Int × Int)), (∀ c ∈ l, 0 < hf i c.1 c.2) → (∀ c ∈ S, 0 < hf i c.1 c.2) → f ∈ S → (∀ c ∈ S, bef f.1 f.2 c.1 c.2) →
    (firstOf l f ∈ S ∨ firstOf l f ∈ l) ∧ (∀ c ∈ S, bef (firstOf l f).1 (firstOf l f).2 c.1 c.2) ∧ ∀ c ∈ l, bef (firstOf l f).1 (firstOf l f).2 c.1 c.2 := by
  intro l
  induction l with
  | nil => intro f S _ _ hf hS; exact ⟨.inl hf, hS, fun c h => by cases h⟩
  | cons c l ih =>
    intro f S hl hSp hfS hS
    have hc := hl c (by simp)
    have key : ∀ g : Int × Int, (g = c ∨ g = f) → (∀ x ∈ S, bef g.1 g.2 x.1 x.2) → bef g.1 g.2 c.1 c.2 → (firstOf l g ∈ S ∨ firstOf l g ∈ c :: l) ∧ (∀ c ∈ S, bef (firstOf l g).1 (firstOf l g).2 c.1 c.2) ∧ ∀ x ∈ c :: l, bef (firstOf l g).1 (firstOf l g).2 x.1 x.2 := by
      intro g hg h1 h2
      obtain ⟨a, b, d⟩ := ih g (c :: S) (fun x hx => hl x (by simp [hx])) (fun x hx => by rcases List.mem_cons.1 hx with rfl | hx; exact hc; exact hSp x hx) (by rcases hg with rfl | rfl; simp; simp [hfS]) (fun x hx => by rcases List.mem_cons.1 hx with rfl | hx; exact h2; exact h1 x hx)
      refine ⟨?_, fun x hx => b x (by simp [hx]), fun x hx => ?_⟩
      · rcases a with a | a
        · rcases List.mem_cons.1 a with a | a
          · exact .inr (by rw [a]; simp)
          · exact .inl a
        · exact .inr (by simp [a])
      · rcases List.mem_cons.1 hx with rfl | hx
        · exact b x (by simp)
        · exact d x hx
    unfold firstOf
    by_cases hb : befB c f = true
    · rw [if_pos hb]
      have hb' := (befB_iff c f).1 hb
      exact key c (.inl rfl) (fun x hx => bef_trans i hc (hSp f hfS) (hSp x hx) hb' (hS x hx)) (bef_refl _ _)
    · rw [if_neg hb]
      exact key f (.inr rfl) hS (bef_total fun h => hb ((befB_iff c f).2 h))
theorem last_all (i : Nat) : ∀ (l : List (Int × Int)) (f : Int × Int) (S : List (Int × Int)), (∀ c ∈ l, 0 < hf i c.1 c.2) → (∀ c ∈ S, 0 < hf i c.1 c.2) → f ∈ S → (∀ c ∈ S, bef c.1 c.2 f.1 f.2) →
    (lastOf l f ∈ S ∨ lastOf l f ∈ l) ∧ (∀ c ∈ S, bef c.1 c.2 (lastOf l f).1 (lastOf l f).2) ∧ ∀ c ∈ l, bef c.1 c.2 (lastOf l f).1 (lastOf l f).2 := by
  intro l
  induction l with
  | nil => intro f S _ _ hf hS; exact ⟨.inl hf, hS, fun c h => by cases h⟩
  | cons c l ih =>
    intro f S hl hSp hfS hS
    have hc := hl c (by simp)
    have key : ∀ g : Int × Int, (g = c ∨ g = f) → (∀ x ∈ S, bef x.1 x.2 g.1 g.2) → bef c.1 c.2 g.1 g.2 → (lastOf l g ∈ S ∨ lastOf l g ∈ c :: l) ∧ (∀ c ∈ S, bef c.1 c.2 (lastOf l g).1 (lastOf l g).2) ∧ ∀ x ∈ c :: l, bef x.1 x.2 (lastOf l g).1 (lastOf l g).2 := by
      intro g hg h1 h2
      obtain ⟨a, b, d⟩ := ih g (c :: S) (fun x hx => hl x (by simp [hx])) (fun x hx => by rcases List.mem_cons.1 hx with rfl | hx; exact hc; exact hSp x hx) (by rcases hg with rfl | rfl; simp; simp [hfS]) (fun x hx => by rcases List.mem_cons.1 hx with rfl | hx; exact h2; exact h1 x hx)
      refine ⟨?_, fun x hx => b x (by simp [hx]), fun x hx => ?_⟩
      · rcases a with a | a
        · rcases List.mem_cons.1 a with a | a
          · exact .inr (by rw [a]; simp)
          · exact .inl a
        · exact .inr (by simp [a])
      · rcases List.mem_cons.1 hx with rfl | hx
        · exact b x (by simp)
        · exact d x hx
    unfold lastOf
    by_cases hb : befB f c = true
    · rw [if_pos hb]
      have hb' := (befB_iff f c).1 hb
      exact key c (.inl rfl) (fun x hx => bef_trans i (hSp x hx) (hSp f hfS) hc (hS x hx) hb') (bef_refl _ _)
    · rw [if_neg hb]
      exact key f (.inr rfl) hS (bef_total fun h => hb ((befB_iff f c).2 h))
def corners (xl xh yl yh : Int) : List (Int × Int) := [(xl, yl), (xl, yh), (xh, yl), (xh, yh)]
def firstB (xl xh yl yh : Int) : Int × Int := firstOf (corners xl xh yl yh) (xl, yl)
def lastB (xl xh yl yh : Int) : Int × Int := lastOf (corners xl xh yl yh) (xl, yl)
/-- a linear form that is not negative at the corners is not negative in the box -/
theorem form_box {a b xl xh yl yh s t dx dy : Int} (hs : 0 < s) (ht : 0 < t) (h1 : s * xl ≤ t * dx) (h2 : t * dx ≤ s * xh) (h3 : s * yl ≤ t * dy) (h4 : t * dy ≤ s * yh)
    (c1 : 0 ≤ a * xl + b * yl) (c2 : 0 ≤ a * xl + b * yh) (c3 : 0 ≤ a * xh + b * yl) (c4 : 0 ≤ a * xh + b * yh) : 0 ≤ a * dx + b * dy := by
  have mono : ∀ {c u v : Int}, 0 ≤ c → u ≤ v → c * u ≤ c * v := fun h k => Int.mul_le_mul_of_nonneg_left k h
  have anti : ∀ {c u v : Int}, c ≤ 0 → u ≤ v → c * v ≤ c * u := fun h k => Int.mul_le_mul_of_nonpos_left h k
  have e : ∀ u v : Int, a * (s * u) + b * (s * v) = s * (a * u + b * v) := fun u v => by
    rw [Int.mul_add]
    simp only [Int.mul_left_comm]
  have k : 0 ≤ a * (t * dx) + b * (t * dy) := by
    rcases Int.lt_or_le a 0 with ha | ha <;> rcases Int.lt_or_le b 0 with hb | hb
    · have p := anti (Int.le_of_lt ha) h2; have q := anti (Int.le_of_lt hb) h4
      have r := Int.mul_nonneg (Int.le_of_lt hs) c4; have := e xh yh; omega
    · have p := anti (Int.le_of_lt ha) h2; have q := mono hb h3
      have r := Int.mul_nonneg (Int.le_of_lt hs) c3; have := e xh yl; omega
    · have p := mono ha h1; have q := anti (Int.le_of_lt hb) h4
      have r := Int.mul_nonneg (Int.le_of_lt hs) c2; have := e xl yh; omega
    · have p := mono ha h1; have q := mono hb h3
      have r := Int.mul_nonneg (Int.le_of_lt hs) c1; have := e xl yl; omega
  have f : a * (t * dx) + b * (t * dy) = t * (a * dx + b * dy) := by
    rw [Int.mul_add]
    simp only [Int.mul_left_comm]
  rw [f] at k
  rcases Int.lt_or_le (a * dx + b * dy) 0 with h | h
  · have := Int.mul_neg_of_pos_of_neg ht h
    omega
  · exact h
/-- the end of the arc of a box, before it is rounded up -/
def endB (C S : Nat → Nat) (xl xh yl yh : Int) : Int :=
  if ang C S (lastB xl xh yl yh).1 (lastB xl xh yl yh).2 < ang C S (firstB xl xh yl yh).1 (firstB xl xh yl yh).2 then ang C S (lastB xl xh yl yh).1 (lastB xl xh yl yh).2 + 21600000 else ang C S (lastB xl xh yl yh).1 (lastB xl xh yl yh).2
theorem box_has (C S : Nat → Nat) {xl xh yl yh s t dx dy : Int} (hx : xl ≤ xh) (hy : yl ≤ yh) (ho : ¬ (xl ≤ 0 ∧ 0 ≤ xh ∧ yl ≤ 0 ∧ 0 ≤ yh)) (hs : 0 < s) (ht : 0 < t) (h1 : s * xl ≤ t * dx) (h2 : t * dx ≤ s * xh) (h3 : s * yl ≤ t * dy) (h4 : t * dy ≤ s * yh) :
    (ang C S dx dy - ang C S (firstB xl xh yl yh).1 (firstB xl xh yl yh).2) % 21600000 ≤ endB C S xl xh yl yh - ang C S (firstB xl xh yl yh).1 (firstB xl xh yl yh).2 := by
  obtain ⟨i, hi⟩ : ∃ i, ∀ c ∈ corners xl xh yl yh, 0 < hf i c.1 c.2 := by
    have : 0 < xl ∨ xh < 0 ∨ 0 < yl ∨ yh < 0 := by omega
    rcases this with h | h | h | h
    · exact ⟨0, by intro c hc; simp [corners] at hc; unfold hf; rcases hc with rfl | rfl | rfl | rfl <;> simp only <;> omega⟩
    · exact ⟨1, by intro c hc; simp [corners] at hc; unfold hf; rcases hc with rfl | rfl | rfl | rfl <;> simp only <;> omega⟩
    · exact ⟨2, by intro c hc; simp [corners] at hc; unfold hf; rcases hc with rfl | rfl | rfl | rfl <;> simp only <;> omega⟩
    · exact ⟨3, by intro c hc; simp [corners] at hc; unfold hf; rcases hc with rfl | rfl | rfl | rfl <;> simp only <;> omega⟩
  have m1 : (xl, yl) ∈ corners xl xh yl yh := by simp [corners]
  have m2 : (xl, yh) ∈ corners xl xh yl yh := by simp [corners]
  have m3 : (xh, yl) ∈ corners xl xh yl yh := by simp [corners]
  have m4 : (xh, yh) ∈ corners xl xh yl yh := by simp [corners]
  have one : ∀ c ∈ [((xl, yl) : Int × Int)], 0 < hf i c.1 c.2 := fun c hc => by simp at hc; subst hc; exact hi _ m1
  obtain ⟨f1, _, f3⟩ := first_all i (corners xl xh yl yh) (xl, yl) [(xl, yl)] hi one (by simp) (fun c hc => by simp at hc; subst hc; exact bef_refl _ _)
  obtain ⟨l1, _, l3⟩ := last_all i (corners xl xh yl yh) (xl, yl) [(xl, yl)] hi one (by simp) (fun c hc => by simp at hc; subst hc; exact bef_refl _ _)
  have hF : 0 < hf i (firstB xl xh yl yh).1 (firstB xl xh yl yh).2 := by rcases f1 with h | h; exact one _ h; exact hi _ h
  have hL : 0 < hf i (lastB xl xh yl yh).1 (lastB xl xh yl yh).2 := by rcases l1 with h | h; exact one _ h; exact hi _ h
  have f3' : ∀ c ∈ corners xl xh yl yh, bef (firstB xl xh yl yh).1 (firstB xl xh yl yh).2 c.1 c.2 := f3
  have l3' : ∀ c ∈ corners xl xh yl yh, bef c.1 c.2 (lastB xl xh yl yh).1 (lastB xl xh yl yh).2 := l3
  have F : ∀ c ∈ corners xl xh yl yh, 0 ≤ (-(firstB xl xh yl yh).2) * c.1 + (firstB xl xh yl yh).1 * c.2 := fun c hc => by
    have := f3' c hc; unfold bef at this; rw [Int.neg_mul]; omega
  have L : ∀ c ∈ corners xl xh yl yh, 0 ≤ (lastB xl xh yl yh).2 * c.1 + (-(lastB xl xh yl yh).1) * c.2 := fun c hc => by
    have := l3' c hc; unfold bef at this; rw [Int.neg_mul, Int.mul_comm (lastB xl xh yl yh).2, Int.mul_comm (lastB xl xh yl yh).1]; omega
  have bF := form_box hs ht h1 h2 h3 h4 (F _ m1) (F _ m2) (F _ m3) (F _ m4)
  have bL := form_box hs ht h1 h2 h3 h4 (L _ m1) (L _ m2) (L _ m3) (L _ m4)
  have hd : 0 < hf i dx dy := by
    have pos : ∀ {u v : Int}, 0 < u → s * u ≤ t * v → 0 < v := fun {u v} hu h => by
      rcases Int.lt_or_le 0 v with k | k
      · exact k
      · have a := Int.mul_pos hs hu
        have b := Int.mul_nonpos_of_nonneg_of_nonpos (Int.le_of_lt ht) k
        omega
    have g1 := hi _ m1
    have g4 := hi _ m4
    unfold hf at *
    split at g1
    · exact pos g1 h1
    · simp only at g4 ⊢; exact pos (u := -xh) (v := -dx) g4 (by rw [Int.mul_neg, Int.mul_neg]; omega)
    · exact pos g1 h3
    · simp only at g4 ⊢; exact pos (u := -yh) (v := -dy) g4 (by rw [Int.mul_neg, Int.mul_neg]; omega)
  unfold endB
  refine ang_row ?_ ?_ ?_
  · unfold hf at hF hL hd
    split at hF
    · exact .inl ⟨hF, hd, hL⟩
    · simp only at hL hd; exact .inr (.inl ⟨by omega, by omega, by omega⟩)
    · simp only at hL hd; exact .inr (.inr (.inl ⟨hF, hd, hL⟩))
    · rename_i n0 n1 n2
      split at hd
      · exact absurd rfl n0
      · exact absurd rfl n1
      · exact absurd rfl n2
      · split at hL
        · exact absurd rfl n0
        · exact absurd rfl n1
        · exact absurd rfl n2
        · exact .inr (.inr (.inr ⟨by omega, by omega, by omega⟩))
  · unfold bef; rw [Int.neg_mul] at bF; omega
  · unfold bef; rw [Int.neg_mul] at bL; rw [Int.mul_comm dy, Int.mul_comm dx]; omega
/-- two arcs with a direction in common agree -/
theorem agree_of {a1 a2 b1 b2 D : Int} (h1 : (D - a1) % 21600000 ≤ a2 - a1) (h2 : (D - b1) % 21600000 ≤ b2 - b1) : (b1 - a1) % 21600000 ≤ a2 - a1 ∨ (a1 - b1) % 21600000 ≤ b2 - b1 := by omega
end Brg
end Go.Proofs.YtdhbeoahpfimbaaGreat
