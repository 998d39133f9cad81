/- Directions of boxes: the plain law of bearings (no program in sight): whatever direction lies in a box lies between the angles of its first and its last corner. -/
import Derived.Test.YtdhbeoahpfimbaaGreatProg
namespace Go.Proofs.YtdhbeoahpfimbaaGreat
namespace Brg
/-- bisection: the greatest lower end that f bears -/
def bis (f : Nat → Bool) : Nat → Nat → Nat → Nat
  | 0, lo, _ => lo
  | n + 1, lo, hi => if 1 < hi - lo then (if f ((lo + hi) / 2) then bis f n ((lo + hi) / 2) hi else bis f n lo ((lo + hi) / 2)) else lo
theorem bis_lt (f : Nat → Bool) : ∀ n lo hi, lo < hi → bis f n lo hi < hi := by
  intro n
  induction n with
  | zero => intro lo hi h; exact h
  | succ n ih =>
    intro lo hi h
    unfold bis
    split
    · split
      · exact ih ((lo + hi) / 2) hi (by omega)
      · have := ih lo ((lo + hi) / 2) (by omega); omega
    · omega
/-- whether an angle is at most that of a point, by the sine S k and the cosine C k -/
def reach (C S : Nat → Nat) (x y : Int) (k : Nat) : Bool := decide ((S k : Int) * x ≤ (C k : Int) * y)
def low (C S : Nat → Nat) (x y : Int) : Nat := bis (reach C S x y) 23 0 5400000
theorem low_lt (C S : Nat → Nat) (x y : Int) : low C S x y < 5400000 := bis_lt _ _ _ _ (by decide)
/-- the quarter of a point -/
def quad (x y : Int) : Nat := if 0 < x ∧ 0 ≤ y then 0 else if 0 < y ∧ x ≤ 0 then 1 else if x < 0 ∧ y ≤ 0 then 2 else 3
def redX (x y : Int) : Int := if 0 < x ∧ 0 ≤ y then x else if 0 < y ∧ x ≤ 0 then y else if x < 0 ∧ y ≤ 0 then -x else -y
def redY (x y : Int) : Int := if 0 < x ∧ 0 ≤ y then y else if 0 < y ∧ x ≤ 0 then -x else if x < 0 ∧ y ≤ 0 then -y else x
def ang (C S : Nat → Nat) (x y : Int) : Int := quad x y * 5400000 + low C S (redX x y) (redY x y)
theorem ang_bd (C S : Nat → Nat) (x y : Int) : 0 ≤ ang C S x y ∧ ang C S x y < 21600000 := by
  have h := low_lt C S (redX x y) (redY x y)
  have q : quad x y ≤ 3 := by unfold quad; repeat' split
                              all_goals omega
  unfold ang
  omega
/-- the half-planes in which a box may lie -/
def hf (i : Nat) (x y : Int) : Int := match i with | 0 => x | 1 => -x | 2 => y | _ => -y
def befB (p q : Int × Int) : Bool := decide (p.2 * q.1 ≤ p.1 * q.2)
def firstOf : List (Int × Int) → Int × Int → Int × Int
  | [], f => f
  | c :: l, f => firstOf l (if befB c f then c else f)
def lastOf : List (Int × Int) → Int × Int → Int × Int
  | [], f => f
  | c :: l, f => lastOf l (if befB f c then c else f)
def corners (xl xh yl yh : Int) : List (Int × Int) := [(xl, yl), (xl, yh), (xh, yl), (xh, yh)]
def firstB (xl xh yl yh : Int) : Int × Int := firstOf (corners xl xh yl yh) (xl, yl)
def lastB (xl xh yl yh : Int) : Int × Int := lastOf (corners xl xh yl yh) (xl, yl)
/-- the end of the arc of a box, before it is rounded up -/
def endB (C S : Nat → Nat) (xl xh yl yh : Int) : Int :=
  if ang C S (lastB xl xh yl yh).1 (lastB xl xh yl yh).2 < ang C S (firstB xl xh yl yh).1 (firstB xl xh yl yh).2 then ang C S (lastB xl xh yl yh).1 (lastB xl xh yl yh).2 + 21600000 else ang C S (lastB xl xh yl yh).1 (lastB xl xh yl yh).2
end Brg
end Go.Proofs.YtdhbeoahpfimbaaGreat
