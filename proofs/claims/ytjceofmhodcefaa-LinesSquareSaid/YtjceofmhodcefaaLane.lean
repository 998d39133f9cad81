/- Lanes: many small numbers packed in one, a step of all of them at once, and a test of all of them at once. Plain arithmetic. -/
namespace Go.Proofs.Ytjceofmhodcefaa.Rot

/-- 2^256, the room of a lane -/
def pack : List Nat → Nat
  | [] => 0
  | x :: l => x + 2 ^ 256 * pack l

/-- 2^128 times the cosine and the sine of a unit, rounded -/
def uC : Nat := 340282366920924066805512056100497561939
def uS : Nat := 98984128154162191825446416122235
/-- one unit further: 2^128 times the sine, and what the cosine lacks to 1 -/
def stepS (s d : Nat) : Nat := ((2 ^ 128 - d) * uS + s * uC) / 2 ^ 128
def stepD (s d : Nat) : Nat := (2 ^ 128 - uC) + (d * uC + s * uS) / 2 ^ 128
def it : Nat → Nat × Nat → Nat × Nat
  | 0, p => p
  | t + 1, p => (stepS (it t p).1 (it t p).2, stepD (it t p).1 (it t p).2)
def test (ad mf w1 bb v : Nat) : Bool := Nat.beq (Nat.land (Nat.add (Nat.land (Nat.add v ad) mf) w1) bb) bb
def all (l : List (Nat × Nat)) (k : Nat) : Nat := pack (l.map fun _ => k)

end Go.Proofs.Ytjceofmhodcefaa.Rot
