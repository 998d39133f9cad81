/- The sines of the units up to an eighth of a turn, as one sequence of integers. Plain arithmetic. -/
import Derived.Test.YtjceofmhodcefaaLaneR
namespace Go.Proofs.Ytjceofmhodcefaa.Rot

/-- 2^128 times the sine of n units, and what the cosine lacks to 2^128 -/
def E (n : Nat) : Nat × Nat := it n (0, 0)
/-- the same as integers: sine and cosine -/
def eS (n : Nat) : Int := (E n).1
end Go.Proofs.Ytjceofmhodcefaa.Rot
