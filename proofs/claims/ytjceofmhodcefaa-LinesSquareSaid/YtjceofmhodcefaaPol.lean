/- Taylor's polynomials of sine and cosine in the number of units: they go on by a rotation, nearly; so the sequence of sines is near them. Plain arithmetic. -/
import Derived.Test.YtjceofmhodcefaaRotE
namespace Go.Proofs.Ytjceofmhodcefaa.Rot

/-- a polynomial's value, the least coefficient first -/
def ev (l : List Int) (n : Int) : Int := l.foldr (fun a r => a + n * r) 0
end Go.Proofs.Ytjceofmhodcefaa.Rot
