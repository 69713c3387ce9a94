/- Bits of the unsigned kinds' numbers: what and, or, and-not do, how many ones. -/
import Derived.Test.YtekbamiaenbhjaaBase
namespace Go.Proofs.Ytekbamiaenbhjaa
open Go.Ex

instance {k:IntKind} {n:Int}:Decidable (w9 k n):=inferInstanceAs (Decidable (_∧_))

section
variable {k:IntKind} {x y:Int}
end

def b8E (n:Nat):Nat:=((List.range 8).map fun i=>(n.testBit i).toNat).sum
def b8W (m:Int):Int:=(b8E m.toNat:Int)

end Go.Proofs.Ytekbamiaenbhjaa
