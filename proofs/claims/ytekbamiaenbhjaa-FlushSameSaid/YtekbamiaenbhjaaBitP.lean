/- Bits of the unsigned kinds' numbers: what and, or, and-not do, how many ones. -/
import Derived.Test.YtekbamiaenbhjaaBase
namespace Go.Proofs.Ytekbamiaenbhjaa
open Go.Ex

instance {k:IntKind} {n:Int}:Decidable (A4 k n):=inferInstanceAs (Decidable (_∧_))

def bit (x:Int) (i:Nat):Bool:=x.toNat.testBit i

section
variable {k:IntKind} {x y:Int}
theorem b5a:A4 k (p8 k x y):=W8 _ _

end

theorem u8_in {x:Int}:A4 .u8 x↔0≤x∧x≤255:=Iff.rfl

def b6s (n:Nat):Nat:=((List.range 8).map fun i=>(n.testBit i).toNat).sum
def a06 (m:Int):Int:=(b6s m.toNat:Int)

theorem b6V (m:Int):a06 m=((bit m 0).toNat+(bit m 1).toNat+(bit m 2).toNat+(bit m 3).toNat+(bit m 4).toNat+(bit m 5).toNat+(bit m 6).toNat+(bit m 7).toNat:Nat):=by
  simp only [a06,b6s,List.range,List.range.loop,List.map_cons,List.map_nil,List.sum_cons,List.sum_nil,bit]
  omega

theorem toNat_le (b:Bool):b.toNat≤1:=by cases b<;>decide

theorem b6U (m:Int):0≤a06 m∧a06 m≤8:=by
  rw [b6V]
  have:=toNat_le (bit m 0); have:=toNat_le (bit m 1); have:=toNat_le (bit m 2); have:=toNat_le (bit m 3)
  have:=toNat_le (bit m 4); have:=toNat_le (bit m 5); have:=toNat_le (bit m 6); have:=toNat_le (bit m 7)
  omega

end Go.Proofs.Ytekbamiaenbhjaa
