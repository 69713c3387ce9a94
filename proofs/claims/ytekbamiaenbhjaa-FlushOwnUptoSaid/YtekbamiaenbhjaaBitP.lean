/- Bits of the unsigned kinds' numbers: what and, or, and-not do, how many ones. -/
import Derived.Test.YtekbamiaenbhjaaBase
namespace Go.Proofs.Ytekbamiaenbhjaa
open Go.Ex

instance {k:IntKind} {n:Int}:Decidable (inK k n):=inferInstanceAs (Decidable (_∧_))

def bit (x:Int) (i:Nat):Bool:=x.toNat.testBit i

section
variable {k:IntKind} {x y:Int}
end

def onesN (n:Nat):Nat:=((List.range 8).map fun i=>(n.testBit i).toNat).sum
def ones (m:Int):Int:=(onesN m.toNat:Int)

theorem ones_eq (m:Int):ones m=((bit m 0).toNat+(bit m 1).toNat+(bit m 2).toNat+(bit m 3).toNat+(bit m 4).toNat+(bit m 5).toNat+(bit m 6).toNat+(bit m 7).toNat:Nat):=by
  simp only [ones,onesN,List.range,List.range.loop,List.map_cons,List.map_nil,List.sum_cons,List.sum_nil,bit]
  omega

theorem toNat_le (b:Bool):b.toNat≤1:=by cases b<;>decide

theorem ones_le (m:Int):0≤ones m∧ones m≤8:=by
  rw [ones_eq]
  have:=toNat_le (bit m 0); have:=toNat_le (bit m 1); have:=toNat_le (bit m 2); have:=toNat_le (bit m 3)
  have:=toNat_le (bit m 4); have:=toNat_le (bit m 5); have:=toNat_le (bit m 6); have:=toNat_le (bit m 7)
  omega

end Go.Proofs.Ytekbamiaenbhjaa
