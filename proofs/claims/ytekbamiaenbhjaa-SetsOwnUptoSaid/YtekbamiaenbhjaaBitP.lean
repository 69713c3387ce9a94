/- Bits of the unsigned kinds' numbers: what and, or, and-not do, how many ones. -/
import Derived.Test.YtekbamiaenbhjaaBase
namespace Go.Proofs.Ytekbamiaenbhjaa
open Go.Ex

instance {k:IntKind} {n:Int}:Decidable (u7 k n):=inferInstanceAs (Decidable (_∧_))

def bit (x:Int) (i:Nat):Bool:=x.toNat.testBit i

section
variable {k:IntKind} {x y:Int}
theorem b1g (hk:k.signed=false):u7 k x↔0≤x∧x<2^k.bits:=by
  cases k<;>simp [IntKind.signed] at hk<;>simp [u7,IntKind.min,IntKind.max,IntKind.signed,IntKind.bits]<;>omega

theorem c3Z (hk:k.signed=false) (b:BitVec k.bits):k.wrap (b.toNat:Int)=(b.toNat:Int):=by
  refine J8 ((b1g hk).2 ⟨Int.natCast_nonneg _,?_⟩)
  have:=b.isLt
  exact_mod_cast this

theorem b8F (hk:k.signed=false) (hx:u7 k x) (i:Nat):(BitVec.ofInt k.bits x).getLsbD i=bit x i:=by
  obtain ⟨h0,h1⟩:=(b1g hk).1 hx
  obtain ⟨n,rfl⟩:=Int.eq_ofNat_of_zero_le h0
  have hn:n<2^k.bits:=by exact_mod_cast h1
  rw [BitVec.ofInt_natCast,BitVec.getLsbD_ofNat]
  simp only [bit,Int.toNat_natCast]
  by_cases hi:i<k.bits
  · simp [hi]
  · have:n.testBit i=false:=Nat.testBit_lt_two_pow (Nat.lt_of_lt_of_le hn (Nat.pow_le_pow_right (by omega) (by omega)))
    simp [this]

theorem c1N (hk:k.signed=false) (hx:u7 k x) {i:Nat} (hi:k.bits≤i):bit x i=false:=by
  obtain ⟨h0,h1⟩:=(b1g hk).1 hx
  obtain ⟨n,rfl⟩:=Int.eq_ofNat_of_zero_le h0
  have hn:n<2^k.bits:=by exact_mod_cast h1
  exact Nat.testBit_lt_two_pow (Nat.lt_of_lt_of_le hn (Nat.pow_le_pow_right (by omega) hi))

theorem c3p (hk:k.signed=false) (hx:u7 k x) (hy:u7 k y) (i:Nat):bit (I5 k x y) i=(bit x i || bit y i):=by
  rw [I5,c3Z hk,bit,Int.toNat_natCast,BitVec.testBit_toNat,BitVec.getLsbD_or,b8F hk hx,b8F hk hy]

end

theorem u8s:IntKind.u8.signed=false:=rfl
theorem u8_in {x:Int}:u7 .u8 x↔0≤x∧x≤255:=Iff.rfl

def V8 (n:Nat):Nat:=((List.range 8).map fun i=>(n.testBit i).toNat).sum
def R5 (m:Int):Int:=(V8 m.toNat:Int)

theorem a5G (m:Int):R5 m=((bit m 0).toNat+(bit m 1).toNat+(bit m 2).toNat+(bit m 3).toNat+(bit m 4).toNat+(bit m 5).toNat+(bit m 6).toNat+(bit m 7).toNat:Nat):=by
  simp only [R5,V8,List.range,List.range.loop,List.map_cons,List.map_nil,List.sum_cons,List.sum_nil,bit]
  omega

theorem toNat_le (b:Bool):b.toNat≤1:=by cases b<;>decide

theorem c1z (m:Int):0≤R5 m∧R5 m≤8:=by
  rw [a5G]
  have:=toNat_le (bit m 0); have:=toNat_le (bit m 1); have:=toNat_le (bit m 2); have:=toNat_le (bit m 3)
  have:=toNat_le (bit m 4); have:=toNat_le (bit m 5); have:=toNat_le (bit m 6); have:=toNat_le (bit m 7)
  omega

theorem b9w {a b c:Int} (h:∀ i,(bit a i=true→bit c i=true)∧(bit b i=true→bit c i=true)∧(bit a i=true→bit b i=false)):R5 a+R5 b≤R5 c:=by
  have hi:∀ i,(bit a i).toNat+(bit b i).toNat≤(bit c i).toNat:=by
    intro i
    have:=h i
    revert this
    cases bit a i<;>cases bit b i<;>cases bit c i<;>simp
  rw [a5G,a5G,a5G]
  have:=hi 0; have:=hi 1; have:=hi 2; have:=hi 3; have:=hi 4; have:=hi 5; have:=hi 6; have:=hi 7
  omega

end Go.Proofs.Ytekbamiaenbhjaa
