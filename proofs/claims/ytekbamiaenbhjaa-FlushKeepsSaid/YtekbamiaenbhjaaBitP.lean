/- Bits of the unsigned kinds' numbers: what and, or, and-not do, how many ones. -/
import Derived.Test.YtekbamiaenbhjaaBase
namespace Go.Proofs.Ytekbamiaenbhjaa
open Go.Ex

instance {k:IntKind} {n:Int}:Decidable (inK k n):=inferInstanceAs (Decidable (_∧_))

def bit (x:Int) (i:Nat):Bool:=x.toNat.testBit i

section
variable {k:IntKind} {x y:Int}
theorem inK_un (hk:k.signed=false):inK k x↔0≤x∧x<2^k.bits:=by
  cases k<;>simp [IntKind.signed] at hk<;>simp [inK,IntKind.min,IntKind.max,IntKind.signed,IntKind.bits]<;>omega

theorem bv_in (hk:k.signed=false) (b:BitVec k.bits):k.wrap (b.toNat:Int)=(b.toNat:Int):=by
  refine wrap_same ((inK_un hk).2 ⟨Int.natCast_nonneg _,?_⟩)
  have:=b.isLt
  exact_mod_cast this

theorem bv_bit (hk:k.signed=false) (hx:inK k x) (i:Nat):(BitVec.ofInt k.bits x).getLsbD i=bit x i:=by
  obtain ⟨h0,h1⟩:=(inK_un hk).1 hx
  obtain ⟨n,rfl⟩:=Int.eq_ofNat_of_zero_le h0
  have hn:n<2^k.bits:=by exact_mod_cast h1
  rw [BitVec.ofInt_natCast,BitVec.getLsbD_ofNat]
  simp only [bit,Int.toNat_natCast]
  by_cases hi:i<k.bits
  · simp [hi]
  · have:n.testBit i=false:=Nat.testBit_lt_two_pow (Nat.lt_of_lt_of_le hn (Nat.pow_le_pow_right (by omega) (by omega)))
    simp [this]

theorem bit_out (hk:k.signed=false) (hx:inK k x) {i:Nat} (hi:k.bits≤i):bit x i=false:=by
  obtain ⟨h0,h1⟩:=(inK_un hk).1 hx
  obtain ⟨n,rfl⟩:=Int.eq_ofNat_of_zero_le h0
  have hn:n<2^k.bits:=by exact_mod_cast h1
  exact Nat.testBit_lt_two_pow (Nat.lt_of_lt_of_le hn (Nat.pow_le_pow_right (by omega) hi))

theorem bit_andNot (hk:k.signed=false) (hx:inK k x) (hy:inK k y) (i:Nat):bit (bAndNot k x y) i=(bit x i && !bit y i):=by
  rw [bAndNot,bv_in hk,bit,Int.toNat_natCast,BitVec.testBit_toNat,BitVec.getLsbD_and,BitVec.getLsbD_not,bv_bit hk hx,bv_bit hk hy]
  by_cases hi:i<k.bits
  · simp [hi]
  · rw [bit_out hk hx (by omega)]; simp

theorem andNot_in:inK k (bAndNot k x y):=wrap_in _ _

end

theorem u8s:IntKind.u8.signed=false:=rfl
theorem u8_in {x:Int}:inK .u8 x↔0≤x∧x≤255:=Iff.rfl

def onesN (n:Nat):Nat:=((List.range 8).map fun i=>(n.testBit i).toNat).sum
def ones (m:Int):Int:=(onesN m.toNat:Int)

end Go.Proofs.Ytekbamiaenbhjaa
