/- Bits of the unsigned kinds' numbers: what and, or, and-not do, how many ones. -/
import Derived.Test.YtegigiecamjobaaBase
namespace Go.Proofs.Ytegigiecamjobaa
open Go.Ex

instance {k:IntKind} {n:Int}:Decidable (inK k n):=inferInstanceAs (Decidable (_∧_))

def bit (x:Int) (i:Nat):Bool:=x.toNat.testBit i

section
variable {k:IntKind} {x y:Int}
theorem inK_un (hk:k.signed=false):inK k x↔0≤x∧x<2^k.bits:=by
  cases k<;>simp [IntKind.signed] at hk<;>simp [inK,IntKind.min,IntKind.max,IntKind.signed,IntKind.bits]<;>omega

theorem bv_in (hk:k.signed=false) (b:BitVec k.bits):k.wrap (b.toNat:Int)=(b.toNat:Int):=by
  refine wrap_same ((inK_un hk).2 ⟨Int.natCast_nonneg _,?_⟩)
  have:=b.isLt
  exact_mod_cast this

theorem bv_bit (hk:k.signed=false) (hx:inK k x) (i:Nat):(BitVec.ofInt k.bits x).getLsbD i=bit x i:=by
  obtain ⟨h0,h1⟩:=(inK_un hk).1 hx
  obtain ⟨n,rfl⟩:=Int.eq_ofNat_of_zero_le h0
  have hn:n<2^k.bits:=by exact_mod_cast h1
  rw [BitVec.ofInt_natCast,BitVec.getLsbD_ofNat]
  simp only [bit,Int.toNat_natCast]
  by_cases hi:i<k.bits
  · simp [hi]
  · have:n.testBit i=false:=Nat.testBit_lt_two_pow (Nat.lt_of_lt_of_le hn (Nat.pow_le_pow_right (by omega) (by omega)))
    simp [this]

theorem bit_or (hk:k.signed=false) (hx:inK k x) (hy:inK k y) (i:Nat):bit (bOr k x y) i=(bit x i || bit y i):=by
  rw [bOr,bv_in hk,bit,Int.toNat_natCast,BitVec.testBit_toNat,BitVec.getLsbD_or,bv_bit hk hx,bv_bit hk hy]

theorem or_in:inK k (bOr k x y):=wrap_in _ _
end

structure Mask (a:Int) (A:Nat→Prop):Prop where
  rng:inK .u64 a
  bits:∀ i,bit a i=true↔A i
theorem u64s:IntKind.u64.signed=false:=rfl
theorem Mask.add {a:Int} {A:Nat→Prop} (h:Mask a A) {k:Nat} (hk:k<64):Mask (bOr .u64 a (IntKind.wrap .u64 (1*2^min k (IntKind.bits .u64)))) (fun i=>A i∨i=k):=by
  have hm:min k (IntKind.bits .u64)=k:=by show min k 64=k; omega
  have hlt:(2:Nat)^k<2^64:=Nat.pow_lt_pow_right (by omega) hk
  have hcast:(1:Int)*2^k=((2^k:Nat):Int):=by push_cast; omega
  have hin:inK .u64 ((2^k:Nat):Int):=(inK_un u64s).2 ⟨Int.natCast_nonneg _,by show _<((2:Int)^64); exact_mod_cast hlt⟩
  rw [hm,hcast,wrap_same hin]
  refine ⟨or_in,fun i=>?_⟩
  rw [bit_or u64s h.rng hin,Bool.or_eq_true,h.bits i]
  have:bit ((2^k:Nat):Int) i=decide (k=i):=by rw [bit,Int.toNat_natCast,Nat.testBit_two_pow]
  rw [this,decide_eq_true_eq]
  constructor
  · rintro (h|h)
    · exact .inl h
    · exact .inr h.symm
  · rintro (h|h)
    · exact .inl h
    · exact .inr h.symm
theorem Mask.zero:Mask 0 (fun _=>False):=⟨by decide,fun i=>by simp [bit]⟩
theorem Mask.congr {a:Int} {A B:Nat→Prop} (h:Mask a A) (e:∀ i,A i↔B i):Mask a B:=⟨h.rng,fun i=>(h.bits i).trans (e i)⟩
end Go.Proofs.Ytegigiecamjobaa
