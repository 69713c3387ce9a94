/- Sets of at most sixteen things as bits, lists of sets, and maps kept as lists. No condition but those named. -/
import Derived.Test.YtekbamiaenbhjaaUtil
namespace Go.Proofs.Ytekbamiaenbhjaa
open Go.Ex
set_option maxRecDepth 100000
/-! maps kept as lists -/
/-! bits -/
abbrev B16:=BitVec 16
def bv (a:Int):B16:=BitVec.ofInt 16 a
def orU (a b:Int):Int:=I5 .u16 a b
def a5f (a b:Int):Int:=Q7 .u16 a b
def E9 (a b:Int):Bool:=decide (a1i .u16 a b=0)
def N3 (a:Int):Prop:=0≤a∧a<65536
theorem a5J {n:Int}:u7 .u16 n↔N3 n:=by
  unfold u7 N3
  simp only [IntKind.min,IntKind.max,IntKind.signed,IntKind.bits]
  simp
  omega
theorem a67 {n:Nat} (h:n<65536):IntKind.wrap .u16 (n:Int)=n:=J8 (a5J.2 ⟨by omega,by omega⟩)
theorem c0b (v:B16):bv (v.toNat:Int)=v:=by
  unfold bv
  apply BitVec.eq_of_toNat_eq
  rw [BitVec.toNat_ofInt]
  have:=v.isLt
  simp
  omega
theorem a2d {a:Int} (h:N3 a):((bv a).toNat:Int)=a:=by
  unfold bv
  rw [BitVec.toNat_ofInt]
  obtain ⟨h0,h1⟩:=h
  omega
theorem c3n {a b:Int} (ha:N3 a) (hb:N3 b) (h:bv a=bv b):a=b:=by rw [← a2d ha,← a2d hb,h]
theorem b47 (a b:Int):a5f a b=((bv a &&& bv b).toNat:Int):=a67 (bv a &&& bv b).isLt
theorem b6Q (a b:Int):a1i .u16 a b=((bv a &&& ~~~ bv b).toNat:Int):=a67 (bv a &&& ~~~ bv b).isLt
theorem bv_and (a b:Int):bv (a5f a b)=bv a &&& bv b:=by rw [b47,c0b]
theorem c3a (v:B16):N3 (v.toNat:Int):=by have:=v.isLt; exact ⟨by omega,by omega⟩
theorem a8O (a b:Int):N3 (a5f a b):=by rw [b47]; exact c3a _
def hasB (a:Int) (i:Nat):Bool:=(bv a).getLsbD i
theorem a8J {a b:Int} (ha:N3 a) (hb:N3 b) (h:∀ i,hasB a i=hasB b i):a=b:=c3n ha hb (BitVec.eq_of_getLsbD_eq (fun i _=>h i))
theorem b4R (a b:Int) (i:Nat):hasB (a5f a b) i=(hasB a i && hasB b i):=by unfold hasB; rw [bv_and,BitVec.getLsbD_and]
theorem b9O (i:Nat):hasB 0 i=false:=by
  unfold hasB
  rw [show bv 0=0#16 from rfl,BitVec.getLsbD_zero]
theorem b4h {a b:Int}:a1i .u16 a b=0↔∀ i,hasB a i=true→hasB b i=true:=by
  rw [b6Q]
  constructor
  · intro h i hi
    have hz:bv a &&& ~~~ bv b=0#16:=by
      apply BitVec.eq_of_toNat_eq
      rw [show (0#16).toNat=0 from rfl]; omega
    have:=congrArg (fun v:B16=>v.getLsbD i) hz
    simp only [BitVec.getLsbD_and,BitVec.getLsbD_not,BitVec.getLsbD_zero] at this
    unfold hasB at hi ⊢
    have hlt:=BitVec.lt_of_getLsbD hi
    rw [hi] at this
    simp only [Bool.true_and,hlt,decide_true,Bool.not_eq_false'] at this
    exact this
  · intro h
    have:bv a &&& ~~~ bv b=0#16:=by
      apply BitVec.eq_of_getLsbD_eq
      intro i hi
      simp only [BitVec.getLsbD_and,BitVec.getLsbD_not,BitVec.getLsbD_zero,hi,decide_true,Bool.true_and]
      have:=h i
      unfold hasB at this
      cases e:(bv a).getLsbD i with
      | false=>rfl
      | true=>rw [this e]; rfl
    rw [this]; rfl
theorem within_iff {a b:Int}:E9 a b=true↔∀ i,hasB a i=true→hasB b i=true:=by
  rw [E9,decide_eq_true_eq]; exact b4h
theorem b7v {a b:Int} (ha:N3 a) (hb:N3 b) (h:E9 a b=true):a≤b:=by
  have h:=within_iff.1 h
  have e:bv a &&& bv b=bv a:=by
    apply BitVec.eq_of_getLsbD_eq
    intro i _
    rw [BitVec.getLsbD_and]
    have:=h i
    unfold hasB at this
    cases e:(bv a).getLsbD i with
    | false=>rfl
    | true=>rw [this e]; rfl
  have h1:(bv a &&& bv b).toNat≤(bv b).toNat:=by rw [BitVec.toNat_and]; exact Nat.and_le_right
  rw [e] at h1
  have:=a2d ha
  have:=a2d hb
  omega
/-! a lattice of sets -/
structure c4t (l:List Int):Prop where
  pos:1≤l.length
  le:l.length≤300
  B5:∀ x∈l,N3 x
  zero:l.getD 0 0=0
  up:∀ i j,i<j→j<l.length→l.getD i 0<l.getD j 0
  or:∀ a∈l,∀ b∈l,orU a b∈l
  and:∀ a∈l,∀ b∈l,a5f a b∈l
end Go.Proofs.Ytekbamiaenbhjaa
