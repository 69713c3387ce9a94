/- Bits of the unsigned kinds' numbers: what and, or, and-not do, how many ones. -/
import Derived.Test.YtehmefjnkbjiiaaBase
namespace Go.Proofs.Ytehmefjnkbjiiaa
open Go.Ex

instance {k : IntKind} {n : Int} : Decidable (inK k n) := inferInstanceAs (Decidable (_ ∧ _))

def bit (x : Int) (i : Nat) : Bool := x.toNat.testBit i

section
variable {k : IntKind} {x y : Int}
theorem inK_un (hk : k.signed = false) : inK k x ↔ 0 ≤ x ∧ x < 2 ^ k.bits := by
  cases k <;> simp [IntKind.signed] at hk <;> simp [inK, IntKind.min, IntKind.max, IntKind.signed, IntKind.bits] <;> omega

theorem bv_in (hk : k.signed = false) (b : BitVec k.bits) : k.wrap (b.toNat : Int) = (b.toNat : Int) := by
  refine wrap_same ((inK_un hk).2 ⟨Int.natCast_nonneg _, ?_⟩)
  have := b.isLt
  exact_mod_cast this

theorem bv_bit (hk : k.signed = false) (hx : inK k x) (i : Nat) : (BitVec.ofInt k.bits x).getLsbD i = bit x i := by
  obtain ⟨h0, h1⟩ := (inK_un hk).1 hx
  obtain ⟨n, rfl⟩ := Int.eq_ofNat_of_zero_le h0
  have hn : n < 2 ^ k.bits := by exact_mod_cast h1
  rw [BitVec.ofInt_natCast, BitVec.getLsbD_ofNat]
  simp only [bit, Int.toNat_natCast]
  by_cases hi : i < k.bits
  · simp [hi]
  · have : n.testBit i = false := Nat.testBit_lt_two_pow (Nat.lt_of_lt_of_le hn (Nat.pow_le_pow_right (by omega) (by omega)))
    simp [this]

theorem bit_out (hk : k.signed = false) (hx : inK k x) {i : Nat} (hi : k.bits ≤ i) : bit x i = false := by
  obtain ⟨h0, h1⟩ := (inK_un hk).1 hx
  obtain ⟨n, rfl⟩ := Int.eq_ofNat_of_zero_le h0
  have hn : n < 2 ^ k.bits := by exact_mod_cast h1
  exact Nat.testBit_lt_two_pow (Nat.lt_of_lt_of_le hn (Nat.pow_le_pow_right (by omega) hi))

theorem bit_and (hk : k.signed = false) (hx : inK k x) (hy : inK k y) (i : Nat) : bit (bAnd k x y) i = (bit x i && bit y i) := by
  rw [bAnd, bv_in hk, bit, Int.toNat_natCast, BitVec.testBit_toNat, BitVec.getLsbD_and, bv_bit hk hx, bv_bit hk hy]

theorem bit_or (hk : k.signed = false) (hx : inK k x) (hy : inK k y) (i : Nat) : bit (bOr k x y) i = (bit x i || bit y i) := by
  rw [bOr, bv_in hk, bit, Int.toNat_natCast, BitVec.testBit_toNat, BitVec.getLsbD_or, bv_bit hk hx, bv_bit hk hy]

theorem bit_xor (hk : k.signed = false) (hx : inK k x) (hy : inK k y) (i : Nat) : bit (bXor k x y) i = (bit x i ^^ bit y i) := by
  rw [bXor, bv_in hk, bit, Int.toNat_natCast, BitVec.testBit_toNat, BitVec.getLsbD_xor, bv_bit hk hx, bv_bit hk hy]

theorem bit_andNot (hk : k.signed = false) (hx : inK k x) (hy : inK k y) (i : Nat) : bit (bAndNot k x y) i = (bit x i && !bit y i) := by
  rw [bAndNot, bv_in hk, bit, Int.toNat_natCast, BitVec.testBit_toNat, BitVec.getLsbD_and, BitVec.getLsbD_not, bv_bit hk hx, bv_bit hk hy]
  by_cases hi : i < k.bits
  · simp [hi]
  · rw [bit_out hk hx (by omega)]; simp

theorem and_in : inK k (bAnd k x y) := wrap_in _ _
theorem or_in : inK k (bOr k x y) := wrap_in _ _
theorem xor_in : inK k (bXor k x y) := wrap_in _ _
theorem andNot_in : inK k (bAndNot k x y) := wrap_in _ _

theorem bits_ext (hx : 0 ≤ x) (hy : 0 ≤ y) (h : ∀ i, bit x i = bit y i) : x = y := by
  have : x.toNat = y.toNat := Nat.eq_of_testBit_eq h
  omega

theorem zero_bits (hx : 0 ≤ x) : x = 0 ↔ ∀ i, bit x i = false := by
  constructor
  · rintro rfl i; simp [bit]
  · intro h; exact bits_ext hx (by omega) (fun i => by rw [h i]; simp [bit])
end

/-- a set of numbers below 64, as a word -/
structure Mask (a : Int) (A : Nat → Prop) : Prop where
  rng : inK .u64 a
  bits : ∀ i, bit a i = true ↔ A i
theorem u64s : IntKind.u64.signed = false := rfl
theorem one_in : inK .u64 1 := by decide
theorem bit_one (i : Nat) : bit 1 i = decide (i = 0) := by
  show (1 : Nat).testBit i = _
  cases i with
  | zero => decide
  | succ i => simp [Nat.testBit_succ]
theorem bit_div {x : Int} (hx : 0 ≤ x) (k i : Nat) : bit (x / 2 ^ k) i = bit x (i + k) := by
  obtain ⟨n, rfl⟩ := Int.eq_ofNat_of_zero_le hx
  rw [bit, bit]
  have : ((n : Int) / 2 ^ k).toNat = n / 2 ^ k := by
    have h : ((n : Int) / 2 ^ k) = ((n / 2 ^ k : Nat) : Int) := by push_cast; rfl
    rw [h, Int.toNat_natCast]
  rw [this, Int.toNat_natCast, Nat.testBit_div_two_pow]
theorem div_in {x : Int} (hx : inK .u64 x) (k : Nat) : inK .u64 (x / 2 ^ k) := by
  obtain ⟨h0, h1⟩ := (inK_un u64s).1 hx
  refine (inK_un u64s).2 ⟨Int.ediv_nonneg h0 (Int.le_of_lt (Int.pow_pos (by omega))), Int.lt_of_le_of_lt (Int.ediv_le_self _ h0) h1⟩
theorem Mask.test {a : Int} {A : Nat → Prop} (h : Mask a A) {k : Nat} (hk : k < 64) : (A k → bAnd .u64 (a / 2 ^ min k (IntKind.bits .u64)) 1 = 1) ∧ (¬ A k → bAnd .u64 (a / 2 ^ min k (IntKind.bits .u64)) 1 = 0) := by
  have hm : min k (IntKind.bits .u64) = k := by show min k 64 = k; omega
  rw [hm]
  have h0 : 0 ≤ a := ((inK_un u64s).1 h.rng).1
  have hd := div_in h.rng k
  have hbit : ∀ i, bit (bAnd .u64 (a / 2 ^ k) 1) i = (bit a (i + k) && decide (i = 0)) := fun i => by rw [bit_and u64s hd one_in, bit_one, bit_div h0]
  have hb0 : 0 ≤ bAnd .u64 (a / 2 ^ k) 1 := ((inK_un u64s).1 and_in).1
  constructor
  · intro hA
    refine bits_ext hb0 (by omega) (fun i => ?_)
    rw [hbit, bit_one]
    by_cases e : i = 0
    · subst e; rw [Nat.zero_add, (h.bits k).2 hA]; rfl
    · rw [decide_eq_false e, Bool.and_false]
  · intro hA
    refine bits_ext hb0 (by omega) (fun i => ?_)
    rw [hbit]
    by_cases e : i = 0
    · subst e
      have : bit a k = false := by
        cases e : bit a k with
        | false => rfl
        | true => exact absurd ((h.bits k).1 e) hA
      rw [Nat.zero_add, this]; decide
    · rw [decide_eq_false e, Bool.and_false]; simp [bit]
theorem Mask.add {a : Int} {A : Nat → Prop} (h : Mask a A) {k : Nat} (hk : k < 64) : Mask (bOr .u64 a (IntKind.wrap .u64 (1 * 2 ^ min k (IntKind.bits .u64)))) (fun i => A i ∨ i = k) := by
  have hm : min k (IntKind.bits .u64) = k := by show min k 64 = k; omega
  have hlt : (2 : Nat) ^ k < 2 ^ 64 := Nat.pow_lt_pow_right (by omega) hk
  have hcast : (1 : Int) * 2 ^ k = ((2 ^ k : Nat) : Int) := by push_cast; omega
  have hin : inK .u64 ((2 ^ k : Nat) : Int) := (inK_un u64s).2 ⟨Int.natCast_nonneg _, by show _ < ((2 : Int) ^ 64); exact_mod_cast hlt⟩
  rw [hm, hcast, wrap_same hin]
  refine ⟨or_in, fun i => ?_⟩
  rw [bit_or u64s h.rng hin, Bool.or_eq_true, h.bits i]
  have : bit ((2 ^ k : Nat) : Int) i = decide (k = i) := by rw [bit, Int.toNat_natCast, Nat.testBit_two_pow]
  rw [this, decide_eq_true_eq]
  constructor
  · rintro (h | h)
    · exact .inl h
    · exact .inr h.symm
  · rintro (h | h)
    · exact .inl h
    · exact .inr h.symm
theorem Mask.zero : Mask 0 (fun _ => False) := ⟨by decide, fun i => by simp [bit]⟩
theorem Mask.congr {a : Int} {A B : Nat → Prop} (h : Mask a A) (e : ∀ i, A i ↔ B i) : Mask a B := ⟨h.rng, fun i => (h.bits i).trans (e i)⟩
end Go.Proofs.Ytehmefjnkbjiiaa
