/- The checksum's contract. -/
import Derived.Test.YtcafiieffenohaaCrc
import Derived.Test.YtcafiieffenohaaBits
namespace Go.Proofs.Ytcafiieffenohaa
open Go.Ex
set_option maxRecDepth 100000

theorem inK_u32 {n : Int} : inK .u32 n ↔ 0 ≤ n ∧ n ≤ 4294967295 := Iff.rfl
theorem bXor_nat {k : IntKind} (hk : k.signed = false) {a b : Nat} (ha : inK k a) (hb : inK k b) : bXor k (a : Int) (b : Int) = ((a ^^^ b : Nat) : Int) :=
  bits_ext ((inK_un hk).1 xor_in).1 (Int.natCast_nonneg _) (fun i => by rw [bit_xor hk ha hb]; simp [bit, Nat.testBit_xor])
theorem bAnd_nat {k : IntKind} (hk : k.signed = false) {a b : Nat} (ha : inK k a) (hb : inK k b) : bAnd k (a : Int) (b : Int) = ((a &&& b : Nat) : Int) :=
  bits_ext ((inK_un hk).1 and_in).1 (Int.natCast_nonneg _) (fun i => by rw [bit_and hk ha hb]; simp [bit, Nat.testBit_and])
theorem xor32 {a b : Nat} (ha : a < 4294967296) (hb : b < 4294967296) : bXor .u32 (a : Int) (b : Int) = ((a ^^^ b : Nat) : Int) := bXor_nat rfl (inK_u32.2 ⟨by omega, by omega⟩) (inK_u32.2 ⟨by omega, by omega⟩)
theorem xor8 {a b : Nat} (ha : a < 256) (hb : b < 256) : bXor .u8 (a : Int) (b : Int) = ((a ^^^ b : Nat) : Int) := bXor_nat rfl (u8_in.2 ⟨by omega, by omega⟩) (u8_in.2 ⟨by omega, by omega⟩)
theorem odd32 {a : Nat} (ha : a < 4294967296) : bAnd .u32 (a : Int) 1 = ((a % 2 : Nat) : Int) := by
  have := bAnd_nat (k := .u32) rfl (a := a) (b := 1) (inK_u32.2 ⟨by omega, by omega⟩) (inK_u32.2 ⟨by omega, by omega⟩)
  rw [Nat.and_one_is_mod] at this
  exact this

def csum : Ctr := { ps := [.v .str], rs := [.int .u32], pre := fun _ => True, fn := fun x => (((crcN x.1 : Nat) : Int), ()), out := fun _ => () }
noncomputable def ESum : Env := { P := Try.prog, tt := tt, ctr := [], res := [Go.ResultVar.tmp 2], rs := [Ty.int IntKind.u32], ps := [PK.v Ty.str], cuts := [(3, [(0, none), (3, none), (7, none), (8, none)]), (7, [(0, none), (3, none), (7, none), (8, none), (17, none)])], nt := 31 }
theorem ESum_ok : EnvOk ESum := envOk tt_ok trivial
theorem FSum_ok : FnOk ESum Try.f29 := ⟨rfl, rfl⟩
theorem ESum_t (x0 : List UInt8) : exec ESum 1000 [.code (bodyOf Try.prog 29)] (initSt csum.ps ((x0, ()))) =
  .cut (loopAt (bodyOf Try.prog 29) 3).1 (loopAt (bodyOf Try.prog 29) 3).2 (St.mk [(0, AV.val Ty.str x0), (3, AV.val (Ty.int IntKind.u32) (4294967295 : Int)), (7, AV.val (Ty.int IntKind.i64) (↑(List.length x0) : Int)), (8, AV.val (Ty.int IntKind.i64) (0 : Int))] []) := by kernel_rfl
def ESum_s3 (v0 : List UInt8) (v3 : Int) (v7 : Int) (v8 : Int) : St := St.mk [(0, AV.val Ty.str v0), (3, AV.val (Ty.int IntKind.u32) v3), (7, AV.val (Ty.int IntKind.i64) v7), (8, AV.val (Ty.int IntKind.i64) v8)] []
theorem ESum_l3 (v0 : List UInt8) (v3 : Int) (v7 : Int) (v8 : Int) : exec ESum 1000 (.code (loopAt (bodyOf Try.prog 29) 3).1 :: .inLoop (loopAt (bodyOf Try.prog 29) 3).1 :: (loopAt (bodyOf Try.prog 29) 3).2) (ESum_s3 v0 v3 v7 v8) =
  cond (decide (v8 < v7)) (.need ((0 : Int) ≤ v8 ∧ v8 < (↑(List.length v0) : Int)) (.cut (loopAt (bodyOf Try.prog 29) 7).1 (loopAt (bodyOf Try.prog 29) 7).2 (St.mk [(0, AV.val Ty.str v0), (3, AV.val (Ty.int IntKind.u32) (bXor IntKind.u32 v3 (IntKind.wrap IntKind.u32 (↑(UInt8.toNat (List.getD v0 (Int.toNat v8) (0 : UInt8))) : Int)))), (7, AV.val (Ty.int IntKind.i64) v7), (8, AV.val (Ty.int IntKind.i64) v8), (17, AV.val (Ty.int IntKind.i64) (0 : Int))] []))) (.ret ((bXor IntKind.u32 (if IntKind.signed IntKind.u32 = true then (-1 : Int) else IntKind.max IntKind.u32) v3, ()))) := by kernel_rfl
def ESum_s7 (v0 : List UInt8) (v3 : Int) (v7 : Int) (v8 : Int) (v17 : Int) : St := St.mk [(0, AV.val Ty.str v0), (3, AV.val (Ty.int IntKind.u32) v3), (7, AV.val (Ty.int IntKind.i64) v7), (8, AV.val (Ty.int IntKind.i64) v8), (17, AV.val (Ty.int IntKind.i64) v17)] []
theorem ESum_l7 (v0 : List UInt8) (v3 : Int) (v7 : Int) (v8 : Int) (v17 : Int) : exec ESum 1000 (.code (loopAt (bodyOf Try.prog 29) 7).1 :: .inLoop (loopAt (bodyOf Try.prog 29) 7).1 :: (loopAt (bodyOf Try.prog 29) 7).2) (ESum_s7 v0 v3 v7 v8 v17) =
  cond (decide (v17 < (8 : Int))) (.need ((0 : Int) ≤ (1 : Int)) (cond (decide (bAnd IntKind.u32 v3 (1 : Int) = (1 : Int))) (.need (inK IntKind.i64 (v17 + (1 : Int))) (.cut (loopAt (bodyOf Try.prog 29) 7).1 (loopAt (bodyOf Try.prog 29) 7).2 (St.mk [(0, AV.val Ty.str v0), (3, AV.val (Ty.int IntKind.u32) (bXor IntKind.u32 (v3 / (2 : Int) ^ min (Int.toNat (1 : Int)) (IntKind.bits IntKind.u32)) (2197175160 : Int))), (7, AV.val (Ty.int IntKind.i64) v7), (8, AV.val (Ty.int IntKind.i64) v8), (17, AV.val (Ty.int IntKind.i64) (v17 + (1 : Int)))] []))) (.need (inK IntKind.i64 (v17 + (1 : Int))) (.cut (loopAt (bodyOf Try.prog 29) 7).1 (loopAt (bodyOf Try.prog 29) 7).2 (St.mk [(0, AV.val Ty.str v0), (3, AV.val (Ty.int IntKind.u32) (v3 / (2 : Int) ^ min (Int.toNat (1 : Int)) (IntKind.bits IntKind.u32))), (7, AV.val (Ty.int IntKind.i64) v7), (8, AV.val (Ty.int IntKind.i64) v8), (17, AV.val (Ty.int IntKind.i64) (v17 + (1 : Int)))] []))))) (.need (inK IntKind.i64 (v8 + (1 : Int))) (.cut (loopAt (bodyOf Try.prog 29) 3).1 (loopAt (bodyOf Try.prog 29) 3).2 (St.mk [(0, AV.val Ty.str v0), (3, AV.val (Ty.int IntKind.u32) v3), (7, AV.val (Ty.int IntKind.i64) v7), (8, AV.val (Ty.int IntKind.i64) (v8 + (1 : Int)))] []))) := by kernel_rfl
theorem steps_succ (k r : Nat) : steps (k + 1) r = step (steps k r) := by rw [steps_add k 1]; rfl
theorem reg_take {s : List UInt8} {i : Nat} (h : i < s.length) (r : Nat) : reg r (s.take (i + 1)) = steps 8 (reg r (s.take i) ^^^ (s.getD i 0).toNat) := by
  rw [List.take_add_one, List.getElem?_eq_getElem h, reg_app, List.getD_eq_getElem?_getD, List.getElem?_eq_getElem h]
  rfl
theorem csum_valid : csum.Valid Try.prog 29 := by
  refine Ctr.valid_of ESum_ok rfl rfl Try.func29 (c := bodyOf Try.prog 29) rfl rfl FSum_ok rfl ?_
  rintro ⟨(s : List UInt8), ⟨⟩⟩ - ⟨hl, -⟩
  have hl : s.length ≤ 9223372036854775807 := hl
  refine exec_sound (n := 1000) ESum_ok FSum_ok ?_
  refine holds_of_eq (ESum_t s) ?_
  refine Reach.loopI ESum_ok FSum_ok (fun i : Nat => ESum_s3 s ((reg 4294967295 (s.take i) : Nat) : Int) (s.length : Int) (i : Int)) (fun i => i ≤ s.length)
    (fun i => s.length - i) 1000 (fun i => ⟨uniq_of rfl, uniq_of rfl⟩) ?_ 0 (by omega)
  rintro i hi - ih
  refine holds_of_eq (ESum_l3 ..) ?_
  simp only [holds_cond, Tree.holds, decide_eq_true_eq, decide_eq_false_iff_not, Int.toNat_natCast]
  have hr := reg_lt (s := s.take i) (r := 4294967295) (by decide)
  have hb : (s.getD i 0).toNat < 256 := UInt8.toNat_lt _
  refine ⟨fun a => ⟨⟨by omega, by omega⟩, fun _ => ?_⟩, fun a => ?_⟩
  · have h32 : reg 4294967295 (s.take i) ^^^ (s.getD i 0).toNat < 4294967296 := Nat.xor_lt_two_pow (n := 32) hr (by omega)
    rw [show IntKind.wrap IntKind.u32 ((s.getD i 0).toNat : Int) = ((s.getD i 0).toNat : Int) from wrap_same (inK_u32.2 ⟨by omega, by omega⟩), xor32 hr (by omega)]
    refine Reach.loopI ESum_ok FSum_ok (fun j : Nat => ESum_s7 s ((steps j (reg 4294967295 (s.take i) ^^^ (s.getD i 0).toNat) : Nat) : Int) (s.length : Int) (i : Int) (j : Int)) (fun j => j ≤ 8)
      (fun j => 8 - j) 1000 (fun i => ⟨uniq_of rfl, uniq_of rfl⟩) ?_ 0 (by omega)
    rintro j hj - ih2
    refine holds_of_eq (ESum_l7 ..) ?_
    have hs := steps_lt j h32
    have hn := steps_succ j (reg 4294967295 (s.take i) ^^^ (s.getD i 0).toNat)
    have he : steps 8 (reg 4294967295 (s.take i) ^^^ (s.getD i 0).toNat) = reg 4294967295 (s.take (i + 1)) ∨ ¬ i < s.length := by
      by_cases h : i < s.length
      · exact .inl (reg_take h _).symm
      · exact .inr h
    generalize hR : steps j (reg 4294967295 (s.take i) ^^^ (s.getD i 0).toNat) = r at *
    have hd : ((r : Nat) : Int) / 2 ^ min (Int.toNat 1) (IntKind.bits IntKind.u32) = ((r / 2 : Nat) : Int) := by
      show ((r : Nat) : Int) / 2 ^ 1 = _
      omega
    rw [hd, odd32 hs, show (2197175160 : Int) = ((2197175160 : Nat) : Int) from rfl, xor32 (by omega) (by decide)]
    simp only [holds_cond, Tree.holds, decide_eq_true_eq, decide_eq_false_iff_not]
    have hk : inK .i64 ((j : Int) + 1) := inK_i64.2 ⟨by omega, by omega⟩
    refine ⟨fun b => ⟨by decide, fun _ => ⟨fun c => ⟨hk, fun _ => ?_⟩, fun c => ⟨hk, fun _ => ?_⟩⟩⟩, fun b => ⟨inK_i64.2 ⟨by omega, by omega⟩, fun _ => ?_⟩⟩
    · have h9 := ih2 (j + 1) (by omega) (by omega)
      rw [hn, step, if_pos (by omega)] at h9
      exact h9
    · have h9 := ih2 (j + 1) (by omega) (by omega)
      rw [hn, step, if_neg (by omega)] at h9
      exact h9
    · have hj8 : j = 8 := by omega
      subst hj8
      rw [hR] at he
      have h9 := ih (i + 1) (by omega) (by omega)
      rw [← he.resolve_right (fun h => h (by omega))] at h9
      exact h9
  · have hi : i = s.length := by omega
    subst hi
    rw [List.take_length] at hr ⊢
    show (bXor .u32 4294967295 ((reg 4294967295 s : Nat) : Int), ()) = (((crcN s : Nat) : Int), ())
    rw [show (4294967295 : Int) = ((4294967295 : Nat) : Int) from rfl, xor32 (by decide) hr, crcN, Nat.xor_comm]

end Go.Proofs.Ytcafiieffenohaa
