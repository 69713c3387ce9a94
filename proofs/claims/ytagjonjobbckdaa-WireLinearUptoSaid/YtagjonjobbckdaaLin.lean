/- WireLinear: the checksum's contract, the law's contract. -/
import Derived.Test.YtagjonjobbckdaaCrc
import Derived.Test.YtagjonjobbckdaaBits
namespace Go.Proofs.Ytagjonjobbckdaa
open Go.Ex
set_option maxRecDepth 100000

theorem inK_i64 {n : Int} : inK .i64 n ↔ -9223372036854775808 ≤ n ∧ n ≤ 9223372036854775807 := Iff.rfl
theorem inK_u32 {n : Int} : inK .u32 n ↔ 0 ≤ n ∧ n ≤ 4294967295 := Iff.rfl
theorem bXor_nat {k : IntKind} (hk : k.signed = false) {a b : Nat} (ha : inK k a) (hb : inK k b) : bXor k (a : Int) (b : Int) = ((a ^^^ b : Nat) : Int) :=
  bits_ext ((inK_un hk).1 xor_in).1 (Int.natCast_nonneg _) (fun i => by rw [bit_xor hk ha hb]; simp [bit, Nat.testBit_xor])
theorem bAnd_nat {k : IntKind} (hk : k.signed = false) {a b : Nat} (ha : inK k a) (hb : inK k b) : bAnd k (a : Int) (b : Int) = ((a &&& b : Nat) : Int) :=
  bits_ext ((inK_un hk).1 and_in).1 (Int.natCast_nonneg _) (fun i => by rw [bit_and hk ha hb]; simp [bit, Nat.testBit_and])
theorem xor32 {a b : Nat} (ha : a < 4294967296) (hb : b < 4294967296) : bXor .u32 (a : Int) (b : Int) = ((a ^^^ b : Nat) : Int) := bXor_nat rfl (inK_u32.2 ⟨by omega, by omega⟩) (inK_u32.2 ⟨by omega, by omega⟩)
theorem xor8 {a b : Nat} (ha : a < 256) (hb : b < 256) : bXor .u8 (a : Int) (b : Int) = ((a ^^^ b : Nat) : Int) := bXor_nat rfl (u8_in.2 ⟨by omega, by omega⟩) (u8_in.2 ⟨by omega, by omega⟩)
theorem odd32 {a : Nat} (ha : a < 4294967296) : bAnd .u32 (a : Int) 1 = ((a % 2 : Nat) : Int) := by
  have := bAnd_nat (k := .u32) rfl (a := a) (b := 1) (inK_u32.2 ⟨by omega, by omega⟩) (inK_u32.2 ⟨by omega, by omega⟩)
  rw [Nat.and_one_is_mod] at this
  exact this

def csum : Ctr := { ps := [.v .str], rs := [.int .u32], pre := fun _ => True, fn := fun x => (((sumN x.1 : Nat) : Int), ()), out := fun _ => () }
noncomputable def ESum : Env := { P := Try.prog, tt := tt, ctr := [], res := [Go.ResultVar.tmp 2], rs := [Ty.int IntKind.u32], ps := [PK.v Ty.str], cuts := [(3, [(0, none), (3, none), (7, none), (8, none)]), (7, [(0, none), (3, none), (7, none), (8, none), (17, none)])], nt := 31 }
theorem ESum_ok : EnvOk ESum := envOk tt_ok trivial
theorem FSum_ok : FnOk ESum Try.f15 := ⟨rfl, rfl⟩
theorem ESum_t (x0 : List UInt8) : exec ESum 1000 [.code (bodyOf Try.prog 15)] (initSt csum.ps ((x0, ()))) =
  .cut (loopAt (bodyOf Try.prog 15) 3).1 (loopAt (bodyOf Try.prog 15) 3).2 (St.mk [(0, AV.val Ty.str x0), (3, AV.val (Ty.int IntKind.u32) (4294967295 : Int)), (7, AV.val (Ty.int IntKind.i64) (↑(List.length x0) : Int)), (8, AV.val (Ty.int IntKind.i64) (0 : Int))] []) := by kernel_rfl
def ESum_s3 (v0 : List UInt8) (v3 : Int) (v7 : Int) (v8 : Int) : St := St.mk [(0, AV.val Ty.str v0), (3, AV.val (Ty.int IntKind.u32) v3), (7, AV.val (Ty.int IntKind.i64) v7), (8, AV.val (Ty.int IntKind.i64) v8)] []
theorem ESum_l3 (v0 : List UInt8) (v3 : Int) (v7 : Int) (v8 : Int) : exec ESum 1000 (.code (loopAt (bodyOf Try.prog 15) 3).1 :: .inLoop (loopAt (bodyOf Try.prog 15) 3).1 :: (loopAt (bodyOf Try.prog 15) 3).2) (ESum_s3 v0 v3 v7 v8) =
  cond (decide (v8 < v7)) (.need ((0 : Int) ≤ v8 ∧ v8 < (↑(List.length v0) : Int)) (.cut (loopAt (bodyOf Try.prog 15) 7).1 (loopAt (bodyOf Try.prog 15) 7).2 (St.mk [(0, AV.val Ty.str v0), (3, AV.val (Ty.int IntKind.u32) (bXor IntKind.u32 v3 (IntKind.wrap IntKind.u32 (↑(UInt8.toNat (List.getD v0 (Int.toNat v8) (0 : UInt8))) : Int)))), (7, AV.val (Ty.int IntKind.i64) v7), (8, AV.val (Ty.int IntKind.i64) v8), (17, AV.val (Ty.int IntKind.i64) (0 : Int))] []))) (.ret ((bXor IntKind.u32 (if IntKind.signed IntKind.u32 = true then (-1 : Int) else IntKind.max IntKind.u32) v3, ()))) := by kernel_rfl
def ESum_s7 (v0 : List UInt8) (v3 : Int) (v7 : Int) (v8 : Int) (v17 : Int) : St := St.mk [(0, AV.val Ty.str v0), (3, AV.val (Ty.int IntKind.u32) v3), (7, AV.val (Ty.int IntKind.i64) v7), (8, AV.val (Ty.int IntKind.i64) v8), (17, AV.val (Ty.int IntKind.i64) v17)] []
theorem ESum_l7 (v0 : List UInt8) (v3 : Int) (v7 : Int) (v8 : Int) (v17 : Int) : exec ESum 1000 (.code (loopAt (bodyOf Try.prog 15) 7).1 :: .inLoop (loopAt (bodyOf Try.prog 15) 7).1 :: (loopAt (bodyOf Try.prog 15) 7).2) (ESum_s7 v0 v3 v7 v8 v17) =
  cond (decide (v17 < (8 : Int))) (.need ((0 : Int) ≤ (1 : Int)) (cond (decide (bAnd IntKind.u32 v3 (1 : Int) = (1 : Int))) (.need (inK IntKind.i64 (v17 + (1 : Int))) (.cut (loopAt (bodyOf Try.prog 15) 7).1 (loopAt (bodyOf Try.prog 15) 7).2 (St.mk [(0, AV.val Ty.str v0), (3, AV.val (Ty.int IntKind.u32) (bXor IntKind.u32 (v3 / (2 : Int) ^ min (Int.toNat (1 : Int)) (IntKind.bits IntKind.u32)) (2197175160 : Int))), (7, AV.val (Ty.int IntKind.i64) v7), (8, AV.val (Ty.int IntKind.i64) v8), (17, AV.val (Ty.int IntKind.i64) (v17 + (1 : Int)))] []))) (.need (inK IntKind.i64 (v17 + (1 : Int))) (.cut (loopAt (bodyOf Try.prog 15) 7).1 (loopAt (bodyOf Try.prog 15) 7).2 (St.mk [(0, AV.val Ty.str v0), (3, AV.val (Ty.int IntKind.u32) (v3 / (2 : Int) ^ min (Int.toNat (1 : Int)) (IntKind.bits IntKind.u32))), (7, AV.val (Ty.int IntKind.i64) v7), (8, AV.val (Ty.int IntKind.i64) v8), (17, AV.val (Ty.int IntKind.i64) (v17 + (1 : Int)))] []))))) (.need (inK IntKind.i64 (v8 + (1 : Int))) (.cut (loopAt (bodyOf Try.prog 15) 3).1 (loopAt (bodyOf Try.prog 15) 3).2 (St.mk [(0, AV.val Ty.str v0), (3, AV.val (Ty.int IntKind.u32) v3), (7, AV.val (Ty.int IntKind.i64) v7), (8, AV.val (Ty.int IntKind.i64) (v8 + (1 : Int)))] []))) := by kernel_rfl
theorem steps_succ (k r : Nat) : steps (k + 1) r = step (steps k r) := by rw [steps_add k 1]; rfl
theorem reg_take {s : List UInt8} {i : Nat} (h : i < s.length) (r : Nat) : reg r (s.take (i + 1)) = steps 8 (reg r (s.take i) ^^^ (s.getD i 0).toNat) := by
  rw [List.take_add_one, List.getElem?_eq_getElem h, reg_app, List.getD_eq_getElem?_getD, List.getElem?_eq_getElem h]
  rfl
theorem csum_valid : csum.Valid Try.prog 15 := by
  refine Ctr.valid_of ESum_ok rfl rfl Try.func15 (c := bodyOf Try.prog 15) rfl rfl FSum_ok rfl ?_
  rintro ⟨(s : List UInt8), ⟨⟩⟩ - ⟨hl, -⟩
  have hl : s.length ≤ 9223372036854775807 := hl
  refine exec_sound (n := 1000) ESum_ok FSum_ok ?_
  refine holds_of_eq (ESum_t s) ?_
  refine Reach.loopI ESum_ok FSum_ok (fun i : Nat => ESum_s3 s ((reg 4294967295 (s.take i) : Nat) : Int) (s.length : Int) (i : Int)) (fun i => i ≤ s.length)
    (fun i => s.length - i) 1000 (fun i => ⟨uniq_of rfl, uniq_of rfl⟩) ?_ 0 (by omega)
  rintro i hi - ih
  refine holds_of_eq (ESum_l3 ..) ?_
  simp only [holds_cond, Tree.holds, decide_eq_true_eq, decide_eq_false_iff_not, Int.toNat_natCast]
  have hr := reg_lt (s := s.take i) (r := 4294967295) (by decide)
  have hb : (s.getD i 0).toNat < 256 := UInt8.toNat_lt _
  refine ⟨fun a => ⟨⟨by omega, by omega⟩, fun _ => ?_⟩, fun a => ?_⟩
  · have h32 : reg 4294967295 (s.take i) ^^^ (s.getD i 0).toNat < 4294967296 := Nat.xor_lt_two_pow (n := 32) hr (by omega)
    rw [show IntKind.wrap IntKind.u32 ((s.getD i 0).toNat : Int) = ((s.getD i 0).toNat : Int) from wrap_same (inK_u32.2 ⟨by omega, by omega⟩), xor32 hr (by omega)]
    refine Reach.loopI ESum_ok FSum_ok (fun j : Nat => ESum_s7 s ((steps j (reg 4294967295 (s.take i) ^^^ (s.getD i 0).toNat) : Nat) : Int) (s.length : Int) (i : Int) (j : Int)) (fun j => j ≤ 8)
      (fun j => 8 - j) 1000 (fun i => ⟨uniq_of rfl, uniq_of rfl⟩) ?_ 0 (by omega)
    rintro j hj - ih2
    refine holds_of_eq (ESum_l7 ..) ?_
    have hs := steps_lt j h32
    have hn := steps_succ j (reg 4294967295 (s.take i) ^^^ (s.getD i 0).toNat)
    have he : steps 8 (reg 4294967295 (s.take i) ^^^ (s.getD i 0).toNat) = reg 4294967295 (s.take (i + 1)) ∨ ¬ i < s.length := by
      by_cases h : i < s.length
      · exact .inl (reg_take h _).symm
      · exact .inr h
    generalize hR : steps j (reg 4294967295 (s.take i) ^^^ (s.getD i 0).toNat) = r at *
    have hd : ((r : Nat) : Int) / 2 ^ min (Int.toNat 1) (IntKind.bits IntKind.u32) = ((r / 2 : Nat) : Int) := by
      show ((r : Nat) : Int) / 2 ^ 1 = _
      omega
    rw [hd, odd32 hs, show (2197175160 : Int) = ((2197175160 : Nat) : Int) from rfl, xor32 (by omega) (by decide)]
    simp only [holds_cond, Tree.holds, decide_eq_true_eq, decide_eq_false_iff_not]
    have hk : inK .i64 ((j : Int) + 1) := inK_i64.2 ⟨by omega, by omega⟩
    refine ⟨fun b => ⟨by decide, fun _ => ⟨fun c => ⟨hk, fun _ => ?_⟩, fun c => ⟨hk, fun _ => ?_⟩⟩⟩, fun b => ⟨inK_i64.2 ⟨by omega, by omega⟩, fun _ => ?_⟩⟩
    · have h9 := ih2 (j + 1) (by omega) (by omega)
      rw [hn, step, if_pos (by omega)] at h9
      exact h9
    · have h9 := ih2 (j + 1) (by omega) (by omega)
      rw [hn, step, if_neg (by omega)] at h9
      exact h9
    · have hj8 : j = 8 := by omega
      subst hj8
      rw [hR] at he
      have h9 := ih (i + 1) (by omega) (by omega)
      rw [← he.resolve_right (fun h => h (by omega))] at h9
      exact h9
  · have hi : i = s.length := by omega
    subst hi
    rw [List.take_length] at hr ⊢
    show (bXor .u32 4294967295 ((reg 4294967295 s : Nat) : Int), ()) = (((sumN s : Nat) : Int), ())
    rw [show (4294967295 : Int) = ((4294967295 : Nat) : Int) from rfl, xor32 (by decide) hr, sumN, Nat.xor_comm]

def cWireLinear : Ctr := smallC [.str, .str, .str]
noncomputable def EWireLinear : Env := { P := Try.prog, tt := tt, ctr := [(15, csum)], res := [Go.ResultVar.tmp 6], rs := [Ty.bool], ps := [PK.v Ty.str, PK.v Ty.str, PK.v Ty.str], cuts := [(6, [(0, none), (1, none), (2, none), (7, none), (8, some (Ty.slc true (Ty.int IntKind.u8))), (26, none), (27, none)])], nt := 63 }
theorem EWireLinear_ok : EnvOk EWireLinear := envOk tt_ok ⟨csum_valid, trivial⟩
theorem FWireLinear_ok : FnOk EWireLinear Try.f3 := ⟨rfl, rfl⟩
theorem EWireLinear_t (x0 : List UInt8) (x1 : List UInt8) (x2 : List UInt8) : exec EWireLinear 1000 [.code (bodyOf Try.prog 3)] (initSt cWireLinear.ps ((x0, x1, x2, ()))) =
  .need (True) (.need (True) (.need (((0 : Int) ≤ if (↑(List.length x2) : Int) < if (↑(List.length x1) : Int) < (↑(List.length x0) : Int) then (↑(List.length x1) : Int) else (↑(List.length x0) : Int) then (↑(List.length x2) : Int) else if (↑(List.length x1) : Int) < (↑(List.length x0) : Int) then (↑(List.length x1) : Int) else (↑(List.length x0) : Int)) ∧ ((if (↑(List.length x2) : Int) < if (↑(List.length x1) : Int) < (↑(List.length x0) : Int) then (↑(List.length x1) : Int) else (↑(List.length x0) : Int) then (↑(List.length x2) : Int) else if (↑(List.length x1) : Int) < (↑(List.length x0) : Int) then (↑(List.length x1) : Int) else (↑(List.length x0) : Int)) ≤ if (↑(List.length x2) : Int) < if (↑(List.length x1) : Int) < (↑(List.length x0) : Int) then (↑(List.length x1) : Int) else (↑(List.length x0) : Int) then (↑(List.length x2) : Int) else if (↑(List.length x1) : Int) < (↑(List.length x0) : Int) then (↑(List.length x1) : Int) else (↑(List.length x0) : Int)) ∧ (if (↑(List.length x2) : Int) < if (↑(List.length x1) : Int) < (↑(List.length x0) : Int) then (↑(List.length x1) : Int) else (↑(List.length x0) : Int) then (↑(List.length x2) : Int) else if (↑(List.length x1) : Int) < (↑(List.length x0) : Int) then (↑(List.length x1) : Int) else (↑(List.length x0) : Int)) ≤ (140737488355328 : Int) ∧ (if (↑(List.length x2) : Int) < if (↑(List.length x1) : Int) < (↑(List.length x0) : Int) then (↑(List.length x1) : Int) else (↑(List.length x0) : Int) then (↑(List.length x2) : Int) else if (↑(List.length x1) : Int) < (↑(List.length x0) : Int) then (↑(List.length x1) : Int) else (↑(List.length x0) : Int)) * (↑(Ty.wb (Ty.int IntKind.u8)) : Int) ≤ (140737488355328 : Int)) (.cut (loopAt (bodyOf Try.prog 3) 6).1 (loopAt (bodyOf Try.prog 3) 6).2 (St.mk [(0, AV.val Ty.str x0), (1, AV.val Ty.str x1), (2, AV.val Ty.str x2), (7, AV.val (Ty.int IntKind.i64) (if (↑(List.length x2) : Int) < if (↑(List.length x1) : Int) < (↑(List.length x0) : Int) then (↑(List.length x1) : Int) else (↑(List.length x0) : Int) then (↑(List.length x2) : Int) else if (↑(List.length x1) : Int) < (↑(List.length x0) : Int) then (↑(List.length x1) : Int) else (↑(List.length x0) : Int))), (8, AV.at_ 1000008 []), (26, AV.val (Ty.int IntKind.i64) (↑(List.length (List.replicate (Int.toNat (if (↑(List.length x2) : Int) < if (↑(List.length x1) : Int) < (↑(List.length x0) : Int) then (↑(List.length x1) : Int) else (↑(List.length x0) : Int) then (↑(List.length x2) : Int) else if (↑(List.length x1) : Int) < (↑(List.length x0) : Int) then (↑(List.length x1) : Int) else (↑(List.length x0) : Int))) (0 : Int))) : Int)), (27, AV.val (Ty.int IntKind.i64) (0 : Int))] [(1000008, Ent.own (Ty.slc true (Ty.int IntKind.u8)) (List.replicate (Int.toNat (if (↑(List.length x2) : Int) < if (↑(List.length x1) : Int) < (↑(List.length x0) : Int) then (↑(List.length x1) : Int) else (↑(List.length x0) : Int) then (↑(List.length x2) : Int) else if (↑(List.length x1) : Int) < (↑(List.length x0) : Int) then (↑(List.length x1) : Int) else (↑(List.length x0) : Int))) (0 : Int)))])))) := by kernel_rfl
def EWireLinear_s6 (v0 : List UInt8) (v1 : List UInt8) (v2 : List UInt8) (v7 : Int) (v26 : Int) (v27 : Int) (o1000008 : List Int) : St := St.mk [(0, AV.val Ty.str v0), (1, AV.val Ty.str v1), (2, AV.val Ty.str v2), (7, AV.val (Ty.int IntKind.i64) v7), (8, AV.at_ 1000008 []), (26, AV.val (Ty.int IntKind.i64) v26), (27, AV.val (Ty.int IntKind.i64) v27)] [(1000008, Ent.own (Ty.slc true (Ty.int IntKind.u8)) o1000008)]
theorem EWireLinear_l6 (v0 : List UInt8) (v1 : List UInt8) (v2 : List UInt8) (v7 : Int) (v26 : Int) (v27 : Int) (o1000008 : List Int) : exec EWireLinear 1000 (.code (loopAt (bodyOf Try.prog 3) 6).1 :: .inLoop (loopAt (bodyOf Try.prog 3) 6).1 :: (loopAt (bodyOf Try.prog 3) 6).2) (EWireLinear_s6 v0 v1 v2 v7 v26 v27 o1000008) =
  cond (decide (v27 < v26)) (.need ((0 : Int) ≤ v27 ∧ v27 < (↑(List.length v0) : Int)) (.need ((0 : Int) ≤ v27 ∧ v27 < (↑(List.length v1) : Int)) (.need ((0 : Int) ≤ v27 ∧ v27 < (↑(List.length v2) : Int)) (.need ((0 : Int) ≤ v27 ∧ v27 < (↑(List.length o1000008) : Int)) (.need (inK IntKind.i64 (v27 + (1 : Int))) (.cut (loopAt (bodyOf Try.prog 3) 6).1 (loopAt (bodyOf Try.prog 3) 6).2 (St.mk [(0, AV.val Ty.str v0), (1, AV.val Ty.str v1), (2, AV.val Ty.str v2), (7, AV.val (Ty.int IntKind.i64) v7), (8, AV.at_ 1000008 []), (26, AV.val (Ty.int IntKind.i64) v26), (27, AV.val (Ty.int IntKind.i64) (v27 + (1 : Int)))] [(1000008, Ent.own (Ty.slc true (Ty.int IntKind.u8)) (List.set o1000008 (Int.toNat v27) (bXor IntKind.u8 (bXor IntKind.u8 (↑(UInt8.toNat (List.getD v0 (Int.toNat v27) (0 : UInt8))) : Int) (↑(UInt8.toNat (List.getD v1 (Int.toNat v27) (0 : UInt8))) : Int)) (↑(UInt8.toNat (List.getD v2 (Int.toNat v27) (0 : UInt8))) : Int))))]))))))) (.need (True) (.need ((0 : Int) ≤ (0 : Int) ∧ (0 : Int) ≤ v7 ∧ v7 ≤ (↑(List.length v0) : Int)) (.need (True) (.need ((0 : Int) ≤ (0 : Int) ∧ (0 : Int) ≤ v7 ∧ v7 ≤ (↑(List.length v1) : Int)) (.need (True) (.need ((0 : Int) ≤ (0 : Int) ∧ (0 : Int) ≤ v7 ∧ v7 ≤ (↑(List.length v2) : Int)) (.need (True) (.ret ((decide ((↑(sumN (List.map (fun n => UInt8.ofNat (Int.toNat n)) o1000008)) : Int) = bXor IntKind.u32 (bXor IntKind.u32 (↑(sumN (cut2 (0 : Int) v7 v0)) : Int) (↑(sumN (cut2 (0 : Int) v7 v1)) : Int)) (↑(sumN (cut2 (0 : Int) v7 v2)) : Int)), ())))))))))) := by kernel_rfl
theorem toB_of (n : Nat) (h : n < 256) : (UInt8.ofNat (Int.toNat (n : Int))).toNat = n := by simp; omega
/-- the texts' bytes against each other -/
def mix (a b c : List UInt8) (n : Nat) : List Int := (List.range n).map fun i => (((a.getD i 0).toNat ^^^ (b.getD i 0).toNat ^^^ (c.getD i 0).toNat : Nat) : Int)
def mixed (a b c : List UInt8) (m n : Nat) : List Int := mix a b c m ++ List.replicate (n - m) 0
theorem mixed_set {a b c : List UInt8} {m n : Nat} (h : m < n) : (mixed a b c m n).set m (((a.getD m 0).toNat ^^^ (b.getD m 0).toNat ^^^ (c.getD m 0).toNat : Nat) : Int) = mixed a b c (m + 1) n := by
  have hl : (mix a b c m).length = m := by simp [mix]
  have hs : mix a b c (m + 1) = mix a b c m ++ [(((a.getD m 0).toNat ^^^ (b.getD m 0).toNat ^^^ (c.getD m 0).toNat : Nat) : Int)] := by simp [mix, List.range_succ]
  rw [mixed, mixed, List.set_append, if_neg (by omega), hl, Nat.sub_self, show n - m = (n - (m + 1)) + 1 by omega, List.replicate_succ, List.set_cons_zero, hs, List.append_assoc]
  rfl
theorem xor8_lt {a b : Nat} (ha : a < 256) (hb : b < 256) : a ^^^ b < 256 := Nat.xor_lt_two_pow (n := 8) ha hb
theorem mix_sum {a b c : List UInt8} {n : Nat} (ha : n ≤ a.length) (hb : n ≤ b.length) (hc : n ≤ c.length) : sumN (List.map (fun n => UInt8.ofNat (Int.toNat n)) (mix a b c n)) = sumN (a.take n) ^^^ sumN (b.take n) ^^^ sumN (c.take n) := by
  refine sum_three (by simp; omega) (by simp; omega) (by simp [mix]; omega) (fun i hi => ?_)
  have hi : i < n := by simpa [mix] using hi
  have e : ∀ l : List UInt8, (l.take n).getD i 0 = l.getD i 0 := fun l => by rw [List.getD_eq_getElem?_getD, List.getD_eq_getElem?_getD, List.getElem?_take, if_pos hi]
  rw [e, e, e]
  apply UInt8.toNat_inj.1
  rw [List.getD_eq_getElem?_getD, List.getElem?_map, mix, List.getElem?_map, List.getElem?_range hi]
  show (UInt8.ofNat (Int.toNat ((_ : Nat) : Int))).toNat = _
  rw [toB_of _ (xor8_lt (xor8_lt (UInt8.toNat_lt _) (UInt8.toNat_lt _)) (UInt8.toNat_lt _)), UInt8.toNat_xor, UInt8.toNat_xor]
theorem cut_take {α : Type} (l : List α) (n : Nat) : cut2 0 (n : Int) l = l.take n := by simp [cut2]

theorem cWireLinear_valid : (smallC [.str, .str, .str]).Valid Try.prog 3 := by
  refine Ctr.valid_of EWireLinear_ok rfl rfl Try.func3 (c := bodyOf Try.prog 3) rfl rfl FWireLinear_ok rfl ?_
  rintro ⟨(a : List UInt8), (b : List UInt8), (c : List UInt8), ⟨⟩⟩ hp -
  have hp : (a.length + 1) + ((b.length + 1) + ((c.length + 1) + 0)) ≤ 1048576 := hp
  refine exec_sound (n := 1000) EWireLinear_ok FWireLinear_ok ?_
  refine holds_of_eq (EWireLinear_t a b c) ?_
  obtain ⟨n, hn, ha, hb, hc⟩ : ∃ n : Nat, (if (c.length : Int) < if (b.length : Int) < (a.length : Int) then (b.length : Int) else (a.length : Int) then (c.length : Int) else if (b.length : Int) < (a.length : Int) then (b.length : Int) else (a.length : Int)) = (n : Int) ∧ n ≤ a.length ∧ n ≤ b.length ∧ n ≤ c.length := by
    refine ⟨min c.length (min b.length a.length), ?_, by omega, by omega, by omega⟩
    repeat' split
    all_goals omega
  rw [hn]
  simp only [Tree.holds, Int.toNat_natCast, List.length_replicate]
  refine ⟨trivial, fun _ => ⟨trivial, fun _ => ⟨⟨by omega, by omega, by omega, ?_⟩, fun _ => ?_⟩⟩⟩
  · show (n : Int) * 1 ≤ _; omega
  refine Reach.loopI EWireLinear_ok FWireLinear_ok (fun i : Nat => EWireLinear_s6 a b c (n : Int) (n : Int) (i : Int) (mixed a b c i n)) (fun i => i ≤ n)
    (fun i => n - i) 1000 (fun i => ⟨uniq_of rfl, uniq_of rfl⟩) ?_ 0 (by omega)
  rintro i hi - ih
  refine holds_of_eq (EWireLinear_l6 ..) ?_
  simp only [holds_cond, Tree.holds, decide_eq_true_eq, decide_eq_false_iff_not, Int.toNat_natCast]
  have hml : (mixed a b c i n).length = n := by simp [mixed, mix]; omega
  refine ⟨fun h => ⟨⟨by omega, by omega⟩, fun _ => ⟨⟨by omega, by omega⟩, fun _ => ⟨⟨by omega, by omega⟩, fun _ => ⟨⟨by omega, by omega⟩, fun _ => ⟨inK_i64.2 ⟨by omega, by omega⟩, fun _ => ?_⟩⟩⟩⟩⟩, fun h => ?_⟩
  · have h9 := ih (i + 1) (by omega) (by omega)
    rw [← mixed_set (by omega)] at h9
    rw [xor8 (UInt8.toNat_lt _) (UInt8.toNat_lt _), xor8 (xor8_lt (UInt8.toNat_lt _) (UInt8.toNat_lt _)) (UInt8.toNat_lt _)]
    exact h9
  · have hin : i = n := by omega
    subst hin
    refine ⟨trivial, fun _ => ⟨⟨by omega, by omega, by omega⟩, fun _ => ⟨trivial, fun _ => ⟨⟨by omega, by omega, by omega⟩, fun _ => ⟨trivial, fun _ => ⟨⟨by omega, by omega, by omega⟩, fun _ => ⟨trivial, fun _ => ?_⟩⟩⟩⟩⟩⟩⟩
    have hm : mixed a b c i i = mix a b c i := by simp [mixed]
    rw [hm, mix_sum ha hb hc, cut_take, cut_take, cut_take, xor32 (sumN_lt _) (sumN_lt _), xor32 (Nat.xor_lt_two_pow (n := 32) (sumN_lt _) (sumN_lt _)) (sumN_lt _)]
    show (decide _, ()) = (true, ())
    rw [decide_eq_true rfl]
end Go.Proofs.Ytagjonjobbckdaa
