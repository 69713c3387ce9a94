/- Quorum systems: minimal and what calls it: the contracts. No condition but those named. -/
import Derived.Test.YtdhdpklmipkneaaQA
import Derived.Test.YtdhdpklmipkneaaQG
import Derived.Shelf.SlGeneric
namespace Go.Proofs.Ytdhdpklmipkneaa
open Go.Ex Go.Sort
set_option maxRecDepth 100000
def laySortU_ren : Go.Shelf.Ren := ⟨fun | 6 => 129 | 14 => 168 | 15 => 98 | 20 => 206 | 21 => 207 | 22 => 208 | 23 => 209 | 24 => 210 | 25 => 211 | 26 => 212 | 27 => 213 | 28 => 149 | 29 => 150 | 46 => 226 | 47 => 181 | 48 => 182 | 49 => 227 | 50 => 228 | 57 => 232 | n => n, fun | 0 => 0 | 3 => 3 | 4 => 4 | 5 => 5 | 9 => 9 | 22 => 40 | 24 => 39 | 25 => 139 | 39 => 155 | 45 => 206 | 46 => 207 | 50 => 211 | 53 => 214 | 55 => 216 | 66 => 242 | 70 => 246 | 76 => 270 | 77 => 271 | n => n, fun | n => n⟩
theorem laySortU : Go.Proofs.SlLaysF.n6 Try.prog laySortU_ren := {
  mixed := by kernel_rfl,
  f6 := ⟨Try.f129.name, by decide, Try.func129.trans (congrArg some (by kernel_rfl))⟩,
  f14 := ⟨Try.f168.name, by decide, Try.func168.trans (congrArg some (by kernel_rfl))⟩,
  f15 := Try.func98.trans (congrArg some (by kernel_rfl)),
  f20 := ⟨Try.f206.name, by decide, Try.func206.trans (congrArg some (by kernel_rfl))⟩,
  f21 := ⟨Try.f207.name, by decide, Try.func207.trans (congrArg some (by kernel_rfl))⟩,
  f22 := ⟨Try.f208.name, by decide, Try.func208.trans (congrArg some (by kernel_rfl))⟩,
  f23 := ⟨Try.f209.name, by decide, Try.func209.trans (congrArg some (by kernel_rfl))⟩,
  f24 := ⟨Try.f210.name, by decide, Try.func210.trans (congrArg some (by kernel_rfl))⟩,
  f25 := ⟨Try.f211.name, by decide, Try.func211.trans (congrArg some (by kernel_rfl))⟩,
  f26 := ⟨Try.f212.name, by decide, Try.func212.trans (congrArg some (by kernel_rfl))⟩,
  f27 := ⟨Try.f213.name, by decide, Try.func213.trans (congrArg some (by kernel_rfl))⟩,
  f28 := Try.func149.trans (congrArg some (by kernel_rfl)),
  f29 := Try.func150.trans (congrArg some (by kernel_rfl)),
  f46 := ⟨Try.f226.name, by decide, Try.func226.trans (congrArg some (by kernel_rfl))⟩,
  f47 := Try.func181.trans (congrArg some (by kernel_rfl)),
  f48 := Try.func182.trans (congrArg some (by kernel_rfl)),
  f49 := ⟨Try.f227.name, by decide, Try.func227.trans (congrArg some (by kernel_rfl))⟩,
  f50 := ⟨Try.f228.name, by decide, Try.func228.trans (congrArg some (by kernel_rfl))⟩,
  f57 := ⟨Try.f232.name, by decide, Try.func232.trans (congrArg some (by kernel_rfl))⟩,
  t0 := Try.underlying0,
  a0 := Try.isAgg0,
  z0 := Try.sizeOf0,
  v0 := Try.zeroValue0,
  t3 := Try.underlying3,
  a3 := Try.isAgg3,
  z3 := Try.sizeOf3,
  v3 := Try.zeroValue3,
  t4 := Try.underlying4,
  a4 := Try.isAgg4,
  z4 := Try.sizeOf4,
  v4 := Try.zeroValue4,
  t5 := Try.underlying5,
  a5 := Try.isAgg5,
  z5 := Try.sizeOf5,
  v5 := Try.zeroValue5,
  t9 := Try.underlying9,
  a9 := Try.isAgg9,
  z9 := Try.sizeOf9,
  v9 := Try.zeroValue9,
  t22 := Try.underlying40,
  a22 := Try.isAgg40,
  z22 := Try.sizeOf40,
  v22 := Try.zeroValue40,
  a24 := Try.isAgg39,
  z24 := Try.sizeOf39,
  t25 := Try.underlying139,
  a25 := Try.isAgg139,
  z25 := Try.sizeOf139,
  v25 := Try.zeroValue139,
  t39 := Try.underlying155,
  a39 := Try.isAgg155,
  z39 := Try.sizeOf155,
  v39 := Try.zeroValue155,
  t45 := Try.underlying206,
  a45 := Try.isAgg206,
  z45 := Try.sizeOf206,
  v45 := Try.zeroValue206,
  t46 := Try.underlying207,
  a46 := Try.isAgg207,
  z46 := Try.sizeOf207,
  v46 := Try.zeroValue207,
  t50 := Try.underlying211,
  a50 := Try.isAgg211,
  z50 := Try.sizeOf211,
  v50 := Try.zeroValue211,
  t53 := Try.underlying214,
  a53 := Try.isAgg214,
  z53 := Try.sizeOf214,
  v53 := Try.zeroValue214,
  t55 := Try.underlying216,
  a55 := Try.isAgg216,
  z55 := Try.sizeOf216,
  v55 := Try.zeroValue216,
  t66 := Try.underlying242,
  a66 := Try.isAgg242,
  z66 := Try.sizeOf242,
  v66 := Try.zeroValue242,
  t70 := Try.underlying246,
  a70 := Try.isAgg246,
  z70 := Try.sizeOf246,
  v70 := Try.zeroValue246,
  t76 := Try.underlying270,
  a76 := Try.isAgg270,
  z76 := Try.sizeOf270,
  v76 := Try.zeroValue270,
  t77 := Try.underlying271,
  a77 := Try.isAgg271,
  z77 := Try.sizeOf271,
  v77 := Try.zeroValue271 }
def csortU : Ctr := sortC U16 80 qcmp (fun _ => True)
theorem csortU_valid : csortU.Valid Try.prog 129 :=
  sort1_valid laySortU rfl rfl rfl (cmpOk_of cqcmp_valid _ _ rfl (fun _ _ _ _ => trivial)) swoQ
def offV (y : Int) : Bool := !inF y 0 16777215
def missQ (l : List Int) (t : Int) : Bool := !meetsQ t l
def cvot1 : Ctr := { ps := [.v I64], rs := [.bool], pre := fun _ => True, fn := fun x => (offV x.1, ()), out := fun _ => () }
noncomputable def Evot1 : Env := { P := Try.prog, tt := tt, ctr := [(72, cinQ)], res := [Go.ResultVar.tmp 2], rs := [Ty.bool], ps := [PK.v (Ty.int IntKind.i64)], cuts := [], nt := 6 }
theorem Evot1_ok : EnvOk Evot1 := envOk tt_ok ⟨cinQ_valid, trivial⟩
theorem Fvot1_ok : FnOk Evot1 Try.f74 := ⟨rfl, rfl⟩
theorem Evot1_t (x0 : Int) : exec Evot1 1000 [.code (bodyOf Try.prog 74)] (initSt cvot1.ps ((x0, ()))) =
  .need (True) (.ret ((!inF x0 (0 : Int) (16777215 : Int), ()))) := by kernel_rfl
theorem cvot1_valid : cvot1.Valid Try.prog 74 := by
  refine Ctr.valid_of Evot1_ok rfl rfl Try.func74 (c := bodyOf Try.prog 74) rfl rfl Fvot1_ok rfl ?_
  rintro ⟨(x : Int), ⟨⟩⟩ - -
  refine exec_sound (n := 1000) Evot1_ok Fvot1_ok ?_
  refine holds_of_eq (Evot1_t x) ?_
  exact ⟨trivial, fun _ => rfl⟩
def vokP (v : List Int) : Prop := v.length ≤ 10 ∧ ∀ y ∈ v, 0 ≤ y ∧ y ≤ 16777215
def enoughV (v : List Int) (need s : Int) : Bool := decide (need ≤ wsum v s v.length)
def cvot2 : Ctr := { ps := [.v U16, .rd (.slc false I64), .rd I64], rs := [.bool], pre := fun x => vokP x.2.1, fn := fun x => (enoughV x.2.1 x.2.2.1 x.1, ()), out := fun _ => () }
noncomputable def Evot2 : Env := { P := Try.prog, tt := tt, ctr := [], res := [Go.ResultVar.tmp 4], rs := [Ty.bool], ps := [PK.v (Ty.int IntKind.u16), PK.rd (Ty.slc false (Ty.int IntKind.i64)), PK.rd (Ty.int IntKind.i64)], cuts := [(3, [(0, none), (2, none), (5, none), (8, none), (9, none), (10, none)])], nt := 28 }
theorem Evot2_ok : EnvOk Evot2 := envOk tt_ok trivial
theorem Fvot2_ok : FnOk Evot2 Try.f76 := ⟨rfl, rfl⟩
theorem Evot2_t (x0 : Int) (x1 : List Int) (x2 : Int) : exec Evot2 1000 [.code (bodyOf Try.prog 76)] (initSt cvot2.ps ((x0, x1, x2, ()))) =
  .cut (loopAt (bodyOf Try.prog 76) 3).1 (loopAt (bodyOf Try.prog 76) 3).2 (St.mk [(0, AV.val (Ty.int IntKind.u16) x0), (2, AV.rptr (Ty.int IntKind.i64) x2), (5, AV.val (Ty.int IntKind.i64) (0 : Int)), (8, AV.val (Ty.slc false (Ty.int IntKind.i64)) x1), (9, AV.val (Ty.int IntKind.i64) (↑(List.length x1) : Int)), (10, AV.val (Ty.int IntKind.i64) (0 : Int))] []) := by kernel_rfl
def Evot2_s3 (v0 : Int) (v2 : Int) (v5 : Int) (v8 : List Int) (v9 : Int) (v10 : Int) : St := St.mk [(0, AV.val (Ty.int IntKind.u16) v0), (2, AV.rptr (Ty.int IntKind.i64) v2), (5, AV.val (Ty.int IntKind.i64) v5), (8, AV.val (Ty.slc false (Ty.int IntKind.i64)) v8), (9, AV.val (Ty.int IntKind.i64) v9), (10, AV.val (Ty.int IntKind.i64) v10)] []
theorem Evot2_l3 (v0 : Int) (v2 : Int) (v5 : Int) (v8 : List Int) (v9 : Int) (v10 : Int) : exec Evot2 1000 (.code (loopAt (bodyOf Try.prog 76) 3).1 :: .inLoop (loopAt (bodyOf Try.prog 76) 3).1 :: (loopAt (bodyOf Try.prog 76) 3).2) (Evot2_s3 v0 v2 v5 v8 v9 v10) =
  cond (decide (v10 < v9)) (.need ((0 : Int) ≤ v10 ∧ v10 < (↑(List.length v8) : Int)) (.need ((0 : Int) ≤ v10) (.need (inK IntKind.i64 (List.getD v8 (Int.toNat v10) (0 : Int) * IntKind.wrap IntKind.i64 (bAnd IntKind.u16 (v0 / (2 : Int) ^ min (Int.toNat v10) (IntKind.bits IntKind.u16)) (1 : Int)))) (.need (inK IntKind.i64 (v5 + List.getD v8 (Int.toNat v10) (0 : Int) * IntKind.wrap IntKind.i64 (bAnd IntKind.u16 (v0 / (2 : Int) ^ min (Int.toNat v10) (IntKind.bits IntKind.u16)) (1 : Int)))) (.need (inK IntKind.i64 (v10 + (1 : Int))) (.cut (loopAt (bodyOf Try.prog 76) 3).1 (loopAt (bodyOf Try.prog 76) 3).2 (St.mk [(0, AV.val (Ty.int IntKind.u16) v0), (2, AV.rptr (Ty.int IntKind.i64) v2), (5, AV.val (Ty.int IntKind.i64) (v5 + List.getD v8 (Int.toNat v10) (0 : Int) * IntKind.wrap IntKind.i64 (bAnd IntKind.u16 (v0 / (2 : Int) ^ min (Int.toNat v10) (IntKind.bits IntKind.u16)) (1 : Int)))), (8, AV.val (Ty.slc false (Ty.int IntKind.i64)) v8), (9, AV.val (Ty.int IntKind.i64) v9), (10, AV.val (Ty.int IntKind.i64) (v10 + (1 : Int)))] []))))))) (.ret ((decide (v2 ≤ v5), ()))) := by kernel_rfl
theorem one_bit (i : Nat) : (1 : Nat).testBit i = decide (i = 0) := by
  cases i with
  | zero => decide
  | succ i => simp [Nat.testBit_succ]
theorem bit_of {s : Int} (h : inU s) (k : Nat) : IntKind.wrap .i64 (bAnd .u16 (s / 2 ^ min k (IntKind.bits .u16)) 1) = if hasB s k = true then 1 else 0 := by
  have hs := h.1
  have e16 : min k (IntKind.bits .u16) = min k 16 := rfl
  rw [e16]
  have hd : s / 2 ^ min k 16 = ((s.toNat / 2 ^ min k 16 : Nat) : Int) := by
    have : s = ((s.toNat : Nat) : Int) := by omega
    conv => lhs; rw [this]
    push_cast; rfl
  have hle : s.toNat / 2 ^ min k 16 ≤ s.toNat := Nat.div_le_self _ _
  have hin : inU ((s.toNat / 2 ^ min k 16 : Nat) : Int) := ⟨Int.natCast_nonneg _, by have := h.2; exact Int.lt_of_le_of_lt (Int.ofNat_le.2 hle) (by omega)⟩
  have h1 : inU 1 := ⟨by omega, by omega⟩
  have hb : ∀ i, hasB (andU ((s.toNat / 2 ^ min k 16 : Nat) : Int) 1) i = (s.toNat.testBit (i + min k 16) && decide (i = 0)) := by
    intro i
    rw [has_and, has_nat hin, has_nat h1, Int.toNat_natCast, Nat.testBit_div_two_pow]
    congr 1
    exact one_bit i
  have hk : s.toNat.testBit (min k 16) = hasB s k := by
    rw [has_nat h]
    by_cases hk : k < 16
    · rw [Nat.min_eq_left (by omega)]
    · rw [Nat.min_eq_right (by omega), Nat.testBit_lt_two_pow (show s.toNat < 2 ^ 16 by have := h.2; omega), Nat.testBit_lt_two_pow (Nat.lt_of_lt_of_le (show s.toNat < 2 ^ 16 by have := h.2; omega) (Nat.pow_le_pow_right (by omega) (by omega)))]
  rw [hd, show bAnd .u16 ((s.toNat / 2 ^ min k 16 : Nat) : Int) 1 = andU ((s.toNat / 2 ^ min k 16 : Nat) : Int) 1 from rfl]
  by_cases e : hasB s k = true
  · rw [if_pos e, bits_eq (b := 1) (andU_in _ _) h1 (fun i => ?_)]
    · rfl
    · rw [hb]
      by_cases hi : i = 0
      · subst hi; rw [Nat.zero_add, hk, e]; decide
      · rw [decide_eq_false hi, Bool.and_false, has_nat h1]
        show false = (1 : Nat).testBit i
        rw [one_bit, decide_eq_false hi]
  · rw [if_neg e, bits_eq (b := 0) (andU_in _ _) ⟨by omega, by omega⟩ (fun i => ?_)]
    · rfl
    · rw [hb, has_zero]
      by_cases hi : i = 0
      · subst hi; rw [Nat.zero_add, hk]; simpa using e
      · rw [decide_eq_false hi, Bool.and_false]
theorem cvot2_valid : cvot2.Valid Try.prog 76 := by
  refine Ctr.valid_of Evot2_ok rfl rfl Try.func76 (c := bodyOf Try.prog 76) rfl rfl Fvot2_ok rfl ?_
  rintro ⟨(s : Int), (v : List Int), (need : Int), ⟨⟩⟩ ⟨(h10 : v.length ≤ 10), (hv : ∀ y ∈ v, 0 ≤ y ∧ y ≤ 16777215)⟩ ⟨hs, -⟩
  have hs : inU s := inK_u16.1 hs
  refine exec_sound (n := 1000) Evot2_ok Fvot2_ok ?_
  refine holds_of_eq (Evot2_t s v need) ?_
  refine Reach.loopI Evot2_ok Fvot2_ok (fun i : Nat => Evot2_s3 s need (wsum v s i) v (v.length : Int) (i : Int)) (fun i => i ≤ v.length) (fun i => v.length - i) 1000 (fun _ => ⟨uniq_of rfl, uniq_of rfl⟩) ?_ 0 (Nat.zero_le _)
  rintro i k1 - ih
  have k1 : i ≤ v.length := k1
  refine holds_of_eq (Evot2_l3 ..) ?_
  simp only [holds_cond, Tree.holds, true_and, true_implies, decide_eq_true_eq, decide_eq_false_iff_not, Bool.not_eq_true', Bool.not_eq_false', Int.toNat_natCast, inK_i64, List.length_set, List.length_cons, List.length_nil]
  rw [bit_of hs]
  refine ⟨fun c => ?_, fun c => ?_⟩
  · have hi : i < v.length := by omega
    have hb := hv _ (getD_mem (d := 0) hi)
    have h1 := wsum_nonneg (fun x hx => (hv x hx).1) (a := s) i k1
    have h2 := wsum_le hv (a := s) i k1
    have next := ih (i + 1) hi (by omega)
    rw [wsum] at next
    by_cases e : hasB s i = true
    · rw [if_pos e] at next ⊢
      rw [Int.mul_one]
      exact ⟨by omega, fun _ => ⟨by omega, fun _ => ⟨by omega, fun _ => ⟨by omega, fun _ => ⟨by omega, fun _ => next⟩⟩⟩⟩⟩
    · rw [if_neg e] at next ⊢
      rw [Int.mul_zero]
      exact ⟨by omega, fun _ => ⟨by omega, fun _ => ⟨by omega, fun _ => ⟨by omega, fun _ => ⟨by omega, fun _ => next⟩⟩⟩⟩⟩
  · obtain rfl : i = v.length := by omega
    rfl
def apartU (s t : Int) : Bool := decide (bAnd .u16 s t = 0)
def meetsP (l : List Int) (s : Int) : Bool := meetsQ s l
def inL (l : List Int) (s : Int) : Bool := decide (s ∈ l)
def cmee1 : Ctr := { ps := [.v U16, .rd U16], rs := [.bool], pre := fun _ => True, fn := fun x => (apartU x.2.1 x.1, ()), out := fun _ => () }
noncomputable def Emee1 : Env := { P := Try.prog, tt := tt, ctr := [], res := [Go.ResultVar.tmp 3], rs := [Ty.bool], ps := [PK.v (Ty.int IntKind.u16), PK.rd (Ty.int IntKind.u16)], cuts := [], nt := 8 }
theorem Emee1_ok : EnvOk Emee1 := envOk tt_ok trivial
theorem Fmee1_ok : FnOk Emee1 Try.f132 := ⟨rfl, rfl⟩
theorem Emee1_t (x0 : Int) (x1 : Int) : exec Emee1 1000 [.code (bodyOf Try.prog 132)] (initSt cmee1.ps ((x0, x1, ()))) =
  .ret ((decide (bAnd IntKind.u16 x1 x0 = (0 : Int)), ())) := by kernel_rfl
theorem cmee1_valid : cmee1.Valid Try.prog 132 := by
  refine Ctr.valid_of Emee1_ok rfl rfl Try.func132 (c := bodyOf Try.prog 132) rfl rfl Fmee1_ok rfl ?_
  rintro ⟨(t : Int), (s : Int), ⟨⟩⟩ - -
  refine exec_sound (n := 1000) Emee1_ok Fmee1_ok ?_
  refine holds_of_eq (Emee1_t t s) ?_
  rfl
def cidxM : Ctr := { ps := [.v (.slc false U16), .clo 132 [U16]], rs := [I64], pre := fun x => True, fn := fun x => (idxOf (apartU x.2.1.1) x.1, ()), out := fun _ => () }
noncomputable def EidxM : Env := { P := Try.prog, tt := tt, ctr := [(132, cmee1)], res := [Go.ResultVar.tmp 4], rs := [Ty.int IntKind.i64], ps := [PK.v (Ty.slc false (Ty.int IntKind.u16)), PK.clo 132 [Ty.int IntKind.u16]], cuts := [(2, [(0, none), (1, none), (7, none), (8, none)])], nt := 19 }
theorem EidxM_ok : EnvOk EidxM := envOk tt_ok ⟨cmee1_valid, trivial⟩
theorem FidxM_ok : FnOk EidxM Try.f135 := ⟨rfl, rfl⟩
theorem EidxM_t (x0 : List Int) (x1c0 : Int) : exec EidxM 1000 [.code (bodyOf Try.prog 135)] (initSt cidxM.ps ((x0, (x1c0, ()), ()))) =
  .cut (loopAt (bodyOf Try.prog 135) 2).1 (loopAt (bodyOf Try.prog 135) 2).2 (St.mk [(0, AV.val (Ty.slc false (Ty.int IntKind.u16)) x0), (1, AV.clo 132 (AV.cons (AV.rptr (Ty.int IntKind.u16) x1c0) AV.nil)), (7, AV.val (Ty.int IntKind.i64) (↑(List.length x0) : Int)), (8, AV.val (Ty.int IntKind.i64) (0 : Int))] []) := by kernel_rfl
def EidxM_s2 (v0 : List Int) (v1a : Int) (v7 : Int) (v8 : Int) : St := St.mk [(0, AV.val (Ty.slc false (Ty.int IntKind.u16)) v0), (1, AV.clo 132 (AV.cons (AV.rptr (Ty.int IntKind.u16) v1a) AV.nil)), (7, AV.val (Ty.int IntKind.i64) v7), (8, AV.val (Ty.int IntKind.i64) v8)] []
theorem EidxM_l2 (v0 : List Int) (v1a : Int) (v7 : Int) (v8 : Int) : exec EidxM 1000 (.code (loopAt (bodyOf Try.prog 135) 2).1 :: .inLoop (loopAt (bodyOf Try.prog 135) 2).1 :: (loopAt (bodyOf Try.prog 135) 2).2) (EidxM_s2 v0 v1a v7 v8) =
  cond (decide (v8 < v7)) (.need ((0 : Int) ≤ v8 ∧ v8 < (↑(List.length v0) : Int)) (.need (True) (cond (apartU v1a (List.getD v0 (Int.toNat v8) (0 : Int))) (.ret ((v8, ()))) (.need (inK IntKind.i64 (v8 + (1 : Int))) (.cut (loopAt (bodyOf Try.prog 135) 2).1 (loopAt (bodyOf Try.prog 135) 2).2 (St.mk [(0, AV.val (Ty.slc false (Ty.int IntKind.u16)) v0), (1, AV.clo 132 (AV.cons (AV.rptr (Ty.int IntKind.u16) v1a) AV.nil)), (7, AV.val (Ty.int IntKind.i64) v7), (8, AV.val (Ty.int IntKind.i64) (v8 + (1 : Int)))] [])))))) (.ret (((-1 : Int), ()))) := by kernel_rfl
theorem cidxM_valid : cidxM.Valid Try.prog 135 := by
  refine Ctr.valid_of EidxM_ok rfl rfl Try.func135 (c := bodyOf Try.prog 135) rfl rfl FidxM_ok rfl ?_
  rintro ⟨(l : List (Int)), ⟨(s : Int), ⟨⟩⟩, ⟨⟩⟩ - ⟨⟨hl, -⟩, -⟩
  have hl : l.length ≤ 9223372036854775807 := hl
  refine exec_sound (n := 1000) EidxM_ok FidxM_ok ?_
  refine holds_of_eq (EidxM_t l s) ?_
  refine Reach.loopI EidxM_ok FidxM_ok (fun i : Nat => EidxM_s2 l s (l.length : Int) (i : Int)) (fun i => i ≤ l.length ∧ idxOf (apartU s) l = idxGo (apartU s) (l.drop i) i)
    (fun i => l.length - i) 1000 (fun _ => ⟨uniq_of rfl, uniq_of rfl⟩) ?_ 0 ⟨by omega, rfl⟩
  rintro i ⟨k1, k2⟩ - ih
  refine holds_of_eq (EidxM_l2 ..) ?_
  simp only [holds_cond, Tree.holds, true_and, true_implies, decide_eq_true_eq, decide_eq_false_iff_not, Bool.not_eq_true', Bool.not_eq_false', Int.toNat_natCast, inK_i64, List.length_set, List.length_cons, List.length_nil]
  refine ⟨fun h => ?_, fun h => ?_⟩
  · rw [drop_getD (show i < l.length by omega) 0, idxGo] at k2
    refine ⟨by omega, fun _ => ⟨fun c => ?_, fun c => ⟨by omega, fun _ => ih (i + 1) ⟨by omega, ?_⟩ (by omega)⟩⟩⟩
    · show (((i : Int), ()) : Int × Unit) = (idxOf (apartU s) l, ())
      rw [k2, if_pos (show (apartU s) (l.getD i 0) = true from c)]
    · rw [k2, if_neg (show ¬ (apartU s) (l.getD i 0) = true from fun h9 => Bool.noConfusion (Eq.trans (Eq.symm h9) c))]
  · rw [List.drop_eq_nil_of_le (by omega)] at k2
    show (((-1 : Int), ()) : Int × Unit) = (idxOf (apartU s) l, ())
    rw [k2]; rfl
def cconM : Ctr := { ps := [.v (.slc false U16), .clo 132 [U16]], rs := [.bool], pre := fun x => True, fn := fun x => (List.any (α := Int) x.1 (apartU x.2.1.1), ()), out := fun _ => () }
noncomputable def EconM : Env := { P := Try.prog, tt := tt, ctr := [(135, cidxM)], res := [Go.ResultVar.tmp 4], rs := [Ty.bool], ps := [PK.v (Ty.slc false (Ty.int IntKind.u16)), PK.clo 132 [Ty.int IntKind.u16]], cuts := [], nt := 9 }
theorem EconM_ok : EnvOk EconM := envOk tt_ok ⟨cidxM_valid, trivial⟩
theorem FconM_ok : FnOk EconM Try.f81 := ⟨rfl, rfl⟩
theorem EconM_t (x0 : List Int) (x1c0 : Int) : exec EconM 1000 [.code (bodyOf Try.prog 81)] (initSt cconM.ps ((x0, (x1c0, ()), ()))) =
  .need (True) (.ret ((decide ((0 : Int) ≤ idxOf (apartU x1c0) x0), ()))) := by kernel_rfl
theorem cconM_valid : cconM.Valid Try.prog 81 := by
  refine Ctr.valid_of EconM_ok rfl rfl Try.func81 (c := bodyOf Try.prog 81) rfl rfl FconM_ok rfl ?_
  rintro ⟨(l : List (Int)), ⟨(s : Int), ⟨⟩⟩, ⟨⟩⟩ - -
  refine exec_sound (n := 1000) EconM_ok FconM_ok ?_
  refine holds_of_eq (EconM_t l s) ?_
  refine ⟨trivial, fun _ => ?_⟩
  show ((decide (0 ≤ idxOf (apartU s) l), ()) : Bool × Unit) = (l.any (apartU s), ())
  rw [idx_any]
def cmeets : Ctr := { ps := [.v U16, .v (.slc false U16)], rs := [.bool], pre := fun _ => True, fn := fun x => (meetsQ x.1 x.2.1, ()), out := fun _ => () }
noncomputable def Emeets : Env := { P := Try.prog, tt := tt, ctr := [(81, cconM)], res := [Go.ResultVar.tmp 4], rs := [Ty.bool], ps := [PK.v (Ty.int IntKind.u16), PK.v (Ty.slc false (Ty.int IntKind.u16))], cuts := [], nt := 9 }
theorem Emeets_ok : EnvOk Emeets := envOk tt_ok ⟨cconM_valid, trivial⟩
theorem Fmeets_ok : FnOk Emeets Try.f79 := ⟨rfl, rfl⟩
theorem Emeets_t (x0 : Int) (x1 : List Int) : exec Emeets 1000 [.code (bodyOf Try.prog 79)] (initSt cmeets.ps ((x0, x1, ()))) =
  .need (True) (.ret ((!List.any x1 (apartU x0), ()))) := by kernel_rfl
theorem cmeets_valid : cmeets.Valid Try.prog 79 := by
  refine Ctr.valid_of Emeets_ok rfl rfl Try.func79 (c := bodyOf Try.prog 79) rfl rfl Fmeets_ok rfl ?_
  rintro ⟨(s : Int), (l : List Int), ⟨⟩⟩ - -
  refine exec_sound (n := 1000) Emeets_ok Fmeets_ok ?_
  refine holds_of_eq (Emeets_t s l) ?_
  exact ⟨trivial, fun _ => rfl⟩
def cmee2 : Ctr := { ps := [.v U16, .rd (.slc false U16)], rs := [.bool], pre := fun _ => True, fn := fun x => (missQ x.2.1 x.1, ()), out := fun _ => () }
noncomputable def Emee2 : Env := { P := Try.prog, tt := tt, ctr := [(79, cmeets)], res := [Go.ResultVar.tmp 3], rs := [Ty.bool], ps := [PK.v (Ty.int IntKind.u16), PK.rd (Ty.slc false (Ty.int IntKind.u16))], cuts := [], nt := 8 }
theorem Emee2_ok : EnvOk Emee2 := envOk tt_ok ⟨cmeets_valid, trivial⟩
theorem Fmee2_ok : FnOk Emee2 Try.f82 := ⟨rfl, rfl⟩
theorem Emee2_t (x0 : Int) (x1 : List Int) : exec Emee2 1000 [.code (bodyOf Try.prog 82)] (initSt cmee2.ps ((x0, x1, ()))) =
  .need (True) (.ret ((!meetsQ x0 x1, ()))) := by kernel_rfl
theorem cmee2_valid : cmee2.Valid Try.prog 82 := by
  refine Ctr.valid_of Emee2_ok rfl rfl Try.func82 (c := bodyOf Try.prog 82) rfl rfl Fmee2_ok rfl ?_
  rintro ⟨(s : Int), (l : List Int), ⟨⟩⟩ - -
  refine exec_sound (n := 1000) Emee2_ok Fmee2_ok ?_
  refine holds_of_eq (Emee2_t s l) ?_
  exact ⟨trivial, fun _ => rfl⟩
def cdua1 : Ctr := { ps := [.v U16, .rd (.slc false U16)], rs := [.bool], pre := fun _ => True, fn := fun x => (meetsP x.2.1 x.1, ()), out := fun _ => () }
noncomputable def Edua1 : Env := { P := Try.prog, tt := tt, ctr := [(79, cmeets)], res := [Go.ResultVar.tmp 3], rs := [Ty.bool], ps := [PK.v (Ty.int IntKind.u16), PK.rd (Ty.slc false (Ty.int IntKind.u16))], cuts := [], nt := 7 }
theorem Edua1_ok : EnvOk Edua1 := envOk tt_ok ⟨cmeets_valid, trivial⟩
theorem Fdua1_ok : FnOk Edua1 Try.f78 := ⟨rfl, rfl⟩
theorem Edua1_t (x0 : Int) (x1 : List Int) : exec Edua1 1000 [.code (bodyOf Try.prog 78)] (initSt cdua1.ps ((x0, x1, ()))) =
  .need (True) (.ret ((meetsQ x0 x1, ()))) := by kernel_rfl
theorem cdua1_valid : cdua1.Valid Try.prog 78 := by
  refine Ctr.valid_of Edua1_ok rfl rfl Try.func78 (c := bodyOf Try.prog 78) rfl rfl Fdua1_ok rfl ?_
  rintro ⟨(s : Int), (l : List Int), ⟨⟩⟩ - -
  refine exec_sound (n := 1000) Edua1_ok Fdua1_ok ?_
  refine holds_of_eq (Edua1_t s l) ?_
  exact ⟨trivial, fun _ => rfl⟩
def cidxU : Ctr := { ps := [.v (.slc false U16), .v U16], rs := [I64], pre := fun _ => True, fn := fun x => (idxOf (fun y => decide ((show Int from x.2.1) = y)) x.1, ()), out := fun _ => () }
noncomputable def EidxU : Env := { P := Try.prog, tt := tt, ctr := [], res := [Go.ResultVar.tmp 4], rs := [Ty.int IntKind.i64], ps := [PK.v (Ty.slc false (Ty.int IntKind.u16)), PK.v (Ty.int IntKind.u16)], cuts := [(2, [(0, none), (1, none), (7, none), (8, none)])], nt := 19 }
theorem EidxU_ok : EnvOk EidxU := envOk tt_ok trivial
theorem FidxU_ok : FnOk EidxU Try.f138 := ⟨rfl, rfl⟩
theorem EidxU_t (x0 : List Int) (x1 : Int) : exec EidxU 1000 [.code (bodyOf Try.prog 138)] (initSt cidxU.ps ((x0, x1, ()))) =
  .cut (loopAt (bodyOf Try.prog 138) 2).1 (loopAt (bodyOf Try.prog 138) 2).2 (St.mk [(0, AV.val (Ty.slc false (Ty.int IntKind.u16)) x0), (1, AV.val (Ty.int IntKind.u16) x1), (7, AV.val (Ty.int IntKind.i64) (↑(List.length x0) : Int)), (8, AV.val (Ty.int IntKind.i64) (0 : Int))] []) := by kernel_rfl
def EidxU_s2 (v0 : List Int) (v1 : Int) (v7 : Int) (v8 : Int) : St := St.mk [(0, AV.val (Ty.slc false (Ty.int IntKind.u16)) v0), (1, AV.val (Ty.int IntKind.u16) v1), (7, AV.val (Ty.int IntKind.i64) v7), (8, AV.val (Ty.int IntKind.i64) v8)] []
theorem EidxU_l2 (v0 : List Int) (v1 : Int) (v7 : Int) (v8 : Int) : exec EidxU 1000 (.code (loopAt (bodyOf Try.prog 138) 2).1 :: .inLoop (loopAt (bodyOf Try.prog 138) 2).1 :: (loopAt (bodyOf Try.prog 138) 2).2) (EidxU_s2 v0 v1 v7 v8) =
  cond (decide (v8 < v7)) (.need ((0 : Int) ≤ v8 ∧ v8 < (↑(List.length v0) : Int)) (cond (decide (v1 = List.getD v0 (Int.toNat v8) (0 : Int))) (.ret ((v8, ()))) (.need (inK IntKind.i64 (v8 + (1 : Int))) (.cut (loopAt (bodyOf Try.prog 138) 2).1 (loopAt (bodyOf Try.prog 138) 2).2 (St.mk [(0, AV.val (Ty.slc false (Ty.int IntKind.u16)) v0), (1, AV.val (Ty.int IntKind.u16) v1), (7, AV.val (Ty.int IntKind.i64) v7), (8, AV.val (Ty.int IntKind.i64) (v8 + (1 : Int)))] []))))) (.ret (((-1 : Int), ()))) := by kernel_rfl
theorem cidxU_valid : cidxU.Valid Try.prog 138 := by
  refine Ctr.valid_of EidxU_ok rfl rfl Try.func138 (c := bodyOf Try.prog 138) rfl rfl FidxU_ok rfl ?_
  rintro ⟨(l : List (Int)), (x : Int), ⟨⟩⟩ - ⟨⟨hl, -⟩, -⟩
  have hl : l.length ≤ 9223372036854775807 := hl
  refine exec_sound (n := 1000) EidxU_ok FidxU_ok ?_
  refine holds_of_eq (EidxU_t l x) ?_
  refine Reach.loopI EidxU_ok FidxU_ok (fun i : Nat => EidxU_s2 l x (l.length : Int) (i : Int) ) (fun i => i ≤ l.length ∧ idxOf (fun y => decide (x = y)) l = idxGo (fun y => decide (x = y)) (l.drop i) i)
    (fun i => l.length - i) 1000 (fun _ => ⟨uniq_of rfl, uniq_of rfl⟩) ?_ 0 ⟨by omega, rfl⟩
  rintro i ⟨k1, k2⟩ - ih
  refine holds_of_eq (EidxU_l2 ..) ?_
  simp only [holds_cond, Tree.holds, true_and, true_implies, decide_eq_true_eq, decide_eq_false_iff_not, Bool.not_eq_true', Bool.not_eq_false', Int.toNat_natCast, inK_i64, List.length_set, List.length_cons, List.length_nil]
  refine ⟨fun h => ?_, fun h => ?_⟩
  · rw [drop_getD (show i < l.length by omega) 0, idxGo] at k2
    have key : ∀ b : Bool, (b = true ↔ x = l.getD i 0) → (b = true → (((i : Int), ()) : Int × Unit) = (idxOf (fun y => decide (x = y)) l, ())) ∧ (b = false → idxOf (fun y => decide (x = y)) l = idxGo (fun y => decide (x = y)) (l.drop (i + 1)) (i + 1)) := fun b hb => by
      refine ⟨fun c => ?_, fun c => ?_⟩
      · rw [k2, if_pos (decide_eq_true (hb.1 c))]
      · rw [k2, if_neg (fun h9 => by rw [hb.2 (of_decide_eq_true h9)] at c; cases c)]
    refine ⟨by omega, fun _ => ⟨fun c => ?_, fun c => ⟨by omega, fun _ => ih (i + 1) ⟨by omega, ?_⟩ (by omega)⟩⟩⟩
    · exact (key true ⟨fun _ => c, fun _ => rfl⟩).1 rfl
    · exact (key false ⟨fun h9 => (by cases h9), fun h9 => (c h9).elim⟩).2 rfl
  · rw [List.drop_eq_nil_of_le (by omega)] at k2
    show (((-1 : Int), ()) : Int × Unit) = (idxOf (fun y => decide (x = y)) l, ())
    rw [k2]; rfl
def ccontU : Ctr := { ps := [.v (.slc false U16), .v U16], rs := [.bool], pre := fun _ => True, fn := fun x => (decide ((show Int from x.2.1) ∈ (show List (Int) from x.1)), ()), out := fun _ => () }
noncomputable def EcontU : Env := { P := Try.prog, tt := tt, ctr := [(138, cidxU)], res := [Go.ResultVar.tmp 4], rs := [Ty.bool], ps := [PK.v (Ty.slc false (Ty.int IntKind.u16)), PK.v (Ty.int IntKind.u16)], cuts := [], nt := 9 }
theorem EcontU_ok : EnvOk EcontU := envOk tt_ok ⟨cidxU_valid, trivial⟩
theorem FcontU_ok : FnOk EcontU Try.f94 := ⟨rfl, rfl⟩
theorem EcontU_t (x0 : List Int) (x1 : Int) : exec EcontU 1000 [.code (bodyOf Try.prog 94)] (initSt ccontU.ps ((x0, x1, ()))) =
  .need (True) (.ret ((decide ((0 : Int) ≤ idxOf (fun y => decide (x1 = y)) x0), ()))) := by kernel_rfl
theorem ccontU_valid : ccontU.Valid Try.prog 94 := by
  refine Ctr.valid_of EcontU_ok rfl rfl Try.func94 (c := bodyOf Try.prog 94) rfl rfl FcontU_ok rfl ?_
  rintro ⟨(l : List (Int)), (x : Int), ⟨⟩⟩ - -
  refine exec_sound (n := 1000) EcontU_ok FcontU_ok ?_
  refine holds_of_eq (EcontU_t l x) ?_
  refine ⟨trivial, fun _ => ?_⟩
  show ((decide (0 ≤ idxOf (fun y => decide (x = y)) l), ()) : Bool × Unit) = (decide (x ∈ l), ())
  rw [idx_any]
  have : l.any (fun y => decide (x = y)) = true ↔ x ∈ l := by
    rw [List.any_eq_true]
    exact ⟨fun ⟨y, h1, h2⟩ => by rw [of_decide_eq_true h2]; exact h1, fun h => ⟨x, h, decide_eq_true rfl⟩⟩
  cases e : l.any (fun y => decide (x = y)) with
  | true => rw [decide_eq_true (this.1 e)]
  | false => rw [decide_eq_false (fun h => by rw [this.2 h] at e; cases e)]
def cgri1 : Ctr := { ps := [.v U16, .rd (.slc false U16)], rs := [.bool], pre := fun _ => True, fn := fun x => (inL x.2.1 x.1, ()), out := fun _ => () }
noncomputable def Egri1 : Env := { P := Try.prog, tt := tt, ctr := [(94, ccontU)], res := [Go.ResultVar.tmp 3], rs := [Ty.bool], ps := [PK.v (Ty.int IntKind.u16), PK.rd (Ty.slc false (Ty.int IntKind.u16))], cuts := [], nt := 7 }
theorem Egri1_ok : EnvOk Egri1 := envOk tt_ok ⟨ccontU_valid, trivial⟩
theorem Fgri1_ok : FnOk Egri1 Try.f93 := ⟨rfl, rfl⟩
theorem Egri1_t (x0 : Int) (x1 : List Int) : exec Egri1 1000 [.code (bodyOf Try.prog 93)] (initSt cgri1.ps ((x0, x1, ()))) =
  .need (True) (.ret ((decide (x0 ∈ x1), ()))) := by kernel_rfl
theorem cgri1_valid : cgri1.Valid Try.prog 93 := by
  refine Ctr.valid_of Egri1_ok rfl rfl Try.func93 (c := bodyOf Try.prog 93) rfl rfl Fgri1_ok rfl ?_
  rintro ⟨(s : Int), (l : List Int), ⟨⟩⟩ - -
  refine exec_sound (n := 1000) Egri1_ok Fgri1_ok ?_
  refine holds_of_eq (Egri1_t s l) ?_
  exact ⟨trivial, fun _ => rfl⟩
def allTo (p : Int → Bool) (i : Nat) : List Int := ((List.range i).map (fun i : Nat => (i : Int))).filter p
theorem allTo_succ {p : Int → Bool} {i : Nat} : allTo p (i + 1) = if p (i : Int) = true then allTo p i ++ [(i : Int)] else allTo p i := by
  rw [allTo, List.range_succ, List.map_append, List.filter_append]
  split
  · rename_i h
    simp only [List.map_cons, List.map_nil, List.filter_cons_of_pos h, List.filter_nil]; rfl
  · rename_i h
    simp only [List.map_cons, List.map_nil, List.filter_cons_of_neg h, List.filter_nil, List.append_nil]; rfl
theorem allTo_len {p : Int → Bool} (i : Nat) : (allTo p i).length ≤ i := by
  have := List.length_filter_le p ((List.range i).map (fun i : Nat => (i : Int)))
  rw [List.length_map, List.length_range] at this
  exact this
theorem pow_leN {n : Nat} (h : n ≤ 10) : 2 ^ n ≤ 1024 := Nat.pow_le_pow_right (n := 2) (by omega) h
theorem two_pow {n : Nat} (h : n ≤ 10) : IntKind.wrap .u16 (1 * 2 ^ min (Int.toNat (n : Int)) (IntKind.bits .u16)) = ((2 ^ n : Nat) : Int) := by
  have hp := pow_leN h
  have hm : min (Int.toNat (n : Int)) (IntKind.bits .u16) = n := by rw [Int.toNat_natCast]; show min n 16 = n; omega
  have e : ((2 ^ n : Nat) : Int) = 2 ^ n := by push_cast; rfl
  rw [hm, Int.one_mul, ← e]
  exact wrapU (by omega)
def cminD : Ctr := { ps := [.v I64, .clo 78 [.slc false U16]], rs := [.slc true U16], pre := fun x => LE.le (α := Int) 1 x.1 ∧ LE.le (α := Int) x.1 10 ∧ True, fn := fun x => (minF (Int.toNat x.1) (meetsP x.2.1.1), ()), out := fun _ => () }
noncomputable def EminD : Env := { P := Try.prog, tt := tt, ctr := [(78, cdua1), (129, csortU), (77, ccontains)], res := [Go.ResultVar.tmp 4], rs := [Ty.slc true (Ty.int IntKind.u16)], ps := [PK.v (Ty.int IntKind.i64), PK.clo 78 [Ty.slc false (Ty.int IntKind.u16)]], cuts := [(3, [(1, none), (5, some (Ty.slc true (Ty.int IntKind.u16))), (11, none), (12, none)]), (11, [(7, some (Ty.slc true (Ty.int IntKind.u16))), (25, some (Ty.slc true (Ty.int IntKind.u16))), (26, none), (27, none)])], nt := 41 }
theorem EminD_ok : EnvOk EminD := envOk tt_ok ⟨cdua1_valid, csortU_valid, ccontains_valid, trivial⟩
theorem FminD_ok : FnOk EminD Try.f75 := ⟨rfl, rfl⟩
theorem EminD_t (x0 : Int) (x1c0 : List Int) : exec EminD 1000 [.code (bodyOf Try.prog 75)] (initSt cminD.ps ((x0, (x1c0, ()), ()))) =
  .need ((0 : Int) ≤ x0) (.cut (loopAt (bodyOf Try.prog 75) 3).1 (loopAt (bodyOf Try.prog 75) 3).2 (St.mk [(1, AV.clo 78 (AV.cons (AV.rptr (Ty.slc false (Ty.int IntKind.u16)) x1c0) AV.nil)), (5, AV.at_ 1000005 []), (11, AV.val (Ty.int IntKind.u16) (IntKind.wrap IntKind.u16 ((1 : Int) * (2 : Int) ^ min (Int.toNat x0) (IntKind.bits IntKind.u16)))), (12, AV.val (Ty.int IntKind.u16) (0 : Int))] [(1000005, Ent.own (Ty.slc true (Ty.int IntKind.u16)) [])])) := by kernel_rfl
def EminD_s3 (v1a : List Int) (v11 : Int) (v12 : Int) (o1000005 : List Int) : St := St.mk [(1, AV.clo 78 (AV.cons (AV.rptr (Ty.slc false (Ty.int IntKind.u16)) v1a) AV.nil)), (5, AV.at_ 1000005 []), (11, AV.val (Ty.int IntKind.u16) v11), (12, AV.val (Ty.int IntKind.u16) v12)] [(1000005, Ent.own (Ty.slc true (Ty.int IntKind.u16)) o1000005)]
theorem EminD_l3 (v1a : List Int) (v11 : Int) (v12 : Int) (o1000005 : List Int) : exec EminD 1000 (.code (loopAt (bodyOf Try.prog 75) 3).1 :: .inLoop (loopAt (bodyOf Try.prog 75) 3).1 :: (loopAt (bodyOf Try.prog 75) 3).2) (EminD_s3 v1a v11 v12 o1000005) =
  cond (decide (v12 < v11)) (.need (True) (cond (meetsP v1a v12) (.need (List.length o1000005 + List.length (List.set [(0 : Int)] (Int.toNat (↑0 : Int)) v12) ≤ 140737488355328 ∧ (List.length o1000005 + List.length (List.set [(0 : Int)] (Int.toNat (↑0 : Int)) v12)) * Ty.wb (Ty.int IntKind.u16) ≤ 140737488355328) (.cut (loopAt (bodyOf Try.prog 75) 3).1 (loopAt (bodyOf Try.prog 75) 3).2 (St.mk [(1, AV.clo 78 (AV.cons (AV.rptr (Ty.slc false (Ty.int IntKind.u16)) v1a) AV.nil)), (5, AV.at_ 1000005 []), (11, AV.val (Ty.int IntKind.u16) v11), (12, AV.val (Ty.int IntKind.u16) (IntKind.wrap IntKind.u16 (v12 + (1 : Int))))] [(1000005, Ent.own (Ty.slc true (Ty.int IntKind.u16)) (o1000005 ++ List.set [(0 : Int)] (Int.toNat (↑0 : Int)) v12))]))) (.cut (loopAt (bodyOf Try.prog 75) 3).1 (loopAt (bodyOf Try.prog 75) 3).2 (St.mk [(1, AV.clo 78 (AV.cons (AV.rptr (Ty.slc false (Ty.int IntKind.u16)) v1a) AV.nil)), (5, AV.at_ 1000005 []), (11, AV.val (Ty.int IntKind.u16) v11), (12, AV.val (Ty.int IntKind.u16) (IntKind.wrap IntKind.u16 (v12 + (1 : Int))))] [(1000005, Ent.own (Ty.slc true (Ty.int IntKind.u16)) o1000005)])))) (.need (List.length o1000005 ≤ 1048576 ∧ (∀ (a : Ty.den U16), a ∈ o1000005 → True) ∧ ∀ (a : Ty.den U16), a ∈ o1000005 → ∀ (b : Ty.den U16), b ∈ o1000005 → ltD qcmp a b = false → ltD qcmp b a = false → a = b) (.cut (loopAt (bodyOf Try.prog 75) 11).1 (loopAt (bodyOf Try.prog 75) 11).2 (St.mk [(7, AV.at_ 1000007 []), (25, AV.at_ 1000025 []), (26, AV.val (Ty.int IntKind.i64) (↑(List.length (sortBy (ltD qcmp) o1000005)) : Int)), (27, AV.val (Ty.int IntKind.i64) (0 : Int))] [(1000007, Ent.own (Ty.slc true (Ty.int IntKind.u16)) []), (1000025, Ent.own (Ty.slc true (Ty.int IntKind.u16)) (sortBy (ltD qcmp) o1000005))]))) := by kernel_rfl
def EminD_s11 (v26 : Int) (v27 : Int) (o1000007 : List Int) (o1000025 : List Int) : St := St.mk [(7, AV.at_ 1000007 []), (25, AV.at_ 1000025 []), (26, AV.val (Ty.int IntKind.i64) v26), (27, AV.val (Ty.int IntKind.i64) v27)] [(1000007, Ent.own (Ty.slc true (Ty.int IntKind.u16)) o1000007), (1000025, Ent.own (Ty.slc true (Ty.int IntKind.u16)) o1000025)]
theorem EminD_l11 (v26 : Int) (v27 : Int) (o1000007 : List Int) (o1000025 : List Int) : exec EminD 1000 (.code (loopAt (bodyOf Try.prog 75) 11).1 :: .inLoop (loopAt (bodyOf Try.prog 75) 11).1 :: (loopAt (bodyOf Try.prog 75) 11).2) (EminD_s11 v26 v27 o1000007 o1000025) =
  cond (decide (v27 < v26)) (.need ((0 : Int) ≤ v27 ∧ v27 < (↑(List.length o1000025) : Int)) (.need (True) (cond (!hasQ o1000007 (List.getD o1000025 (Int.toNat v27) (0 : Int))) (.need (List.length o1000007 + List.length (List.set [(0 : Int)] (Int.toNat (↑0 : Int)) (List.getD o1000025 (Int.toNat v27) (0 : Int))) ≤ 140737488355328 ∧ (List.length o1000007 + List.length (List.set [(0 : Int)] (Int.toNat (↑0 : Int)) (List.getD o1000025 (Int.toNat v27) (0 : Int)))) * Ty.wb (Ty.int IntKind.u16) ≤ 140737488355328) (.need (inK IntKind.i64 (v27 + (1 : Int))) (.cut (loopAt (bodyOf Try.prog 75) 11).1 (loopAt (bodyOf Try.prog 75) 11).2 (St.mk [(7, AV.at_ 1000007 []), (25, AV.at_ 1000025 []), (26, AV.val (Ty.int IntKind.i64) v26), (27, AV.val (Ty.int IntKind.i64) (v27 + (1 : Int)))] [(1000007, Ent.own (Ty.slc true (Ty.int IntKind.u16)) (o1000007 ++ List.set [(0 : Int)] (Int.toNat (↑0 : Int)) (List.getD o1000025 (Int.toNat v27) (0 : Int)))), (1000025, Ent.own (Ty.slc true (Ty.int IntKind.u16)) o1000025)])))) (.need (inK IntKind.i64 (v27 + (1 : Int))) (.cut (loopAt (bodyOf Try.prog 75) 11).1 (loopAt (bodyOf Try.prog 75) 11).2 (St.mk [(7, AV.at_ 1000007 []), (25, AV.at_ 1000025 []), (26, AV.val (Ty.int IntKind.i64) v26), (27, AV.val (Ty.int IntKind.i64) (v27 + (1 : Int)))] [(1000007, Ent.own (Ty.slc true (Ty.int IntKind.u16)) o1000007), (1000025, Ent.own (Ty.slc true (Ty.int IntKind.u16)) o1000025)])))))) (.ret ((o1000007, ()))) := by kernel_rfl
theorem cminD_valid : cminD.Valid Try.prog 75 := by
  refine Ctr.valid_of EminD_ok rfl rfl Try.func75 (c := bodyOf Try.prog 75) rfl rfl FminD_ok rfl ?_
  rintro ⟨(n0 : Int), ⟨(l : List Int), ⟨⟩⟩, ⟨⟩⟩ ⟨(h1 : 1 ≤ n0), (h2 : n0 ≤ 10), (hc : True)⟩ -
  obtain ⟨n, rfl⟩ : ∃ n : Nat, n0 = n := ⟨n0.toNat, by omega⟩
  have hn : n ≤ 10 := by omega
  refine exec_sound (n := 1000) EminD_ok FminD_ok ?_
  refine holds_of_eq (EminD_t (n : Int) l) ?_
  refine ⟨by omega, fun _ => ?_⟩
  rw [two_pow hn]
  have hp : 2 ^ n ≤ 1024 := pow_leN hn
  refine Reach.loopI EminD_ok FminD_ok (fun i : Nat => EminD_s3 l ((2 ^ n : Nat) : Int) (i : Int) (allTo (meetsP l) i)) (fun i => i ≤ 2 ^ n) (fun i => 2 ^ n - i) 1000 (fun _ => ⟨uniq_of rfl, uniq_of rfl⟩) ?_ 0 (Nat.zero_le _)
  rintro i k1 - ih
  have k1 : i ≤ 2 ^ n := k1
  refine holds_of_eq (EminD_l3 ..) ?_
  have hw : IntKind.wrap .u16 ((i : Int) + 1) = ((i + 1 : Nat) : Int) := by rw [show (i : Int) + 1 = ((i + 1 : Nat) : Int) by omega]; exact wrapU (by omega)
  have hl := allTo_len (p := meetsP l) i
  simp only [holds_cond, Tree.holds, true_and, true_implies, decide_eq_true_eq, decide_eq_false_iff_not, Bool.not_eq_true', Bool.not_eq_false', Int.toNat_natCast, inK_i64, List.length_set, List.length_cons, List.length_nil, wb_u16]
  rw [hw]
  refine ⟨fun c => ?_, fun c => ⟨⟨by omega, fun _ _ => trivial, fun a _ b _ => qtie⟩, fun _ => ?_⟩⟩
  · have next := ih (i + 1) (by show i + 1 ≤ 2 ^ n; omega) (by omega)
    rw [allTo_succ] at next
    refine ⟨fun d => ?_, fun d => ?_⟩
    · have d : (meetsP l) (i : Int) = true := d
      rw [if_pos d] at next
      have e1 : ([0] : List Int).set (Int.toNat 0) (i : Int) = [(i : Int)] := rfl
      rw [e1]
      exact ⟨by omega, fun _ => next⟩
    · have d : (meetsP l) (i : Int) = false := d
      rw [if_neg (by rw [d]; simp)] at next
      exact next
  · obtain rfl : i = 2 ^ n := by omega
    have hall : allTo (meetsP l) (2 ^ n) = allQ n (meetsP l) := rfl
    rw [hall] at hl ⊢
    have hsl : (sortBy (ltD qcmp) (allQ n (meetsP l))).length ≤ 1024 := by rw [(sortBy_perm _ _).length_eq]; omega
    show _
    have hfn : minF (Int.toNat (n : Int)) (meetsP l) = minGo (sortBy (ltD qcmp) (allQ n (meetsP l))) [] := rfl
    generalize hL : sortBy (ltD qcmp) (allQ n (meetsP l)) = L at *
    refine Reach.loopI EminD_ok FminD_ok (fun s : Nat × List Int => EminD_s11 (L.length : Int) (s.1 : Int) s.2 L) (fun s => s.1 ≤ L.length ∧ s.2.length ≤ s.1 ∧ minGo L [] = minGo (L.drop s.1) s.2) (fun s => L.length - s.1) 1000 (fun _ => ⟨uniq_of rfl, uniq_of rfl⟩) ?_ (0, []) ⟨Nat.zero_le _, Nat.le_refl _, rfl⟩
    rintro ⟨j, out⟩ ⟨(k2 : j ≤ L.length), (k3 : out.length ≤ j), (k4 : minGo L [] = minGo (L.drop j) out)⟩ - ih2
    refine holds_of_eq (EminD_l11 ..) ?_
    simp only [holds_cond, Tree.holds, true_and, true_implies, decide_eq_true_eq, decide_eq_false_iff_not, Bool.not_eq_true', Bool.not_eq_false', Int.toNat_natCast, inK_i64, List.length_set, List.length_cons, List.length_nil, wb_u16]
    refine ⟨fun c2 => ⟨by omega, fun _ => ?_⟩, fun c2 => ?_⟩
    · have hj : j < L.length := by omega
      rw [drop_getD hj 0, minGo] at k4
      refine ⟨fun d => ?_, fun d => ⟨by omega, fun _ => ?_⟩⟩
      · rw [if_neg (by rw [d]; simp)] at k4
        have e1 : ([0] : List Int).set (Int.toNat 0) (L.getD j 0) = [L.getD j 0] := rfl
        rw [e1]
        exact ⟨by omega, fun _ => ⟨by omega, fun _ => ih2 (j + 1, out ++ [L.getD j 0]) ⟨hj, by simp only [List.length_append, List.length_singleton]; omega, k4⟩ (by show L.length - (j + 1) < L.length - j; omega)⟩⟩
      · rw [if_pos d] at k4
        exact ih2 (j + 1, out) ⟨hj, by show out.length ≤ j + 1; omega, k4⟩ (by show L.length - (j + 1) < L.length - j; omega)
    · rw [List.drop_eq_nil_of_le (by omega), minGo] at k4
      show ((out, ()) : List Int × Unit) = (minF (Int.toNat (n : Int)) (meetsP l), ())
      rw [hfn, k4]
def cminG : Ctr := { ps := [.v I64, .clo 93 [.slc false U16]], rs := [.slc true U16], pre := fun x => LE.le (α := Int) 1 x.1 ∧ LE.le (α := Int) x.1 10 ∧ True, fn := fun x => (minF (Int.toNat x.1) (inL x.2.1.1), ()), out := fun _ => () }
noncomputable def EminG : Env := { P := Try.prog, tt := tt, ctr := [(93, cgri1), (129, csortU), (77, ccontains)], res := [Go.ResultVar.tmp 4], rs := [Ty.slc true (Ty.int IntKind.u16)], ps := [PK.v (Ty.int IntKind.i64), PK.clo 93 [Ty.slc false (Ty.int IntKind.u16)]], cuts := [(3, [(1, none), (5, some (Ty.slc true (Ty.int IntKind.u16))), (11, none), (12, none)]), (11, [(7, some (Ty.slc true (Ty.int IntKind.u16))), (25, some (Ty.slc true (Ty.int IntKind.u16))), (26, none), (27, none)])], nt := 41 }
theorem EminG_ok : EnvOk EminG := envOk tt_ok ⟨cgri1_valid, csortU_valid, ccontains_valid, trivial⟩
theorem FminG_ok : FnOk EminG Try.f75 := ⟨rfl, rfl⟩
theorem EminG_t (x0 : Int) (x1c0 : List Int) : exec EminG 1000 [.code (bodyOf Try.prog 75)] (initSt cminG.ps ((x0, (x1c0, ()), ()))) =
  .need ((0 : Int) ≤ x0) (.cut (loopAt (bodyOf Try.prog 75) 3).1 (loopAt (bodyOf Try.prog 75) 3).2 (St.mk [(1, AV.clo 93 (AV.cons (AV.rptr (Ty.slc false (Ty.int IntKind.u16)) x1c0) AV.nil)), (5, AV.at_ 1000005 []), (11, AV.val (Ty.int IntKind.u16) (IntKind.wrap IntKind.u16 ((1 : Int) * (2 : Int) ^ min (Int.toNat x0) (IntKind.bits IntKind.u16)))), (12, AV.val (Ty.int IntKind.u16) (0 : Int))] [(1000005, Ent.own (Ty.slc true (Ty.int IntKind.u16)) [])])) := by kernel_rfl
def EminG_s3 (v1a : List Int) (v11 : Int) (v12 : Int) (o1000005 : List Int) : St := St.mk [(1, AV.clo 93 (AV.cons (AV.rptr (Ty.slc false (Ty.int IntKind.u16)) v1a) AV.nil)), (5, AV.at_ 1000005 []), (11, AV.val (Ty.int IntKind.u16) v11), (12, AV.val (Ty.int IntKind.u16) v12)] [(1000005, Ent.own (Ty.slc true (Ty.int IntKind.u16)) o1000005)]
theorem EminG_l3 (v1a : List Int) (v11 : Int) (v12 : Int) (o1000005 : List Int) : exec EminG 1000 (.code (loopAt (bodyOf Try.prog 75) 3).1 :: .inLoop (loopAt (bodyOf Try.prog 75) 3).1 :: (loopAt (bodyOf Try.prog 75) 3).2) (EminG_s3 v1a v11 v12 o1000005) =
  cond (decide (v12 < v11)) (.need (True) (cond (inL v1a v12) (.need (List.length o1000005 + List.length (List.set [(0 : Int)] (Int.toNat (↑0 : Int)) v12) ≤ 140737488355328 ∧ (List.length o1000005 + List.length (List.set [(0 : Int)] (Int.toNat (↑0 : Int)) v12)) * Ty.wb (Ty.int IntKind.u16) ≤ 140737488355328) (.cut (loopAt (bodyOf Try.prog 75) 3).1 (loopAt (bodyOf Try.prog 75) 3).2 (St.mk [(1, AV.clo 93 (AV.cons (AV.rptr (Ty.slc false (Ty.int IntKind.u16)) v1a) AV.nil)), (5, AV.at_ 1000005 []), (11, AV.val (Ty.int IntKind.u16) v11), (12, AV.val (Ty.int IntKind.u16) (IntKind.wrap IntKind.u16 (v12 + (1 : Int))))] [(1000005, Ent.own (Ty.slc true (Ty.int IntKind.u16)) (o1000005 ++ List.set [(0 : Int)] (Int.toNat (↑0 : Int)) v12))]))) (.cut (loopAt (bodyOf Try.prog 75) 3).1 (loopAt (bodyOf Try.prog 75) 3).2 (St.mk [(1, AV.clo 93 (AV.cons (AV.rptr (Ty.slc false (Ty.int IntKind.u16)) v1a) AV.nil)), (5, AV.at_ 1000005 []), (11, AV.val (Ty.int IntKind.u16) v11), (12, AV.val (Ty.int IntKind.u16) (IntKind.wrap IntKind.u16 (v12 + (1 : Int))))] [(1000005, Ent.own (Ty.slc true (Ty.int IntKind.u16)) o1000005)])))) (.need (List.length o1000005 ≤ 1048576 ∧ (∀ (a : Ty.den U16), a ∈ o1000005 → True) ∧ ∀ (a : Ty.den U16), a ∈ o1000005 → ∀ (b : Ty.den U16), b ∈ o1000005 → ltD qcmp a b = false → ltD qcmp b a = false → a = b) (.cut (loopAt (bodyOf Try.prog 75) 11).1 (loopAt (bodyOf Try.prog 75) 11).2 (St.mk [(7, AV.at_ 1000007 []), (25, AV.at_ 1000025 []), (26, AV.val (Ty.int IntKind.i64) (↑(List.length (sortBy (ltD qcmp) o1000005)) : Int)), (27, AV.val (Ty.int IntKind.i64) (0 : Int))] [(1000007, Ent.own (Ty.slc true (Ty.int IntKind.u16)) []), (1000025, Ent.own (Ty.slc true (Ty.int IntKind.u16)) (sortBy (ltD qcmp) o1000005))]))) := by kernel_rfl
def EminG_s11 (v26 : Int) (v27 : Int) (o1000007 : List Int) (o1000025 : List Int) : St := St.mk [(7, AV.at_ 1000007 []), (25, AV.at_ 1000025 []), (26, AV.val (Ty.int IntKind.i64) v26), (27, AV.val (Ty.int IntKind.i64) v27)] [(1000007, Ent.own (Ty.slc true (Ty.int IntKind.u16)) o1000007), (1000025, Ent.own (Ty.slc true (Ty.int IntKind.u16)) o1000025)]
theorem EminG_l11 (v26 : Int) (v27 : Int) (o1000007 : List Int) (o1000025 : List Int) : exec EminG 1000 (.code (loopAt (bodyOf Try.prog 75) 11).1 :: .inLoop (loopAt (bodyOf Try.prog 75) 11).1 :: (loopAt (bodyOf Try.prog 75) 11).2) (EminG_s11 v26 v27 o1000007 o1000025) =
  cond (decide (v27 < v26)) (.need ((0 : Int) ≤ v27 ∧ v27 < (↑(List.length o1000025) : Int)) (.need (True) (cond (!hasQ o1000007 (List.getD o1000025 (Int.toNat v27) (0 : Int))) (.need (List.length o1000007 + List.length (List.set [(0 : Int)] (Int.toNat (↑0 : Int)) (List.getD o1000025 (Int.toNat v27) (0 : Int))) ≤ 140737488355328 ∧ (List.length o1000007 + List.length (List.set [(0 : Int)] (Int.toNat (↑0 : Int)) (List.getD o1000025 (Int.toNat v27) (0 : Int)))) * Ty.wb (Ty.int IntKind.u16) ≤ 140737488355328) (.need (inK IntKind.i64 (v27 + (1 : Int))) (.cut (loopAt (bodyOf Try.prog 75) 11).1 (loopAt (bodyOf Try.prog 75) 11).2 (St.mk [(7, AV.at_ 1000007 []), (25, AV.at_ 1000025 []), (26, AV.val (Ty.int IntKind.i64) v26), (27, AV.val (Ty.int IntKind.i64) (v27 + (1 : Int)))] [(1000007, Ent.own (Ty.slc true (Ty.int IntKind.u16)) (o1000007 ++ List.set [(0 : Int)] (Int.toNat (↑0 : Int)) (List.getD o1000025 (Int.toNat v27) (0 : Int)))), (1000025, Ent.own (Ty.slc true (Ty.int IntKind.u16)) o1000025)])))) (.need (inK IntKind.i64 (v27 + (1 : Int))) (.cut (loopAt (bodyOf Try.prog 75) 11).1 (loopAt (bodyOf Try.prog 75) 11).2 (St.mk [(7, AV.at_ 1000007 []), (25, AV.at_ 1000025 []), (26, AV.val (Ty.int IntKind.i64) v26), (27, AV.val (Ty.int IntKind.i64) (v27 + (1 : Int)))] [(1000007, Ent.own (Ty.slc true (Ty.int IntKind.u16)) o1000007), (1000025, Ent.own (Ty.slc true (Ty.int IntKind.u16)) o1000025)])))))) (.ret ((o1000007, ()))) := by kernel_rfl
theorem cminG_valid : cminG.Valid Try.prog 75 := by
  refine Ctr.valid_of EminG_ok rfl rfl Try.func75 (c := bodyOf Try.prog 75) rfl rfl FminG_ok rfl ?_
  rintro ⟨(n0 : Int), ⟨(l : List Int), ⟨⟩⟩, ⟨⟩⟩ ⟨(h1 : 1 ≤ n0), (h2 : n0 ≤ 10), (hc : True)⟩ -
  obtain ⟨n, rfl⟩ : ∃ n : Nat, n0 = n := ⟨n0.toNat, by omega⟩
  have hn : n ≤ 10 := by omega
  refine exec_sound (n := 1000) EminG_ok FminG_ok ?_
  refine holds_of_eq (EminG_t (n : Int) l) ?_
  refine ⟨by omega, fun _ => ?_⟩
  rw [two_pow hn]
  have hp : 2 ^ n ≤ 1024 := pow_leN hn
  refine Reach.loopI EminG_ok FminG_ok (fun i : Nat => EminG_s3 l ((2 ^ n : Nat) : Int) (i : Int) (allTo (inL l) i)) (fun i => i ≤ 2 ^ n) (fun i => 2 ^ n - i) 1000 (fun _ => ⟨uniq_of rfl, uniq_of rfl⟩) ?_ 0 (Nat.zero_le _)
  rintro i k1 - ih
  have k1 : i ≤ 2 ^ n := k1
  refine holds_of_eq (EminG_l3 ..) ?_
  have hw : IntKind.wrap .u16 ((i : Int) + 1) = ((i + 1 : Nat) : Int) := by rw [show (i : Int) + 1 = ((i + 1 : Nat) : Int) by omega]; exact wrapU (by omega)
  have hl := allTo_len (p := inL l) i
  simp only [holds_cond, Tree.holds, true_and, true_implies, decide_eq_true_eq, decide_eq_false_iff_not, Bool.not_eq_true', Bool.not_eq_false', Int.toNat_natCast, inK_i64, List.length_set, List.length_cons, List.length_nil, wb_u16]
  rw [hw]
  refine ⟨fun c => ?_, fun c => ⟨⟨by omega, fun _ _ => trivial, fun a _ b _ => qtie⟩, fun _ => ?_⟩⟩
  · have next := ih (i + 1) (by show i + 1 ≤ 2 ^ n; omega) (by omega)
    rw [allTo_succ] at next
    refine ⟨fun d => ?_, fun d => ?_⟩
    · have d : (inL l) (i : Int) = true := d
      rw [if_pos d] at next
      have e1 : ([0] : List Int).set (Int.toNat 0) (i : Int) = [(i : Int)] := rfl
      rw [e1]
      exact ⟨by omega, fun _ => next⟩
    · have d : (inL l) (i : Int) = false := d
      rw [if_neg (by rw [d]; simp)] at next
      exact next
  · obtain rfl : i = 2 ^ n := by omega
    have hall : allTo (inL l) (2 ^ n) = allQ n (inL l) := rfl
    rw [hall] at hl ⊢
    have hsl : (sortBy (ltD qcmp) (allQ n (inL l))).length ≤ 1024 := by rw [(sortBy_perm _ _).length_eq]; omega
    show _
    have hfn : minF (Int.toNat (n : Int)) (inL l) = minGo (sortBy (ltD qcmp) (allQ n (inL l))) [] := rfl
    generalize hL : sortBy (ltD qcmp) (allQ n (inL l)) = L at *
    refine Reach.loopI EminG_ok FminG_ok (fun s : Nat × List Int => EminG_s11 (L.length : Int) (s.1 : Int) s.2 L) (fun s => s.1 ≤ L.length ∧ s.2.length ≤ s.1 ∧ minGo L [] = minGo (L.drop s.1) s.2) (fun s => L.length - s.1) 1000 (fun _ => ⟨uniq_of rfl, uniq_of rfl⟩) ?_ (0, []) ⟨Nat.zero_le _, Nat.le_refl _, rfl⟩
    rintro ⟨j, out⟩ ⟨(k2 : j ≤ L.length), (k3 : out.length ≤ j), (k4 : minGo L [] = minGo (L.drop j) out)⟩ - ih2
    refine holds_of_eq (EminG_l11 ..) ?_
    simp only [holds_cond, Tree.holds, true_and, true_implies, decide_eq_true_eq, decide_eq_false_iff_not, Bool.not_eq_true', Bool.not_eq_false', Int.toNat_natCast, inK_i64, List.length_set, List.length_cons, List.length_nil, wb_u16]
    refine ⟨fun c2 => ⟨by omega, fun _ => ?_⟩, fun c2 => ?_⟩
    · have hj : j < L.length := by omega
      rw [drop_getD hj 0, minGo] at k4
      refine ⟨fun d => ?_, fun d => ⟨by omega, fun _ => ?_⟩⟩
      · rw [if_neg (by rw [d]; simp)] at k4
        have e1 : ([0] : List Int).set (Int.toNat 0) (L.getD j 0) = [L.getD j 0] := rfl
        rw [e1]
        exact ⟨by omega, fun _ => ⟨by omega, fun _ => ih2 (j + 1, out ++ [L.getD j 0]) ⟨hj, by simp only [List.length_append, List.length_singleton]; omega, k4⟩ (by show L.length - (j + 1) < L.length - j; omega)⟩⟩
      · rw [if_pos d] at k4
        exact ih2 (j + 1, out) ⟨hj, by show out.length ≤ j + 1; omega, k4⟩ (by show L.length - (j + 1) < L.length - j; omega)
    · rw [List.drop_eq_nil_of_le (by omega), minGo] at k4
      show ((out, ()) : List Int × Unit) = (minF (Int.toNat (n : Int)) (inL l), ())
      rw [hfn, k4]
def cminV : Ctr := { ps := [.v I64, .clo 76 [.slc false I64, I64]], rs := [.slc true U16], pre := fun x => LE.le (α := Int) 1 x.1 ∧ LE.le (α := Int) x.1 10 ∧ vokP x.2.1.1, fn := fun x => (minF (Int.toNat x.1) (enoughV x.2.1.1 x.2.1.2.1), ()), out := fun _ => () }
noncomputable def EminV : Env := { P := Try.prog, tt := tt, ctr := [(76, cvot2), (129, csortU), (77, ccontains)], res := [Go.ResultVar.tmp 4], rs := [Ty.slc true (Ty.int IntKind.u16)], ps := [PK.v (Ty.int IntKind.i64), PK.clo 76 [Ty.slc false (Ty.int IntKind.i64), Ty.int IntKind.i64]], cuts := [(3, [(1, none), (5, some (Ty.slc true (Ty.int IntKind.u16))), (11, none), (12, none)]), (11, [(7, some (Ty.slc true (Ty.int IntKind.u16))), (25, some (Ty.slc true (Ty.int IntKind.u16))), (26, none), (27, none)])], nt := 41 }
theorem EminV_ok : EnvOk EminV := envOk tt_ok ⟨cvot2_valid, csortU_valid, ccontains_valid, trivial⟩
theorem FminV_ok : FnOk EminV Try.f75 := ⟨rfl, rfl⟩
theorem EminV_t (x0 : Int) (x1c0 : List Int) (x1c1 : Int) : exec EminV 1000 [.code (bodyOf Try.prog 75)] (initSt cminV.ps ((x0, (x1c0, x1c1, ()), ()))) =
  .need ((0 : Int) ≤ x0) (.cut (loopAt (bodyOf Try.prog 75) 3).1 (loopAt (bodyOf Try.prog 75) 3).2 (St.mk [(1, AV.clo 76 (AV.cons (AV.rptr (Ty.slc false (Ty.int IntKind.i64)) x1c0) (AV.cons (AV.rptr (Ty.int IntKind.i64) x1c1) AV.nil))), (5, AV.at_ 1000005 []), (11, AV.val (Ty.int IntKind.u16) (IntKind.wrap IntKind.u16 ((1 : Int) * (2 : Int) ^ min (Int.toNat x0) (IntKind.bits IntKind.u16)))), (12, AV.val (Ty.int IntKind.u16) (0 : Int))] [(1000005, Ent.own (Ty.slc true (Ty.int IntKind.u16)) [])])) := by kernel_rfl
def EminV_s3 (v1a : List Int) (v1ba : Int) (v11 : Int) (v12 : Int) (o1000005 : List Int) : St := St.mk [(1, AV.clo 76 (AV.cons (AV.rptr (Ty.slc false (Ty.int IntKind.i64)) v1a) (AV.cons (AV.rptr (Ty.int IntKind.i64) v1ba) AV.nil))), (5, AV.at_ 1000005 []), (11, AV.val (Ty.int IntKind.u16) v11), (12, AV.val (Ty.int IntKind.u16) v12)] [(1000005, Ent.own (Ty.slc true (Ty.int IntKind.u16)) o1000005)]
theorem EminV_l3 (v1a : List Int) (v1ba : Int) (v11 : Int) (v12 : Int) (o1000005 : List Int) : exec EminV 1000 (.code (loopAt (bodyOf Try.prog 75) 3).1 :: .inLoop (loopAt (bodyOf Try.prog 75) 3).1 :: (loopAt (bodyOf Try.prog 75) 3).2) (EminV_s3 v1a v1ba v11 v12 o1000005) =
  cond (decide (v12 < v11)) (.need (vokP v1a) (cond (enoughV v1a v1ba v12) (.need (List.length o1000005 + List.length (List.set [(0 : Int)] (Int.toNat (↑0 : Int)) v12) ≤ 140737488355328 ∧ (List.length o1000005 + List.length (List.set [(0 : Int)] (Int.toNat (↑0 : Int)) v12)) * Ty.wb (Ty.int IntKind.u16) ≤ 140737488355328) (.cut (loopAt (bodyOf Try.prog 75) 3).1 (loopAt (bodyOf Try.prog 75) 3).2 (St.mk [(1, AV.clo 76 (AV.cons (AV.rptr (Ty.slc false (Ty.int IntKind.i64)) v1a) (AV.cons (AV.rptr (Ty.int IntKind.i64) v1ba) AV.nil))), (5, AV.at_ 1000005 []), (11, AV.val (Ty.int IntKind.u16) v11), (12, AV.val (Ty.int IntKind.u16) (IntKind.wrap IntKind.u16 (v12 + (1 : Int))))] [(1000005, Ent.own (Ty.slc true (Ty.int IntKind.u16)) (o1000005 ++ List.set [(0 : Int)] (Int.toNat (↑0 : Int)) v12))]))) (.cut (loopAt (bodyOf Try.prog 75) 3).1 (loopAt (bodyOf Try.prog 75) 3).2 (St.mk [(1, AV.clo 76 (AV.cons (AV.rptr (Ty.slc false (Ty.int IntKind.i64)) v1a) (AV.cons (AV.rptr (Ty.int IntKind.i64) v1ba) AV.nil))), (5, AV.at_ 1000005 []), (11, AV.val (Ty.int IntKind.u16) v11), (12, AV.val (Ty.int IntKind.u16) (IntKind.wrap IntKind.u16 (v12 + (1 : Int))))] [(1000005, Ent.own (Ty.slc true (Ty.int IntKind.u16)) o1000005)])))) (.need (List.length o1000005 ≤ 1048576 ∧ (∀ (a : Ty.den U16), a ∈ o1000005 → True) ∧ ∀ (a : Ty.den U16), a ∈ o1000005 → ∀ (b : Ty.den U16), b ∈ o1000005 → ltD qcmp a b = false → ltD qcmp b a = false → a = b) (.cut (loopAt (bodyOf Try.prog 75) 11).1 (loopAt (bodyOf Try.prog 75) 11).2 (St.mk [(7, AV.at_ 1000007 []), (25, AV.at_ 1000025 []), (26, AV.val (Ty.int IntKind.i64) (↑(List.length (sortBy (ltD qcmp) o1000005)) : Int)), (27, AV.val (Ty.int IntKind.i64) (0 : Int))] [(1000007, Ent.own (Ty.slc true (Ty.int IntKind.u16)) []), (1000025, Ent.own (Ty.slc true (Ty.int IntKind.u16)) (sortBy (ltD qcmp) o1000005))]))) := by kernel_rfl
def EminV_s11 (v26 : Int) (v27 : Int) (o1000007 : List Int) (o1000025 : List Int) : St := St.mk [(7, AV.at_ 1000007 []), (25, AV.at_ 1000025 []), (26, AV.val (Ty.int IntKind.i64) v26), (27, AV.val (Ty.int IntKind.i64) v27)] [(1000007, Ent.own (Ty.slc true (Ty.int IntKind.u16)) o1000007), (1000025, Ent.own (Ty.slc true (Ty.int IntKind.u16)) o1000025)]
theorem EminV_l11 (v26 : Int) (v27 : Int) (o1000007 : List Int) (o1000025 : List Int) : exec EminV 1000 (.code (loopAt (bodyOf Try.prog 75) 11).1 :: .inLoop (loopAt (bodyOf Try.prog 75) 11).1 :: (loopAt (bodyOf Try.prog 75) 11).2) (EminV_s11 v26 v27 o1000007 o1000025) =
  cond (decide (v27 < v26)) (.need ((0 : Int) ≤ v27 ∧ v27 < (↑(List.length o1000025) : Int)) (.need (True) (cond (!hasQ o1000007 (List.getD o1000025 (Int.toNat v27) (0 : Int))) (.need (List.length o1000007 + List.length (List.set [(0 : Int)] (Int.toNat (↑0 : Int)) (List.getD o1000025 (Int.toNat v27) (0 : Int))) ≤ 140737488355328 ∧ (List.length o1000007 + List.length (List.set [(0 : Int)] (Int.toNat (↑0 : Int)) (List.getD o1000025 (Int.toNat v27) (0 : Int)))) * Ty.wb (Ty.int IntKind.u16) ≤ 140737488355328) (.need (inK IntKind.i64 (v27 + (1 : Int))) (.cut (loopAt (bodyOf Try.prog 75) 11).1 (loopAt (bodyOf Try.prog 75) 11).2 (St.mk [(7, AV.at_ 1000007 []), (25, AV.at_ 1000025 []), (26, AV.val (Ty.int IntKind.i64) v26), (27, AV.val (Ty.int IntKind.i64) (v27 + (1 : Int)))] [(1000007, Ent.own (Ty.slc true (Ty.int IntKind.u16)) (o1000007 ++ List.set [(0 : Int)] (Int.toNat (↑0 : Int)) (List.getD o1000025 (Int.toNat v27) (0 : Int)))), (1000025, Ent.own (Ty.slc true (Ty.int IntKind.u16)) o1000025)])))) (.need (inK IntKind.i64 (v27 + (1 : Int))) (.cut (loopAt (bodyOf Try.prog 75) 11).1 (loopAt (bodyOf Try.prog 75) 11).2 (St.mk [(7, AV.at_ 1000007 []), (25, AV.at_ 1000025 []), (26, AV.val (Ty.int IntKind.i64) v26), (27, AV.val (Ty.int IntKind.i64) (v27 + (1 : Int)))] [(1000007, Ent.own (Ty.slc true (Ty.int IntKind.u16)) o1000007), (1000025, Ent.own (Ty.slc true (Ty.int IntKind.u16)) o1000025)])))))) (.ret ((o1000007, ()))) := by kernel_rfl
theorem cminV_valid : cminV.Valid Try.prog 75 := by
  refine Ctr.valid_of EminV_ok rfl rfl Try.func75 (c := bodyOf Try.prog 75) rfl rfl FminV_ok rfl ?_
  rintro ⟨(n0 : Int), ⟨(v : List Int), (need : Int), ⟨⟩⟩, ⟨⟩⟩ ⟨(h1 : 1 ≤ n0), (h2 : n0 ≤ 10), (hc : vokP v)⟩ -
  obtain ⟨n, rfl⟩ : ∃ n : Nat, n0 = n := ⟨n0.toNat, by omega⟩
  have hn : n ≤ 10 := by omega
  refine exec_sound (n := 1000) EminV_ok FminV_ok ?_
  refine holds_of_eq (EminV_t (n : Int) v need) ?_
  refine ⟨by omega, fun _ => ?_⟩
  rw [two_pow hn]
  have hp : 2 ^ n ≤ 1024 := pow_leN hn
  refine Reach.loopI EminV_ok FminV_ok (fun i : Nat => EminV_s3 v need ((2 ^ n : Nat) : Int) (i : Int) (allTo (enoughV v need) i)) (fun i => i ≤ 2 ^ n) (fun i => 2 ^ n - i) 1000 (fun _ => ⟨uniq_of rfl, uniq_of rfl⟩) ?_ 0 (Nat.zero_le _)
  rintro i k1 - ih
  have k1 : i ≤ 2 ^ n := k1
  refine holds_of_eq (EminV_l3 ..) ?_
  have hw : IntKind.wrap .u16 ((i : Int) + 1) = ((i + 1 : Nat) : Int) := by rw [show (i : Int) + 1 = ((i + 1 : Nat) : Int) by omega]; exact wrapU (by omega)
  have hl := allTo_len (p := enoughV v need) i
  simp only [holds_cond, Tree.holds, true_and, true_implies, decide_eq_true_eq, decide_eq_false_iff_not, Bool.not_eq_true', Bool.not_eq_false', Int.toNat_natCast, inK_i64, List.length_set, List.length_cons, List.length_nil, wb_u16]
  rw [hw]
  refine ⟨fun c => ⟨hc, fun _ => ?_⟩, fun c => ⟨⟨by omega, fun _ _ => trivial, fun a _ b _ => qtie⟩, fun _ => ?_⟩⟩
  · have next := ih (i + 1) (by show i + 1 ≤ 2 ^ n; omega) (by omega)
    rw [allTo_succ] at next
    refine ⟨fun d => ?_, fun d => ?_⟩
    · have d : (enoughV v need) (i : Int) = true := d
      rw [if_pos d] at next
      have e1 : ([0] : List Int).set (Int.toNat 0) (i : Int) = [(i : Int)] := rfl
      rw [e1]
      exact ⟨by omega, fun _ => next⟩
    · have d : (enoughV v need) (i : Int) = false := d
      rw [if_neg (by rw [d]; simp)] at next
      exact next
  · obtain rfl : i = 2 ^ n := by omega
    have hall : allTo (enoughV v need) (2 ^ n) = allQ n (enoughV v need) := rfl
    rw [hall] at hl ⊢
    have hsl : (sortBy (ltD qcmp) (allQ n (enoughV v need))).length ≤ 1024 := by rw [(sortBy_perm _ _).length_eq]; omega
    show _
    have hfn : minF (Int.toNat (n : Int)) (enoughV v need) = minGo (sortBy (ltD qcmp) (allQ n (enoughV v need))) [] := rfl
    generalize hL : sortBy (ltD qcmp) (allQ n (enoughV v need)) = L at *
    refine Reach.loopI EminV_ok FminV_ok (fun s : Nat × List Int => EminV_s11 (L.length : Int) (s.1 : Int) s.2 L) (fun s => s.1 ≤ L.length ∧ s.2.length ≤ s.1 ∧ minGo L [] = minGo (L.drop s.1) s.2) (fun s => L.length - s.1) 1000 (fun _ => ⟨uniq_of rfl, uniq_of rfl⟩) ?_ (0, []) ⟨Nat.zero_le _, Nat.le_refl _, rfl⟩
    rintro ⟨j, out⟩ ⟨(k2 : j ≤ L.length), (k3 : out.length ≤ j), (k4 : minGo L [] = minGo (L.drop j) out)⟩ - ih2
    refine holds_of_eq (EminV_l11 ..) ?_
    simp only [holds_cond, Tree.holds, true_and, true_implies, decide_eq_true_eq, decide_eq_false_iff_not, Bool.not_eq_true', Bool.not_eq_false', Int.toNat_natCast, inK_i64, List.length_set, List.length_cons, List.length_nil, wb_u16]
    refine ⟨fun c2 => ⟨by omega, fun _ => ?_⟩, fun c2 => ?_⟩
    · have hj : j < L.length := by omega
      rw [drop_getD hj 0, minGo] at k4
      refine ⟨fun d => ?_, fun d => ⟨by omega, fun _ => ?_⟩⟩
      · rw [if_neg (by rw [d]; simp)] at k4
        have e1 : ([0] : List Int).set (Int.toNat 0) (L.getD j 0) = [L.getD j 0] := rfl
        rw [e1]
        exact ⟨by omega, fun _ => ⟨by omega, fun _ => ih2 (j + 1, out ++ [L.getD j 0]) ⟨hj, by simp only [List.length_append, List.length_singleton]; omega, k4⟩ (by show L.length - (j + 1) < L.length - j; omega)⟩⟩
      · rw [if_pos d] at k4
        exact ih2 (j + 1, out) ⟨hj, by show out.length ≤ j + 1; omega, k4⟩ (by show L.length - (j + 1) < L.length - j; omega)
    · rw [List.drop_eq_nil_of_le (by omega), minGo] at k4
      show ((out, ()) : List Int × Unit) = (minF (Int.toNat (n : Int)) (enoughV v need), ())
      rw [hfn, k4]
end Go.Proofs.Ytdhdpklmipkneaa
