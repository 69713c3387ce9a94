/- Quorum systems: the small functions' contracts. No condition but those named. -/
import Derived.Test.YtdhdpklmipkneaaQC
import Derived.Test.YtdhdpklmipkneaaSortC
namespace Go.Proofs.Ytdhdpklmipkneaa
open Go.Ex Go.Sort
set_option maxRecDepth 100000
theorem wb_u16 : Ty.wb (Ty.int IntKind.u16) = 2 := rfl
def cnanI : Ctr := { ps := [.v I64], rs := [.bool], pre := fun _ => True, fn := fun _ => (false, ()), out := fun _ => () }
noncomputable def EnanI : Env := { P := Try.prog, tt := tt, ctr := [], res := [Go.ResultVar.tmp 2], rs := [Ty.bool], ps := [PK.v (Ty.int IntKind.i64)], cuts := [], nt := 6 }
theorem EnanI_ok : EnvOk EnanI := envOk tt_ok trivial
theorem FnanI_ok : FnOk EnanI Try.f126 := ⟨rfl, rfl⟩
theorem EnanI_t (x0 : Int) : exec EnanI 1000 [.code (bodyOf Try.prog 126)] (initSt cnanI.ps ((x0, ()))) =
  .ret ((decide (x0 ≠ x0), ())) := by kernel_rfl
theorem cnanI_valid : cnanI.Valid Try.prog 126 := by
  refine Ctr.valid_of EnanI_ok rfl rfl Try.func126 (c := bodyOf Try.prog 126) rfl rfl FnanI_ok rfl ?_
  rintro ⟨(x : Int), ⟨⟩⟩ - -
  refine exec_sound (n := 1000) EnanI_ok FnanI_ok ?_
  refine holds_of_eq (EnanI_t x) ?_
  show ((decide (x ≠ x), ()) : Bool × Unit) = (false, ())
  simp
def cnanU : Ctr := { ps := [.v U16], rs := [.bool], pre := fun _ => True, fn := fun _ => (false, ()), out := fun _ => () }
noncomputable def EnanU : Env := { P := Try.prog, tt := tt, ctr := [], res := [Go.ResultVar.tmp 2], rs := [Ty.bool], ps := [PK.v (Ty.int IntKind.u16)], cuts := [], nt := 6 }
theorem EnanU_ok : EnvOk EnanU := envOk tt_ok trivial
theorem FnanU_ok : FnOk EnanU Try.f169 := ⟨rfl, rfl⟩
theorem EnanU_t (x0 : Int) : exec EnanU 1000 [.code (bodyOf Try.prog 169)] (initSt cnanU.ps ((x0, ()))) =
  .ret ((decide (x0 ≠ x0), ())) := by kernel_rfl
theorem cnanU_valid : cnanU.Valid Try.prog 169 := by
  refine Ctr.valid_of EnanU_ok rfl rfl Try.func169 (c := bodyOf Try.prog 169) rfl rfl FnanU_ok rfl ?_
  rintro ⟨(x : Int), ⟨⟩⟩ - -
  refine exec_sound (n := 1000) EnanU_ok FnanU_ok ?_
  refine holds_of_eq (EnanU_t x) ?_
  show ((decide (x ≠ x), ()) : Bool × Unit) = (false, ())
  simp
def ccmpI : Ctr := { ps := [.v I64, .v I64], rs := [I64], pre := fun _ => True, fn := fun x => (cmpI x.1 x.2.1, ()), out := fun _ => () }
noncomputable def EcmpI : Env := { P := Try.prog, tt := tt, ctr := [(126, cnanI)], res := [Go.ResultVar.tmp 4], rs := [Ty.int IntKind.i64], ps := [PK.v (Ty.int IntKind.i64), PK.v (Ty.int IntKind.i64)], cuts := [], nt := 20 }
theorem EcmpI_ok : EnvOk EcmpI := envOk tt_ok ⟨cnanI_valid, trivial⟩
theorem FcmpI_ok : FnOk EcmpI Try.f68 := ⟨rfl, rfl⟩
theorem EcmpI_t (x0 : Int) (x1 : Int) : exec EcmpI 1000 [.code (bodyOf Try.prog 68)] (initSt ccmpI.ps ((x0, x1, ()))) =
  .need (True) (.need (True) (cond (decide (x0 < x1)) (.ret (((-1 : Int), ()))) (cond (decide (x1 < x0)) (.ret (((1 : Int), ()))) (.ret (((0 : Int), ())))))) := by kernel_rfl
theorem ccmpI_valid : ccmpI.Valid Try.prog 68 := by
  refine Ctr.valid_of EcmpI_ok rfl rfl Try.func68 (c := bodyOf Try.prog 68) rfl rfl FcmpI_ok rfl ?_
  rintro ⟨(x : Int), (y : Int), ⟨⟩⟩ - -
  refine exec_sound (n := 1000) EcmpI_ok FcmpI_ok ?_
  refine holds_of_eq (EcmpI_t x y) ?_
  simp only [holds_cond, Tree.holds, true_and, true_implies, decide_eq_true_eq, decide_eq_false_iff_not, Bool.not_eq_true', Bool.not_eq_false', Int.toNat_natCast, inK_i64, List.length_set, List.length_cons, List.length_nil]
  repeat' first | exact trivial | (refine And.intro ?_ ?_) | (intro _)
  all_goals (show ((_, ()) : Int × Unit) = (cmpI x y, ()); simp [cmpI, *])
def ccmpU : Ctr := { ps := [.v U16, .v U16], rs := [I64], pre := fun _ => True, fn := fun x => (cmpI x.1 x.2.1, ()), out := fun _ => () }
noncomputable def EcmpU : Env := { P := Try.prog, tt := tt, ctr := [(169, cnanU)], res := [Go.ResultVar.tmp 4], rs := [Ty.int IntKind.i64], ps := [PK.v (Ty.int IntKind.u16), PK.v (Ty.int IntKind.u16)], cuts := [], nt := 20 }
theorem EcmpU_ok : EnvOk EcmpU := envOk tt_ok ⟨cnanU_valid, trivial⟩
theorem FcmpU_ok : FnOk EcmpU Try.f134 := ⟨rfl, rfl⟩
theorem EcmpU_t (x0 : Int) (x1 : Int) : exec EcmpU 1000 [.code (bodyOf Try.prog 134)] (initSt ccmpU.ps ((x0, x1, ()))) =
  .need (True) (.need (True) (cond (decide (x0 < x1)) (.ret (((-1 : Int), ()))) (cond (decide (x1 < x0)) (.ret (((1 : Int), ()))) (.ret (((0 : Int), ())))))) := by kernel_rfl
theorem ccmpU_valid : ccmpU.Valid Try.prog 134 := by
  refine Ctr.valid_of EcmpU_ok rfl rfl Try.func134 (c := bodyOf Try.prog 134) rfl rfl FcmpU_ok rfl ?_
  rintro ⟨(x : Int), (y : Int), ⟨⟩⟩ - -
  refine exec_sound (n := 1000) EcmpU_ok FcmpU_ok ?_
  refine holds_of_eq (EcmpU_t x y) ?_
  simp only [holds_cond, Tree.holds, true_and, true_implies, decide_eq_true_eq, decide_eq_false_iff_not, Bool.not_eq_true', Bool.not_eq_false', Int.toNat_natCast, inK_i64, List.length_set, List.length_cons, List.length_nil]
  repeat' first | exact trivial | (refine And.intro ?_ ?_) | (intro _)
  all_goals (show ((_, ()) : Int × Unit) = (cmpI x y, ()); simp [cmpI, *])
def orF : List Int → Int
  | [] => 0
  | x :: l => if x ≠ 0 then x else orF l
def corI : Ctr := { ps := [.v (.slc false I64)], rs := [I64], pre := fun _ => True, fn := fun x => (orF x.1, ()), out := fun _ => () }
noncomputable def EorI : Env := { P := Try.prog, tt := tt, ctr := [], res := [Go.ResultVar.tmp 2], rs := [Ty.int IntKind.i64], ps := [PK.v (Ty.slc false (Ty.int IntKind.i64))], cuts := [(3, [(3, none), (6, none), (7, none), (8, none)])], nt := 18 }
theorem EorI_ok : EnvOk EorI := envOk tt_ok trivial
theorem ForI_ok : FnOk EorI Try.f67 := ⟨rfl, rfl⟩
theorem EorI_t (x0 : List Int) : exec EorI 1000 [.code (bodyOf Try.prog 67)] (initSt corI.ps ((x0, ()))) =
  .cut (loopAt (bodyOf Try.prog 67) 3).1 (loopAt (bodyOf Try.prog 67) 3).2 (St.mk [(3, AV.val (Ty.int IntKind.i64) (0 : Int)), (6, AV.val (Ty.slc false (Ty.int IntKind.i64)) x0), (7, AV.val (Ty.int IntKind.i64) (↑(List.length x0) : Int)), (8, AV.val (Ty.int IntKind.i64) (0 : Int))] []) := by kernel_rfl
def EorI_s3 (v3 : Int) (v6 : List Int) (v7 : Int) (v8 : Int) : St := St.mk [(3, AV.val (Ty.int IntKind.i64) v3), (6, AV.val (Ty.slc false (Ty.int IntKind.i64)) v6), (7, AV.val (Ty.int IntKind.i64) v7), (8, AV.val (Ty.int IntKind.i64) v8)] []
theorem EorI_l3 (v3 : Int) (v6 : List Int) (v7 : Int) (v8 : Int) : exec EorI 1000 (.code (loopAt (bodyOf Try.prog 67) 3).1 :: .inLoop (loopAt (bodyOf Try.prog 67) 3).1 :: (loopAt (bodyOf Try.prog 67) 3).2) (EorI_s3 v3 v6 v7 v8) =
  cond (decide (v8 < v7)) (.need ((0 : Int) ≤ v8 ∧ v8 < (↑(List.length v6) : Int)) (cond (decide (List.getD v6 (Int.toNat v8) (0 : Int) ≠ v3)) (.ret ((List.getD v6 (Int.toNat v8) (0 : Int), ()))) (.need (inK IntKind.i64 (v8 + (1 : Int))) (.cut (loopAt (bodyOf Try.prog 67) 3).1 (loopAt (bodyOf Try.prog 67) 3).2 (St.mk [(3, AV.val (Ty.int IntKind.i64) v3), (6, AV.val (Ty.slc false (Ty.int IntKind.i64)) v6), (7, AV.val (Ty.int IntKind.i64) v7), (8, AV.val (Ty.int IntKind.i64) (v8 + (1 : Int)))] []))))) (.ret ((v3, ()))) := by kernel_rfl
theorem corI_valid : corI.Valid Try.prog 67 := by
  refine Ctr.valid_of EorI_ok rfl rfl Try.func67 (c := bodyOf Try.prog 67) rfl rfl ForI_ok rfl ?_
  rintro ⟨(l : List Int), ⟨⟩⟩ - ⟨⟨hl, -⟩, -⟩
  have hl : l.length ≤ 9223372036854775807 := hl
  refine exec_sound (n := 1000) EorI_ok ForI_ok ?_
  refine holds_of_eq (EorI_t l) ?_
  refine Reach.loopI EorI_ok ForI_ok (fun i : Nat => EorI_s3 (0 : Int) l (l.length : Int) (i : Int)) (fun i => i ≤ l.length ∧ orF l = orF (l.drop i)) (fun i => l.length - i) 1000 (fun _ => ⟨uniq_of rfl, uniq_of rfl⟩) ?_ 0 ⟨Nat.zero_le _, rfl⟩
  rintro i ⟨k1, k2⟩ - ih
  refine holds_of_eq (EorI_l3 ..) ?_
  simp only [holds_cond, Tree.holds, true_and, true_implies, decide_eq_true_eq, decide_eq_false_iff_not, Bool.not_eq_true', Bool.not_eq_false', Int.toNat_natCast, inK_i64, List.length_set, List.length_cons, List.length_nil]
  refine ⟨fun c => ⟨by omega, fun _ => ⟨fun d => ?_, fun d => ⟨by omega, fun _ => ih (i + 1) ⟨by omega, ?_⟩ (by omega)⟩⟩⟩, fun c => ?_⟩
  · rw [drop_getD (show i < l.length by omega) 0, orF, if_pos d] at k2
    show ((l.getD i 0, ()) : Int × Unit) = (orF l, ())
    rw [k2]
  · rw [drop_getD (show i < l.length by omega) 0, orF, if_neg (by simpa using d)] at k2
    exact k2
  · rw [List.drop_eq_nil_of_le (by omega)] at k2
    show ((0, ()) : Int × Unit) = (orF l, ())
    rw [k2]; rfl
def okT (T : List UInt8) : Bool := decide (T.length = 256) && (List.range 256).all (fun n => (T.getD n 0).toNat == onesN n)
theorem okT_len {T : List UInt8} (h : okT T = true) : T.length = 256 := by rw [okT, Bool.and_eq_true] at h; exact of_decide_eq_true h.1
theorem okT_get {T : List UInt8} (h : okT T = true) {n : Nat} (hn : n < 256) : (T.getD n 0).toNat = onesN n := by
  rw [okT, Bool.and_eq_true] at h
  exact beq_iff_eq.1 (List.all_eq_true.1 h.2 n (List.mem_range.2 hn))
theorem pc_hi {x : Int} (h : inU x) : x / 2 ^ min (Int.toNat 8) (IntKind.bits .u16) = ((x.toNat / 256 : Nat) : Int) := by
  show x / 256 = _
  have := h.1
  omega
theorem pc_lo {x : Int} (h : inU x) : bAnd .u16 x 255 = ((x.toNat % 256 : Nat) : Int) := by
  have e : bAnd .u16 x 255 = andU x 255 := rfl
  have h2 : inU ((x.toNat % 256 : Nat) : Int) := ⟨by omega, by omega⟩
  refine bits_eq (andU_in x 255) h2 (fun i => ?_)
  have h3 : hasB 255 i = decide (i < 8) := by
    rw [has_nat ⟨by omega, by omega⟩, show (255 : Int).toNat = 2 ^ 8 - 1 from rfl, Nat.testBit_two_pow_sub_one]
  rw [e, has_and, h3, has_nat h, has_nat h2, Int.toNat_natCast, show (256 : Nat) = 2 ^ 8 from rfl, Nat.testBit_mod_two_pow, Bool.and_comm]
theorem pcL (T : List UInt8) (hT : okT T = true) {x : Int} (h : inU x) : 0 ≤ x / 2 ^ min (Int.toNat 8) (IntKind.bits .u16) ∧ x / 2 ^ min (Int.toNat 8) (IntKind.bits .u16) < (T.length : Int) := by
  rw [pc_hi h, okT_len hT]
  have := h.2
  have := h.1
  omega
theorem pcM (T : List UInt8) (hT : okT T = true) {x : Int} (h : inU x) : 0 ≤ bAnd .u16 x 255 ∧ bAnd .u16 x 255 < (T.length : Int) := by
  rw [pc_lo h, okT_len hT]
  omega
theorem pcR (T : List UInt8) (hT : okT T = true) {x : Int} (h : inU x) : ((IntKind.wrap .i64 (IntKind.wrap .u8 (((T.getD (Int.toNat (x / 2 ^ min (Int.toNat 8) (IntKind.bits .u16))) 0).toNat : Int) + ((T.getD (Int.toNat (bAnd .u16 x 255)) 0).toNat : Int))), ()) : Int × Unit) = (pc x, ()) := by
  have hx := h.2
  have hx0 := h.1
  rw [pc_hi h, pc_lo h, Int.toNat_natCast, Int.toNat_natCast, okT_get hT (by omega), okT_get hT (by omega)]
  have h1 := onesN_le (x.toNat / 256)
  have h2 := onesN_le (x.toNat % 256)
  rw [wrap_same (k := .u8) (u8_in.2 (by omega)), wrap_same (inK_i64.2 (by omega))]
  simp [pc]
def cpc : Ctr := { ps := [.v U16], rs := [I64], pre := fun _ => True, fn := fun x => (pc x.1, ()), out := fun _ => () }
noncomputable def Epc : Env := { P := Try.prog, tt := tt, ctr := [], res := [Go.ResultVar.tmp 2], rs := [Ty.int IntKind.i64], ps := [PK.v (Ty.int IntKind.u16)], cuts := [], nt := 11 }
theorem Epc_ok : EnvOk Epc := envOk tt_ok trivial
theorem Fpc_ok : FnOk Epc Try.f133 := ⟨rfl, rfl⟩
theorem Epc_t (x0 : Int) : exec Epc 1000 [.code (bodyOf Try.prog 133)] (initSt cpc.ps ((x0, ()))) =
  .need ((0 : Int) ≤ (8 : Int)) (.need ((0 : Int) ≤ x0 / (2 : Int) ^ min (Int.toNat (8 : Int)) (IntKind.bits IntKind.u16) ∧ x0 / (2 : Int) ^ min (Int.toNat (8 : Int)) (IntKind.bits IntKind.u16) < (↑(List.length (Array.toList (ByteArray.data (ByteArray.mk (List.toArray (List.append (List.append [(0 : UInt8), (1 : UInt8), (1 : UInt8), (2 : UInt8), (1 : UInt8), (2 : UInt8), (2 : UInt8), (3 : UInt8), (1 : UInt8), (2 : UInt8), (2 : UInt8), (3 : UInt8), (2 : UInt8), (3 : UInt8), (3 : UInt8), (4 : UInt8), (1 : UInt8), (2 : UInt8), (2 : UInt8), (3 : UInt8), (2 : UInt8), (3 : UInt8), (3 : UInt8), (4 : UInt8), (2 : UInt8), (3 : UInt8), (3 : UInt8), (4 : UInt8), (3 : UInt8), (4 : UInt8), (4 : UInt8), (5 : UInt8), (1 : UInt8), (2 : UInt8), (2 : UInt8), (3 : UInt8), (2 : UInt8), (3 : UInt8), (3 : UInt8), (4 : UInt8), (2 : UInt8), (3 : UInt8), (3 : UInt8), (4 : UInt8), (3 : UInt8), (4 : UInt8), (4 : UInt8), (5 : UInt8), (2 : UInt8), (3 : UInt8), (3 : UInt8), (4 : UInt8), (3 : UInt8), (4 : UInt8), (4 : UInt8), (5 : UInt8), (3 : UInt8), (4 : UInt8), (4 : UInt8), (5 : UInt8), (4 : UInt8), (5 : UInt8), (5 : UInt8), (6 : UInt8)] [(1 : UInt8), (2 : UInt8), (2 : UInt8), (3 : UInt8), (2 : UInt8), (3 : UInt8), (3 : UInt8), (4 : UInt8), (2 : UInt8), (3 : UInt8), (3 : UInt8), (4 : UInt8), (3 : UInt8), (4 : UInt8), (4 : UInt8), (5 : UInt8), (2 : UInt8), (3 : UInt8), (3 : UInt8), (4 : UInt8), (3 : UInt8), (4 : UInt8), (4 : UInt8), (5 : UInt8), (3 : UInt8), (4 : UInt8), (4 : UInt8), (5 : UInt8), (4 : UInt8), (5 : UInt8), (5 : UInt8), (6 : UInt8), (2 : UInt8), (3 : UInt8), (3 : UInt8), (4 : UInt8), (3 : UInt8), (4 : UInt8), (4 : UInt8), (5 : UInt8), (3 : UInt8), (4 : UInt8), (4 : UInt8), (5 : UInt8), (4 : UInt8), (5 : UInt8), (5 : UInt8), (6 : UInt8), (3 : UInt8), (4 : UInt8), (4 : UInt8), (5 : UInt8), (4 : UInt8), (5 : UInt8), (5 : UInt8), (6 : UInt8), (4 : UInt8), (5 : UInt8), (5 : UInt8), (6 : UInt8), (5 : UInt8), (6 : UInt8), (6 : UInt8), (7 : UInt8)]) (List.append [(1 : UInt8), (2 : UInt8), (2 : UInt8), (3 : UInt8), (2 : UInt8), (3 : UInt8), (3 : UInt8), (4 : UInt8), (2 : UInt8), (3 : UInt8), (3 : UInt8), (4 : UInt8), (3 : UInt8), (4 : UInt8), (4 : UInt8), (5 : UInt8), (2 : UInt8), (3 : UInt8), (3 : UInt8), (4 : UInt8), (3 : UInt8), (4 : UInt8), (4 : UInt8), (5 : UInt8), (3 : UInt8), (4 : UInt8), (4 : UInt8), (5 : UInt8), (4 : UInt8), (5 : UInt8), (5 : UInt8), (6 : UInt8), (2 : UInt8), (3 : UInt8), (3 : UInt8), (4 : UInt8), (3 : UInt8), (4 : UInt8), (4 : UInt8), (5 : UInt8), (3 : UInt8), (4 : UInt8), (4 : UInt8), (5 : UInt8), (4 : UInt8), (5 : UInt8), (5 : UInt8), (6 : UInt8), (3 : UInt8), (4 : UInt8), (4 : UInt8), (5 : UInt8), (4 : UInt8), (5 : UInt8), (5 : UInt8), (6 : UInt8), (4 : UInt8), (5 : UInt8), (5 : UInt8), (6 : UInt8), (5 : UInt8), (6 : UInt8), (6 : UInt8), (7 : UInt8)] [(2 : UInt8), (3 : UInt8), (3 : UInt8), (4 : UInt8), (3 : UInt8), (4 : UInt8), (4 : UInt8), (5 : UInt8), (3 : UInt8), (4 : UInt8), (4 : UInt8), (5 : UInt8), (4 : UInt8), (5 : UInt8), (5 : UInt8), (6 : UInt8), (3 : UInt8), (4 : UInt8), (4 : UInt8), (5 : UInt8), (4 : UInt8), (5 : UInt8), (5 : UInt8), (6 : UInt8), (4 : UInt8), (5 : UInt8), (5 : UInt8), (6 : UInt8), (5 : UInt8), (6 : UInt8), (6 : UInt8), (7 : UInt8), (3 : UInt8), (4 : UInt8), (4 : UInt8), (5 : UInt8), (4 : UInt8), (5 : UInt8), (5 : UInt8), (6 : UInt8), (4 : UInt8), (5 : UInt8), (5 : UInt8), (6 : UInt8), (5 : UInt8), (6 : UInt8), (6 : UInt8), (7 : UInt8), (4 : UInt8), (5 : UInt8), (5 : UInt8), (6 : UInt8), (5 : UInt8), (6 : UInt8), (6 : UInt8), (7 : UInt8), (5 : UInt8), (6 : UInt8), (6 : UInt8), (7 : UInt8), (6 : UInt8), (7 : UInt8), (7 : UInt8), (8 : UInt8)]))))))) : Int)) (.need ((0 : Int) ≤ bAnd IntKind.u16 x0 (255 : Int) ∧ bAnd IntKind.u16 x0 (255 : Int) < (↑(List.length (Array.toList (ByteArray.data (ByteArray.mk (List.toArray (List.append (List.append [(0 : UInt8), (1 : UInt8), (1 : UInt8), (2 : UInt8), (1 : UInt8), (2 : UInt8), (2 : UInt8), (3 : UInt8), (1 : UInt8), (2 : UInt8), (2 : UInt8), (3 : UInt8), (2 : UInt8), (3 : UInt8), (3 : UInt8), (4 : UInt8), (1 : UInt8), (2 : UInt8), (2 : UInt8), (3 : UInt8), (2 : UInt8), (3 : UInt8), (3 : UInt8), (4 : UInt8), (2 : UInt8), (3 : UInt8), (3 : UInt8), (4 : UInt8), (3 : UInt8), (4 : UInt8), (4 : UInt8), (5 : UInt8), (1 : UInt8), (2 : UInt8), (2 : UInt8), (3 : UInt8), (2 : UInt8), (3 : UInt8), (3 : UInt8), (4 : UInt8), (2 : UInt8), (3 : UInt8), (3 : UInt8), (4 : UInt8), (3 : UInt8), (4 : UInt8), (4 : UInt8), (5 : UInt8), (2 : UInt8), (3 : UInt8), (3 : UInt8), (4 : UInt8), (3 : UInt8), (4 : UInt8), (4 : UInt8), (5 : UInt8), (3 : UInt8), (4 : UInt8), (4 : UInt8), (5 : UInt8), (4 : UInt8), (5 : UInt8), (5 : UInt8), (6 : UInt8)] [(1 : UInt8), (2 : UInt8), (2 : UInt8), (3 : UInt8), (2 : UInt8), (3 : UInt8), (3 : UInt8), (4 : UInt8), (2 : UInt8), (3 : UInt8), (3 : UInt8), (4 : UInt8), (3 : UInt8), (4 : UInt8), (4 : UInt8), (5 : UInt8), (2 : UInt8), (3 : UInt8), (3 : UInt8), (4 : UInt8), (3 : UInt8), (4 : UInt8), (4 : UInt8), (5 : UInt8), (3 : UInt8), (4 : UInt8), (4 : UInt8), (5 : UInt8), (4 : UInt8), (5 : UInt8), (5 : UInt8), (6 : UInt8), (2 : UInt8), (3 : UInt8), (3 : UInt8), (4 : UInt8), (3 : UInt8), (4 : UInt8), (4 : UInt8), (5 : UInt8), (3 : UInt8), (4 : UInt8), (4 : UInt8), (5 : UInt8), (4 : UInt8), (5 : UInt8), (5 : UInt8), (6 : UInt8), (3 : UInt8), (4 : UInt8), (4 : UInt8), (5 : UInt8), (4 : UInt8), (5 : UInt8), (5 : UInt8), (6 : UInt8), (4 : UInt8), (5 : UInt8), (5 : UInt8), (6 : UInt8), (5 : UInt8), (6 : UInt8), (6 : UInt8), (7 : UInt8)]) (List.append [(1 : UInt8), (2 : UInt8), (2 : UInt8), (3 : UInt8), (2 : UInt8), (3 : UInt8), (3 : UInt8), (4 : UInt8), (2 : UInt8), (3 : UInt8), (3 : UInt8), (4 : UInt8), (3 : UInt8), (4 : UInt8), (4 : UInt8), (5 : UInt8), (2 : UInt8), (3 : UInt8), (3 : UInt8), (4 : UInt8), (3 : UInt8), (4 : UInt8), (4 : UInt8), (5 : UInt8), (3 : UInt8), (4 : UInt8), (4 : UInt8), (5 : UInt8), (4 : UInt8), (5 : UInt8), (5 : UInt8), (6 : UInt8), (2 : UInt8), (3 : UInt8), (3 : UInt8), (4 : UInt8), (3 : UInt8), (4 : UInt8), (4 : UInt8), (5 : UInt8), (3 : UInt8), (4 : UInt8), (4 : UInt8), (5 : UInt8), (4 : UInt8), (5 : UInt8), (5 : UInt8), (6 : UInt8), (3 : UInt8), (4 : UInt8), (4 : UInt8), (5 : UInt8), (4 : UInt8), (5 : UInt8), (5 : UInt8), (6 : UInt8), (4 : UInt8), (5 : UInt8), (5 : UInt8), (6 : UInt8), (5 : UInt8), (6 : UInt8), (6 : UInt8), (7 : UInt8)] [(2 : UInt8), (3 : UInt8), (3 : UInt8), (4 : UInt8), (3 : UInt8), (4 : UInt8), (4 : UInt8), (5 : UInt8), (3 : UInt8), (4 : UInt8), (4 : UInt8), (5 : UInt8), (4 : UInt8), (5 : UInt8), (5 : UInt8), (6 : UInt8), (3 : UInt8), (4 : UInt8), (4 : UInt8), (5 : UInt8), (4 : UInt8), (5 : UInt8), (5 : UInt8), (6 : UInt8), (4 : UInt8), (5 : UInt8), (5 : UInt8), (6 : UInt8), (5 : UInt8), (6 : UInt8), (6 : UInt8), (7 : UInt8), (3 : UInt8), (4 : UInt8), (4 : UInt8), (5 : UInt8), (4 : UInt8), (5 : UInt8), (5 : UInt8), (6 : UInt8), (4 : UInt8), (5 : UInt8), (5 : UInt8), (6 : UInt8), (5 : UInt8), (6 : UInt8), (6 : UInt8), (7 : UInt8), (4 : UInt8), (5 : UInt8), (5 : UInt8), (6 : UInt8), (5 : UInt8), (6 : UInt8), (6 : UInt8), (7 : UInt8), (5 : UInt8), (6 : UInt8), (6 : UInt8), (7 : UInt8), (6 : UInt8), (7 : UInt8), (7 : UInt8), (8 : UInt8)]))))))) : Int)) (.ret ((IntKind.wrap IntKind.i64 (IntKind.wrap IntKind.u8 ((↑(UInt8.toNat (List.getD (Array.toList (ByteArray.data (ByteArray.mk (List.toArray (List.append (List.append [(0 : UInt8), (1 : UInt8), (1 : UInt8), (2 : UInt8), (1 : UInt8), (2 : UInt8), (2 : UInt8), (3 : UInt8), (1 : UInt8), (2 : UInt8), (2 : UInt8), (3 : UInt8), (2 : UInt8), (3 : UInt8), (3 : UInt8), (4 : UInt8), (1 : UInt8), (2 : UInt8), (2 : UInt8), (3 : UInt8), (2 : UInt8), (3 : UInt8), (3 : UInt8), (4 : UInt8), (2 : UInt8), (3 : UInt8), (3 : UInt8), (4 : UInt8), (3 : UInt8), (4 : UInt8), (4 : UInt8), (5 : UInt8), (1 : UInt8), (2 : UInt8), (2 : UInt8), (3 : UInt8), (2 : UInt8), (3 : UInt8), (3 : UInt8), (4 : UInt8), (2 : UInt8), (3 : UInt8), (3 : UInt8), (4 : UInt8), (3 : UInt8), (4 : UInt8), (4 : UInt8), (5 : UInt8), (2 : UInt8), (3 : UInt8), (3 : UInt8), (4 : UInt8), (3 : UInt8), (4 : UInt8), (4 : UInt8), (5 : UInt8), (3 : UInt8), (4 : UInt8), (4 : UInt8), (5 : UInt8), (4 : UInt8), (5 : UInt8), (5 : UInt8), (6 : UInt8)] [(1 : UInt8), (2 : UInt8), (2 : UInt8), (3 : UInt8), (2 : UInt8), (3 : UInt8), (3 : UInt8), (4 : UInt8), (2 : UInt8), (3 : UInt8), (3 : UInt8), (4 : UInt8), (3 : UInt8), (4 : UInt8), (4 : UInt8), (5 : UInt8), (2 : UInt8), (3 : UInt8), (3 : UInt8), (4 : UInt8), (3 : UInt8), (4 : UInt8), (4 : UInt8), (5 : UInt8), (3 : UInt8), (4 : UInt8), (4 : UInt8), (5 : UInt8), (4 : UInt8), (5 : UInt8), (5 : UInt8), (6 : UInt8), (2 : UInt8), (3 : UInt8), (3 : UInt8), (4 : UInt8), (3 : UInt8), (4 : UInt8), (4 : UInt8), (5 : UInt8), (3 : UInt8), (4 : UInt8), (4 : UInt8), (5 : UInt8), (4 : UInt8), (5 : UInt8), (5 : UInt8), (6 : UInt8), (3 : UInt8), (4 : UInt8), (4 : UInt8), (5 : UInt8), (4 : UInt8), (5 : UInt8), (5 : UInt8), (6 : UInt8), (4 : UInt8), (5 : UInt8), (5 : UInt8), (6 : UInt8), (5 : UInt8), (6 : UInt8), (6 : UInt8), (7 : UInt8)]) (List.append [(1 : UInt8), (2 : UInt8), (2 : UInt8), (3 : UInt8), (2 : UInt8), (3 : UInt8), (3 : UInt8), (4 : UInt8), (2 : UInt8), (3 : UInt8), (3 : UInt8), (4 : UInt8), (3 : UInt8), (4 : UInt8), (4 : UInt8), (5 : UInt8), (2 : UInt8), (3 : UInt8), (3 : UInt8), (4 : UInt8), (3 : UInt8), (4 : UInt8), (4 : UInt8), (5 : UInt8), (3 : UInt8), (4 : UInt8), (4 : UInt8), (5 : UInt8), (4 : UInt8), (5 : UInt8), (5 : UInt8), (6 : UInt8), (2 : UInt8), (3 : UInt8), (3 : UInt8), (4 : UInt8), (3 : UInt8), (4 : UInt8), (4 : UInt8), (5 : UInt8), (3 : UInt8), (4 : UInt8), (4 : UInt8), (5 : UInt8), (4 : UInt8), (5 : UInt8), (5 : UInt8), (6 : UInt8), (3 : UInt8), (4 : UInt8), (4 : UInt8), (5 : UInt8), (4 : UInt8), (5 : UInt8), (5 : UInt8), (6 : UInt8), (4 : UInt8), (5 : UInt8), (5 : UInt8), (6 : UInt8), (5 : UInt8), (6 : UInt8), (6 : UInt8), (7 : UInt8)] [(2 : UInt8), (3 : UInt8), (3 : UInt8), (4 : UInt8), (3 : UInt8), (4 : UInt8), (4 : UInt8), (5 : UInt8), (3 : UInt8), (4 : UInt8), (4 : UInt8), (5 : UInt8), (4 : UInt8), (5 : UInt8), (5 : UInt8), (6 : UInt8), (3 : UInt8), (4 : UInt8), (4 : UInt8), (5 : UInt8), (4 : UInt8), (5 : UInt8), (5 : UInt8), (6 : UInt8), (4 : UInt8), (5 : UInt8), (5 : UInt8), (6 : UInt8), (5 : UInt8), (6 : UInt8), (6 : UInt8), (7 : UInt8), (3 : UInt8), (4 : UInt8), (4 : UInt8), (5 : UInt8), (4 : UInt8), (5 : UInt8), (5 : UInt8), (6 : UInt8), (4 : UInt8), (5 : UInt8), (5 : UInt8), (6 : UInt8), (5 : UInt8), (6 : UInt8), (6 : UInt8), (7 : UInt8), (4 : UInt8), (5 : UInt8), (5 : UInt8), (6 : UInt8), (5 : UInt8), (6 : UInt8), (6 : UInt8), (7 : UInt8), (5 : UInt8), (6 : UInt8), (6 : UInt8), (7 : UInt8), (6 : UInt8), (7 : UInt8), (7 : UInt8), (8 : UInt8)])))))) (Int.toNat (x0 / (2 : Int) ^ min (Int.toNat (8 : Int)) (IntKind.bits IntKind.u16))) (0 : UInt8))) : Int) + (↑(UInt8.toNat (List.getD (Array.toList (ByteArray.data (ByteArray.mk (List.toArray (List.append (List.append [(0 : UInt8), (1 : UInt8), (1 : UInt8), (2 : UInt8), (1 : UInt8), (2 : UInt8), (2 : UInt8), (3 : UInt8), (1 : UInt8), (2 : UInt8), (2 : UInt8), (3 : UInt8), (2 : UInt8), (3 : UInt8), (3 : UInt8), (4 : UInt8), (1 : UInt8), (2 : UInt8), (2 : UInt8), (3 : UInt8), (2 : UInt8), (3 : UInt8), (3 : UInt8), (4 : UInt8), (2 : UInt8), (3 : UInt8), (3 : UInt8), (4 : UInt8), (3 : UInt8), (4 : UInt8), (4 : UInt8), (5 : UInt8), (1 : UInt8), (2 : UInt8), (2 : UInt8), (3 : UInt8), (2 : UInt8), (3 : UInt8), (3 : UInt8), (4 : UInt8), (2 : UInt8), (3 : UInt8), (3 : UInt8), (4 : UInt8), (3 : UInt8), (4 : UInt8), (4 : UInt8), (5 : UInt8), (2 : UInt8), (3 : UInt8), (3 : UInt8), (4 : UInt8), (3 : UInt8), (4 : UInt8), (4 : UInt8), (5 : UInt8), (3 : UInt8), (4 : UInt8), (4 : UInt8), (5 : UInt8), (4 : UInt8), (5 : UInt8), (5 : UInt8), (6 : UInt8)] [(1 : UInt8), (2 : UInt8), (2 : UInt8), (3 : UInt8), (2 : UInt8), (3 : UInt8), (3 : UInt8), (4 : UInt8), (2 : UInt8), (3 : UInt8), (3 : UInt8), (4 : UInt8), (3 : UInt8), (4 : UInt8), (4 : UInt8), (5 : UInt8), (2 : UInt8), (3 : UInt8), (3 : UInt8), (4 : UInt8), (3 : UInt8), (4 : UInt8), (4 : UInt8), (5 : UInt8), (3 : UInt8), (4 : UInt8), (4 : UInt8), (5 : UInt8), (4 : UInt8), (5 : UInt8), (5 : UInt8), (6 : UInt8), (2 : UInt8), (3 : UInt8), (3 : UInt8), (4 : UInt8), (3 : UInt8), (4 : UInt8), (4 : UInt8), (5 : UInt8), (3 : UInt8), (4 : UInt8), (4 : UInt8), (5 : UInt8), (4 : UInt8), (5 : UInt8), (5 : UInt8), (6 : UInt8), (3 : UInt8), (4 : UInt8), (4 : UInt8), (5 : UInt8), (4 : UInt8), (5 : UInt8), (5 : UInt8), (6 : UInt8), (4 : UInt8), (5 : UInt8), (5 : UInt8), (6 : UInt8), (5 : UInt8), (6 : UInt8), (6 : UInt8), (7 : UInt8)]) (List.append [(1 : UInt8), (2 : UInt8), (2 : UInt8), (3 : UInt8), (2 : UInt8), (3 : UInt8), (3 : UInt8), (4 : UInt8), (2 : UInt8), (3 : UInt8), (3 : UInt8), (4 : UInt8), (3 : UInt8), (4 : UInt8), (4 : UInt8), (5 : UInt8), (2 : UInt8), (3 : UInt8), (3 : UInt8), (4 : UInt8), (3 : UInt8), (4 : UInt8), (4 : UInt8), (5 : UInt8), (3 : UInt8), (4 : UInt8), (4 : UInt8), (5 : UInt8), (4 : UInt8), (5 : UInt8), (5 : UInt8), (6 : UInt8), (2 : UInt8), (3 : UInt8), (3 : UInt8), (4 : UInt8), (3 : UInt8), (4 : UInt8), (4 : UInt8), (5 : UInt8), (3 : UInt8), (4 : UInt8), (4 : UInt8), (5 : UInt8), (4 : UInt8), (5 : UInt8), (5 : UInt8), (6 : UInt8), (3 : UInt8), (4 : UInt8), (4 : UInt8), (5 : UInt8), (4 : UInt8), (5 : UInt8), (5 : UInt8), (6 : UInt8), (4 : UInt8), (5 : UInt8), (5 : UInt8), (6 : UInt8), (5 : UInt8), (6 : UInt8), (6 : UInt8), (7 : UInt8)] [(2 : UInt8), (3 : UInt8), (3 : UInt8), (4 : UInt8), (3 : UInt8), (4 : UInt8), (4 : UInt8), (5 : UInt8), (3 : UInt8), (4 : UInt8), (4 : UInt8), (5 : UInt8), (4 : UInt8), (5 : UInt8), (5 : UInt8), (6 : UInt8), (3 : UInt8), (4 : UInt8), (4 : UInt8), (5 : UInt8), (4 : UInt8), (5 : UInt8), (5 : UInt8), (6 : UInt8), (4 : UInt8), (5 : UInt8), (5 : UInt8), (6 : UInt8), (5 : UInt8), (6 : UInt8), (6 : UInt8), (7 : UInt8), (3 : UInt8), (4 : UInt8), (4 : UInt8), (5 : UInt8), (4 : UInt8), (5 : UInt8), (5 : UInt8), (6 : UInt8), (4 : UInt8), (5 : UInt8), (5 : UInt8), (6 : UInt8), (5 : UInt8), (6 : UInt8), (6 : UInt8), (7 : UInt8), (4 : UInt8), (5 : UInt8), (5 : UInt8), (6 : UInt8), (5 : UInt8), (6 : UInt8), (6 : UInt8), (7 : UInt8), (5 : UInt8), (6 : UInt8), (6 : UInt8), (7 : UInt8), (6 : UInt8), (7 : UInt8), (7 : UInt8), (8 : UInt8)])))))) (Int.toNat (bAnd IntKind.u16 x0 (255 : Int))) (0 : UInt8))) : Int))), ()))))) := by kernel_rfl
theorem cpc_valid : cpc.Valid Try.prog 133 := by
  refine Ctr.valid_of Epc_ok rfl rfl Try.func133 (c := bodyOf Try.prog 133) rfl rfl Fpc_ok rfl ?_
  rintro ⟨(x0 : Int), ⟨⟩⟩ - ⟨h0, -⟩
  refine exec_sound (n := 1000) Epc_ok Fpc_ok ?_
  refine holds_of_eq (Epc_t x0) ?_
  have h0 : inU x0 := inK_u16.1 h0
  exact ⟨by decide, fun _ => ⟨pcL _ (by decide +kernel) h0, fun _ => ⟨pcM _ (by decide +kernel) h0, fun _ => pcR _ (by decide +kernel) h0⟩⟩⟩
def cqcmp : Ctr := { ps := [.v U16, .v U16], rs := [I64], pre := fun _ => True, fn := fun x => (qcmp x.1 x.2.1, ()), out := fun _ => () }
noncomputable def Eqcmp : Env := { P := Try.prog, tt := tt, ctr := [(133, cpc), (68, ccmpI), (134, ccmpU), (67, corI)], res := [Go.ResultVar.tmp 4], rs := [Ty.int IntKind.i64], ps := [PK.v (Ty.int IntKind.u16), PK.v (Ty.int IntKind.u16)], cuts := [], nt := 15 }
theorem Eqcmp_ok : EnvOk Eqcmp := envOk tt_ok ⟨cpc_valid, ccmpI_valid, ccmpU_valid, corI_valid, trivial⟩
theorem Fqcmp_ok : FnOk Eqcmp Try.f80 := ⟨rfl, rfl⟩
theorem Eqcmp_t (x0 : Int) (x1 : Int) : exec Eqcmp 1000 [.code (bodyOf Try.prog 80)] (initSt cqcmp.ps ((x0, x1, ()))) =
  .need (True) (.need (True) (.need (True) (.need (True) (.need (True) (.ret ((orF (List.set (List.set [(0 : Int), (0 : Int)] (Int.toNat (↑0 : Int)) (cmpI (pc x0) (pc x1))) (Int.toNat (↑1 : Int)) (cmpI x0 x1)), ()))))))) := by kernel_rfl
theorem cqcmp_valid : cqcmp.Valid Try.prog 80 := by
  refine Ctr.valid_of Eqcmp_ok rfl rfl Try.func80 (c := bodyOf Try.prog 80) rfl rfl Fqcmp_ok rfl ?_
  rintro ⟨(a : Int), (b : Int), ⟨⟩⟩ - -
  refine exec_sound (n := 1000) Eqcmp_ok Fqcmp_ok ?_
  refine holds_of_eq (Eqcmp_t a b) ?_
  refine ⟨trivial, fun _ => ⟨trivial, fun _ => ⟨trivial, fun _ => ⟨trivial, fun _ => ⟨trivial, fun _ => ?_⟩⟩⟩⟩⟩
  show ((orF [cmpI (pc a) (pc b), cmpI a b], ()) : Int × Unit) = (qcmp a b, ())
  rw [orF, orF, orF, qcmp]
  congr 1
  by_cases h1 : cmpI (pc a) (pc b) ≠ 0
  · rw [if_pos h1, if_pos h1]
  · rw [if_neg h1, if_neg h1]
    by_cases h2 : cmpI a b ≠ 0
    · rw [if_pos h2]
    · rw [if_neg h2]; exact (Decidable.not_not.1 h2).symm
def cwithin : Ctr := { ps := [.v U16, .v U16], rs := [.bool], pre := fun _ => True, fn := fun x => (withinU x.1 x.2.1, ()), out := fun _ => () }
noncomputable def Ewithin : Env := { P := Try.prog, tt := tt, ctr := [], res := [Go.ResultVar.tmp 4], rs := [Ty.bool], ps := [PK.v (Ty.int IntKind.u16), PK.v (Ty.int IntKind.u16)], cuts := [], nt := 9 }
theorem Ewithin_ok : EnvOk Ewithin := envOk tt_ok trivial
theorem Fwithin_ok : FnOk Ewithin Try.f131 := ⟨rfl, rfl⟩
theorem Ewithin_t (x0 : Int) (x1 : Int) : exec Ewithin 1000 [.code (bodyOf Try.prog 131)] (initSt cwithin.ps ((x0, x1, ()))) =
  .ret ((decide (bAndNot IntKind.u16 x0 x1 = (0 : Int)), ())) := by kernel_rfl
theorem cwithin_valid : cwithin.Valid Try.prog 131 := by
  refine Ctr.valid_of Ewithin_ok rfl rfl Try.func131 (c := bodyOf Try.prog 131) rfl rfl Fwithin_ok rfl ?_
  rintro ⟨(a : Int), (b : Int), ⟨⟩⟩ - -
  refine exec_sound (n := 1000) Ewithin_ok Fwithin_ok ?_
  refine holds_of_eq (Ewithin_t a b) ?_
  rfl
def ccon1 : Ctr := { ps := [.v U16, .rd U16], rs := [.bool], pre := fun _ => True, fn := fun x => (withinU x.1 x.2.1, ()), out := fun _ => () }
noncomputable def Econ1 : Env := { P := Try.prog, tt := tt, ctr := [(131, cwithin)], res := [Go.ResultVar.tmp 3], rs := [Ty.bool], ps := [PK.v (Ty.int IntKind.u16), PK.rd (Ty.int IntKind.u16)], cuts := [], nt := 7 }
theorem Econ1_ok : EnvOk Econ1 := envOk tt_ok ⟨cwithin_valid, trivial⟩
theorem Fcon1_ok : FnOk Econ1 Try.f130 := ⟨rfl, rfl⟩
theorem Econ1_t (x0 : Int) (x1 : Int) : exec Econ1 1000 [.code (bodyOf Try.prog 130)] (initSt ccon1.ps ((x0, x1, ()))) =
  .need (True) (.ret ((withinU x0 x1, ()))) := by kernel_rfl
theorem ccon1_valid : ccon1.Valid Try.prog 130 := by
  refine Ctr.valid_of Econ1_ok rfl rfl Try.func130 (c := bodyOf Try.prog 130) rfl rfl Fcon1_ok rfl ?_
  rintro ⟨(t : Int), (s : Int), ⟨⟩⟩ - -
  refine exec_sound (n := 1000) Econ1_ok Fcon1_ok ?_
  refine holds_of_eq (Econ1_t t s) ?_
  exact ⟨trivial, fun _ => rfl⟩
def cidxQ : Ctr := { ps := [.v (.slc false U16), .clo 130 [U16]], rs := [I64], pre := fun x => True, fn := fun x => (idxOf ((fun t => withinU t x.2.1.1)) x.1, ()), out := fun _ => () }
noncomputable def EidxQ : Env := { P := Try.prog, tt := tt, ctr := [(130, ccon1)], res := [Go.ResultVar.tmp 4], rs := [Ty.int IntKind.i64], ps := [PK.v (Ty.slc false (Ty.int IntKind.u16)), PK.clo 130 [Ty.int IntKind.u16]], cuts := [(2, [(0, none), (1, none), (7, none), (8, none)])], nt := 19 }
theorem EidxQ_ok : EnvOk EidxQ := envOk tt_ok ⟨ccon1_valid, trivial⟩
theorem FidxQ_ok : FnOk EidxQ Try.f135 := ⟨rfl, rfl⟩
theorem EidxQ_t (x0 : List Int) (x1c0 : Int) : exec EidxQ 1000 [.code (bodyOf Try.prog 135)] (initSt cidxQ.ps ((x0, (x1c0, ()), ()))) =
  .cut (loopAt (bodyOf Try.prog 135) 2).1 (loopAt (bodyOf Try.prog 135) 2).2 (St.mk [(0, AV.val (Ty.slc false (Ty.int IntKind.u16)) x0), (1, AV.clo 130 (AV.cons (AV.rptr (Ty.int IntKind.u16) x1c0) AV.nil)), (7, AV.val (Ty.int IntKind.i64) (↑(List.length x0) : Int)), (8, AV.val (Ty.int IntKind.i64) (0 : Int))] []) := by kernel_rfl
def EidxQ_s2 (v0 : List Int) (v1a : Int) (v7 : Int) (v8 : Int) : St := St.mk [(0, AV.val (Ty.slc false (Ty.int IntKind.u16)) v0), (1, AV.clo 130 (AV.cons (AV.rptr (Ty.int IntKind.u16) v1a) AV.nil)), (7, AV.val (Ty.int IntKind.i64) v7), (8, AV.val (Ty.int IntKind.i64) v8)] []
theorem EidxQ_l2 (v0 : List Int) (v1a : Int) (v7 : Int) (v8 : Int) : exec EidxQ 1000 (.code (loopAt (bodyOf Try.prog 135) 2).1 :: .inLoop (loopAt (bodyOf Try.prog 135) 2).1 :: (loopAt (bodyOf Try.prog 135) 2).2) (EidxQ_s2 v0 v1a v7 v8) =
  cond (decide (v8 < v7)) (.need ((0 : Int) ≤ v8 ∧ v8 < (↑(List.length v0) : Int)) (.need (True) (cond (withinU (List.getD v0 (Int.toNat v8) (0 : Int)) v1a) (.ret ((v8, ()))) (.need (inK IntKind.i64 (v8 + (1 : Int))) (.cut (loopAt (bodyOf Try.prog 135) 2).1 (loopAt (bodyOf Try.prog 135) 2).2 (St.mk [(0, AV.val (Ty.slc false (Ty.int IntKind.u16)) v0), (1, AV.clo 130 (AV.cons (AV.rptr (Ty.int IntKind.u16) v1a) AV.nil)), (7, AV.val (Ty.int IntKind.i64) v7), (8, AV.val (Ty.int IntKind.i64) (v8 + (1 : Int)))] [])))))) (.ret (((-1 : Int), ()))) := by kernel_rfl
theorem cidxQ_valid : cidxQ.Valid Try.prog 135 := by
  refine Ctr.valid_of EidxQ_ok rfl rfl Try.func135 (c := bodyOf Try.prog 135) rfl rfl FidxQ_ok rfl ?_
  rintro ⟨(l : List (Int)), ⟨(s : Int), ⟨⟩⟩, ⟨⟩⟩ - ⟨⟨hl, -⟩, -⟩
  have hl : l.length ≤ 9223372036854775807 := hl
  refine exec_sound (n := 1000) EidxQ_ok FidxQ_ok ?_
  refine holds_of_eq (EidxQ_t l s) ?_
  refine Reach.loopI EidxQ_ok FidxQ_ok (fun i : Nat => EidxQ_s2 l s (l.length : Int) (i : Int)) (fun i => i ≤ l.length ∧ idxOf ((fun t => withinU t s)) l = idxGo ((fun t => withinU t s)) (l.drop i) i)
    (fun i => l.length - i) 1000 (fun _ => ⟨uniq_of rfl, uniq_of rfl⟩) ?_ 0 ⟨by omega, rfl⟩
  rintro i ⟨k1, k2⟩ - ih
  refine holds_of_eq (EidxQ_l2 ..) ?_
  simp only [holds_cond, Tree.holds, true_and, true_implies, decide_eq_true_eq, decide_eq_false_iff_not, Bool.not_eq_true', Bool.not_eq_false', Int.toNat_natCast, inK_i64, List.length_set, List.length_cons, List.length_nil]
  refine ⟨fun h => ?_, fun h => ?_⟩
  · rw [drop_getD (show i < l.length by omega) 0, idxGo] at k2
    refine ⟨by omega, fun _ => ⟨fun c => ?_, fun c => ⟨by omega, fun _ => ih (i + 1) ⟨by omega, ?_⟩ (by omega)⟩⟩⟩
    · show (((i : Int), ()) : Int × Unit) = (idxOf ((fun t => withinU t s)) l, ())
      rw [k2, if_pos (show ((fun t => withinU t s)) (l.getD i 0) = true from c)]
    · rw [k2, if_neg (show ¬ ((fun t => withinU t s)) (l.getD i 0) = true from fun h9 => Bool.noConfusion (Eq.trans (Eq.symm h9) c))]
  · rw [List.drop_eq_nil_of_le (by omega)] at k2
    show (((-1 : Int), ()) : Int × Unit) = (idxOf ((fun t => withinU t s)) l, ())
    rw [k2]; rfl
def cconQ : Ctr := { ps := [.v (.slc false U16), .clo 130 [U16]], rs := [.bool], pre := fun x => True, fn := fun x => (List.any (α := Int) x.1 ((fun t => withinU t x.2.1.1)), ()), out := fun _ => () }
noncomputable def EconQ : Env := { P := Try.prog, tt := tt, ctr := [(135, cidxQ)], res := [Go.ResultVar.tmp 4], rs := [Ty.bool], ps := [PK.v (Ty.slc false (Ty.int IntKind.u16)), PK.clo 130 [Ty.int IntKind.u16]], cuts := [], nt := 9 }
theorem EconQ_ok : EnvOk EconQ := envOk tt_ok ⟨cidxQ_valid, trivial⟩
theorem FconQ_ok : FnOk EconQ Try.f81 := ⟨rfl, rfl⟩
theorem EconQ_t (x0 : List Int) (x1c0 : Int) : exec EconQ 1000 [.code (bodyOf Try.prog 81)] (initSt cconQ.ps ((x0, (x1c0, ()), ()))) =
  .need (True) (.ret ((decide ((0 : Int) ≤ idxOf (fun t => withinU t x1c0) x0), ()))) := by kernel_rfl
theorem cconQ_valid : cconQ.Valid Try.prog 81 := by
  refine Ctr.valid_of EconQ_ok rfl rfl Try.func81 (c := bodyOf Try.prog 81) rfl rfl FconQ_ok rfl ?_
  rintro ⟨(l : List (Int)), ⟨(s : Int), ⟨⟩⟩, ⟨⟩⟩ - -
  refine exec_sound (n := 1000) EconQ_ok FconQ_ok ?_
  refine holds_of_eq (EconQ_t l s) ?_
  refine ⟨trivial, fun _ => ?_⟩
  show ((decide (0 ≤ idxOf ((fun t => withinU t s)) l), ()) : Bool × Unit) = (l.any ((fun t => withinU t s)), ())
  rw [idx_any]
def ccontains : Ctr := { ps := [.v U16, .v (.slc false U16)], rs := [.bool], pre := fun _ => True, fn := fun x => (hasQ x.2.1 x.1, ()), out := fun _ => () }
noncomputable def Econtains : Env := { P := Try.prog, tt := tt, ctr := [(81, cconQ)], res := [Go.ResultVar.tmp 4], rs := [Ty.bool], ps := [PK.v (Ty.int IntKind.u16), PK.v (Ty.slc false (Ty.int IntKind.u16))], cuts := [], nt := 8 }
theorem Econtains_ok : EnvOk Econtains := envOk tt_ok ⟨cconQ_valid, trivial⟩
theorem Fcontains_ok : FnOk Econtains Try.f77 := ⟨rfl, rfl⟩
theorem Econtains_t (x0 : Int) (x1 : List Int) : exec Econtains 1000 [.code (bodyOf Try.prog 77)] (initSt ccontains.ps ((x0, x1, ()))) =
  .need (True) (.ret ((List.any x1 fun t => withinU t x0, ()))) := by kernel_rfl
theorem ccontains_valid : ccontains.Valid Try.prog 77 := by
  refine Ctr.valid_of Econtains_ok rfl rfl Try.func77 (c := bodyOf Try.prog 77) rfl rfl Fcontains_ok rfl ?_
  rintro ⟨(s : Int), (l : List Int), ⟨⟩⟩ - -
  refine exec_sound (n := 1000) Econtains_ok Fcontains_ok ?_
  refine holds_of_eq (Econtains_t s l) ?_
  exact ⟨trivial, fun _ => rfl⟩
def cinQ : Ctr := { ps := [.v I64, .v I64, .v I64], rs := [.bool], pre := fun _ => True, fn := fun x => (inF x.1 x.2.1 x.2.2.1, ()), out := fun _ => () }
noncomputable def EinQ : Env := { P := Try.prog, tt := tt, ctr := [], res := [Go.ResultVar.tmp 6], rs := [Ty.bool], ps := [PK.v (Ty.int IntKind.i64), PK.v (Ty.int IntKind.i64), PK.v (Ty.int IntKind.i64)], cuts := [], nt := 15 }
theorem EinQ_ok : EnvOk EinQ := envOk tt_ok trivial
theorem FinQ_ok : FnOk EinQ Try.f72 := ⟨rfl, rfl⟩
theorem EinQ_t (x0 : Int) (x1 : Int) (x2 : Int) : exec EinQ 1000 [.code (bodyOf Try.prog 72)] (initSt cinQ.ps ((x0, x1, x2, ()))) =
  cond (decide (x1 ≤ x0)) (.ret ((decide (x0 ≤ x2), ()))) (.ret ((false, ()))) := by kernel_rfl
theorem cinQ_valid : cinQ.Valid Try.prog 72 := by
  refine Ctr.valid_of EinQ_ok rfl rfl Try.func72 (c := bodyOf Try.prog 72) rfl rfl FinQ_ok rfl ?_
  rintro ⟨(a : Int), (b : Int), (c : Int), ⟨⟩⟩ - -
  refine exec_sound (n := 1000) EinQ_ok FinQ_ok ?_
  refine holds_of_eq (EinQ_t a b c) ?_
  simp only [holds_cond, Tree.holds, true_and, true_implies, decide_eq_true_eq, decide_eq_false_iff_not, Bool.not_eq_true', Bool.not_eq_false', Int.toNat_natCast, inK_i64, List.length_set, List.length_cons, List.length_nil]
  repeat' first | exact trivial | (refine And.intro ?_ ?_) | (intro _)
  all_goals (show ((_, ()) : Bool × Unit) = (inF a b c, ()); simp [inF, *])
def cqcheck : Ctr := { ps := [.v I64, .v (.slc false U16)], rs := [I64], pre := fun _ => True, fn := fun x => (qcheck x.1 x.2.1, ()), out := fun _ => () }
noncomputable def Eqcheck : Env := { P := Try.prog, tt := tt, ctr := [(72, cinQ), (80, cqcmp), (77, ccontains)], res := [Go.ResultVar.tmp 4], rs := [Ty.int IntKind.i64], ps := [PK.v (Ty.int IntKind.i64), PK.v (Ty.slc false (Ty.int IntKind.u16))], cuts := [(6, [(0, none), (1, none), (15, none), (16, none), (17, none)])], nt := 48 }
theorem Eqcheck_ok : EnvOk Eqcheck := envOk tt_ok ⟨cinQ_valid, cqcmp_valid, ccontains_valid, trivial⟩
theorem Fqcheck_ok : FnOk Eqcheck Try.f29 := ⟨rfl, rfl⟩
theorem Eqcheck_t (x0 : Int) (x1 : List Int) : exec Eqcheck 1000 [.code (bodyOf Try.prog 29)] (initSt cqcheck.ps ((x0, x1, ()))) =
  .need (True) (cond (!inF x0 (1 : Int) (10 : Int)) (.ret (((1 : Int), ()))) (cond (decide ((300 : Int) < (↑(List.length x1) : Int))) (.ret (((2 : Int), ()))) (.cut (loopAt (bodyOf Try.prog 29) 6).1 (loopAt (bodyOf Try.prog 29) 6).2 (St.mk [(0, AV.val (Ty.int IntKind.i64) x0), (1, AV.val (Ty.slc false (Ty.int IntKind.u16)) x1), (15, AV.val (Ty.slc false (Ty.int IntKind.u16)) x1), (16, AV.val (Ty.int IntKind.i64) (↑(List.length x1) : Int)), (17, AV.val (Ty.int IntKind.i64) (0 : Int))] [])))) := by kernel_rfl
def Eqcheck_s6 (v0 : Int) (v1 : List Int) (v15 : List Int) (v16 : Int) (v17 : Int) : St := St.mk [(0, AV.val (Ty.int IntKind.i64) v0), (1, AV.val (Ty.slc false (Ty.int IntKind.u16)) v1), (15, AV.val (Ty.slc false (Ty.int IntKind.u16)) v15), (16, AV.val (Ty.int IntKind.i64) v16), (17, AV.val (Ty.int IntKind.i64) v17)] []
theorem Eqcheck_l6 (v0 : Int) (v1 : List Int) (v15 : List Int) (v16 : Int) (v17 : Int) : exec Eqcheck 1000 (.code (loopAt (bodyOf Try.prog 29) 6).1 :: .inLoop (loopAt (bodyOf Try.prog 29) 6).1 :: (loopAt (bodyOf Try.prog 29) 6).2) (Eqcheck_s6 v0 v1 v15 v16 v17) =
  cond (decide (v17 < v16)) (.need ((0 : Int) ≤ v17 ∧ v17 < (↑(List.length v15) : Int)) (.need ((0 : Int) ≤ v0) (cond (decide (List.getD v15 (Int.toNat v17) (0 : Int) / (2 : Int) ^ min (Int.toNat v0) (IntKind.bits IntKind.u16) ≠ (0 : Int))) (.ret (((1 : Int), ()))) (cond (decide ((0 : Int) < v17)) (.need (inK IntKind.i64 (v17 - (1 : Int))) (.need ((0 : Int) ≤ v17 - (1 : Int) ∧ v17 - (1 : Int) < (↑(List.length v1) : Int)) (.need (True) (cond (decide ((0 : Int) ≤ qcmp (List.getD v1 (Int.toNat (v17 - (1 : Int))) (0 : Int)) (List.getD v15 (Int.toNat v17) (0 : Int)))) (.ret (((4 : Int), ()))) (.need ((0 : Int) ≤ (0 : Int) ∧ (0 : Int) ≤ v17 ∧ v17 ≤ (↑(List.length v1) : Int)) (.need (True) (cond (hasQ (cut2 (0 : Int) v17 v1) (List.getD v15 (Int.toNat v17) (0 : Int))) (.ret (((4 : Int), ()))) (.need (inK IntKind.i64 (v17 + (1 : Int))) (.cut (loopAt (bodyOf Try.prog 29) 6).1 (loopAt (bodyOf Try.prog 29) 6).2 (St.mk [(0, AV.val (Ty.int IntKind.i64) v0), (1, AV.val (Ty.slc false (Ty.int IntKind.u16)) v1), (15, AV.val (Ty.slc false (Ty.int IntKind.u16)) v15), (16, AV.val (Ty.int IntKind.i64) v16), (17, AV.val (Ty.int IntKind.i64) (v17 + (1 : Int)))] [])))))))))) (.need ((0 : Int) ≤ (0 : Int) ∧ (0 : Int) ≤ v17 ∧ v17 ≤ (↑(List.length v1) : Int)) (.need (True) (cond (hasQ (cut2 (0 : Int) v17 v1) (List.getD v15 (Int.toNat v17) (0 : Int))) (.ret (((4 : Int), ()))) (.need (inK IntKind.i64 (v17 + (1 : Int))) (.cut (loopAt (bodyOf Try.prog 29) 6).1 (loopAt (bodyOf Try.prog 29) 6).2 (St.mk [(0, AV.val (Ty.int IntKind.i64) v0), (1, AV.val (Ty.slc false (Ty.int IntKind.u16)) v1), (15, AV.val (Ty.slc false (Ty.int IntKind.u16)) v15), (16, AV.val (Ty.int IntKind.i64) v16), (17, AV.val (Ty.int IntKind.i64) (v17 + (1 : Int)))] [])))))))))) (.ret (((0 : Int), ()))) := by kernel_rfl
theorem cqcheck_valid : cqcheck.Valid Try.prog 29 := by
  refine Ctr.valid_of Eqcheck_ok rfl rfl Try.func29 (c := bodyOf Try.prog 29) rfl rfl Fqcheck_ok rfl ?_
  rintro ⟨(n : Int), (l : List Int), ⟨⟩⟩ - ⟨-, ⟨hl, -⟩, -⟩
  have hl : l.length ≤ 9223372036854775807 := hl
  refine exec_sound (n := 1000) Eqcheck_ok Fqcheck_ok ?_
  refine holds_of_eq (Eqcheck_t n l) ?_
  simp only [holds_cond, Tree.holds, true_and, true_implies, decide_eq_true_eq, decide_eq_false_iff_not, Bool.not_eq_true', Bool.not_eq_false', Int.toNat_natCast, inK_i64, List.length_set, List.length_cons, List.length_nil]
  refine ⟨fun c => ?_, fun c1 => ⟨fun c => ?_, fun c2 => ?_⟩⟩
  · rw [inF_not] at c
    show ((1, ()) : Int × Unit) = (qcheck n l, ()); rw [qcheck, if_pos c]
  · rw [inF_iff] at c1
    show ((2, ()) : Int × Unit) = (qcheck n l, ()); rw [qcheck, if_neg (by omega), if_pos (by omega)]
  rw [inF_iff] at c1
  obtain ⟨m, rfl⟩ : ∃ m : Nat, n = m := ⟨n.toNat, by omega⟩
  have hm : 1 ≤ m ∧ m ≤ 10 := by omega
  have hq : qcheck (m : Int) l = qgo m l l.length 0 := by rw [qcheck, if_neg (by omega), if_neg (by omega), Int.toNat_natCast]
  have emin : min m (IntKind.bits .u16) = m := by show min m 16 = m; omega
  refine Reach.loopI Eqcheck_ok Fqcheck_ok (fun i : Nat => Eqcheck_s6 (m : Int) l l (l.length : Int) (i : Int)) (fun i => i ≤ l.length ∧ qgo m l l.length 0 = qgo m l (l.length - i) i) (fun i => l.length - i) 1000 (fun _ => ⟨uniq_of rfl, uniq_of rfl⟩) ?_ 0 ⟨Nat.zero_le _, rfl⟩
  rintro i ⟨k1, k2⟩ - ih
  refine holds_of_eq (Eqcheck_l6 ..) ?_
  simp only [holds_cond, Tree.holds, true_and, true_implies, decide_eq_true_eq, decide_eq_false_iff_not, Bool.not_eq_true', Bool.not_eq_false', Int.toNat_natCast, inK_i64, List.length_set, List.length_cons, List.length_nil]
  refine ⟨fun c => ⟨by omega, fun _ => ⟨by omega, fun _ => ?_⟩⟩, fun c => ?_⟩
  · have hi : i < l.length := by omega
    obtain ⟨k, hk⟩ : ∃ k, l.length - i = k + 1 := ⟨l.length - i - 1, by omega⟩
    have hk2 : l.length - (i + 1) = k := by omega
    rw [hk, qgo] at k2
    rw [emin]
    have ecut : cut2 0 (i : Int) l = l.take i := by simp [cut2]
    have bad : ∀ {v : Int}, v ≠ 0 → qbad m l i = v → ((v, ()) : Int × Unit) = (qcheck (m : Int) l, ()) := by
      intro v hv hb
      rw [hb, if_pos hv] at k2
      rw [hq, k2]
    have good : qbad m l i = 0 → qgo m l l.length 0 = qgo m l (l.length - (i + 1)) (i + 1) := by
      intro hb
      rw [hb, if_neg (by simp)] at k2
      rw [hk2]; exact k2
    refine ⟨fun d => bad (by omega) ?_, fun d => ⟨fun e => ⟨by omega, fun _ => ⟨by omega, fun _ => ?_⟩⟩, fun e => ?_⟩⟩
    · have d : l.getD i 0 / 2 ^ m ≠ 0 := d
      rw [qbad, if_pos d]
    · have e1 : Int.toNat ((i : Int) - 1) = i - 1 := by omega
      rw [e1]
      refine ⟨fun f => bad (by omega) ?_, fun f => ⟨by omega, fun _ => ?_⟩⟩
      · rw [qbad, if_neg d, if_pos (.inl ⟨by omega, by omega⟩)]
      · rw [ecut]
        refine ⟨fun g => bad (by omega) ?_, fun g => ⟨by omega, fun _ => ih (i + 1) ⟨by omega, good ?_⟩ (by omega)⟩⟩
        · rw [qbad, if_neg d, if_pos (.inr g)]
        · exact qbad_zero.2 ⟨Decidable.not_not.1 d, fun _ => by omega, g⟩
    · refine ⟨by omega, fun _ => ?_⟩
      rw [ecut]
      refine ⟨fun g => bad (by omega) ?_, fun g => ⟨by omega, fun _ => ih (i + 1) ⟨by omega, good ?_⟩ (by omega)⟩⟩
      · rw [qbad, if_neg d, if_pos (.inr g)]
      · exact qbad_zero.2 ⟨Decidable.not_not.1 d, fun h => by omega, g⟩
  · show ((0, ()) : Int × Unit) = (qcheck (m : Int) l, ())
    rw [show l.length - i = 0 by omega] at k2
    rw [hq, k2]; rfl
end Go.Proofs.Ytdhdpklmipkneaa
