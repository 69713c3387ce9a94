/- cmp.Compare and cmp.Or at int. No condition. -/
import Derived.Test.YtdhdpklmipkneaaBase
namespace Go.Proofs.Ytdhdpklmipkneaa
open Go.Ex
set_option maxRecDepth 100000
def cmpI (x y : Int) : Int := if x < y then -1 else if y < x then 1 else 0
def cnanI : Ctr := { ps := [.v I64], rs := [.bool], pre := fun _ => True, fn := fun _ => (false, ()), out := fun _ => () }
noncomputable def EnanI : Env := { P := Try.prog, tt := tt, ctr := [], res := [Go.ResultVar.tmp 2], rs := [Ty.bool], ps := [PK.v (Ty.int IntKind.i64)], cuts := [], nt := 6 }
theorem EnanI_ok : EnvOk EnanI := envOk tt_ok trivial
theorem FnanI_ok : FnOk EnanI Try.f126 := ⟨rfl, rfl⟩
theorem EnanI_t (x0 : Int) : exec EnanI 1000 [.code (bodyOf Try.prog 126)] (initSt cnanI.ps ((x0, ()))) =
  .ret ((decide (x0 ≠ x0), ())) := by kernel_rfl
theorem cnanI_valid : cnanI.Valid Try.prog 126 := by
  refine Ctr.valid_of EnanI_ok rfl rfl Try.func126 (c := bodyOf Try.prog 126) rfl rfl FnanI_ok rfl ?_
  rintro ⟨(x : Int), ⟨⟩⟩ - -
  refine exec_sound (n := 1000) EnanI_ok FnanI_ok ?_
  refine holds_of_eq (EnanI_t x) ?_
  show ((decide (x ≠ x), ()) : Bool × Unit) = (false, ())
  simp
def ccmpI : Ctr := { ps := [.v I64, .v I64], rs := [I64], pre := fun _ => True, fn := fun x => (cmpI x.1 x.2.1, ()), out := fun _ => () }
noncomputable def EcmpI : Env := { P := Try.prog, tt := tt, ctr := [(126, cnanI)], res := [Go.ResultVar.tmp 4], rs := [Ty.int IntKind.i64], ps := [PK.v (Ty.int IntKind.i64), PK.v (Ty.int IntKind.i64)], cuts := [], nt := 20 }
theorem EcmpI_ok : EnvOk EcmpI := envOk tt_ok ⟨cnanI_valid, trivial⟩
theorem FcmpI_ok : FnOk EcmpI Try.f68 := ⟨rfl, rfl⟩
theorem EcmpI_t (x0 : Int) (x1 : Int) : exec EcmpI 1000 [.code (bodyOf Try.prog 68)] (initSt ccmpI.ps ((x0, x1, ()))) =
  .need (True) (.need (True) (cond (decide (x0 < x1)) (.ret (((-1 : Int), ()))) (cond (decide (x1 < x0)) (.ret (((1 : Int), ()))) (.ret (((0 : Int), ())))))) := by kernel_rfl
theorem ccmpI_valid : ccmpI.Valid Try.prog 68 := by
  refine Ctr.valid_of EcmpI_ok rfl rfl Try.func68 (c := bodyOf Try.prog 68) rfl rfl FcmpI_ok rfl ?_
  rintro ⟨(x : Int), (y : Int), ⟨⟩⟩ - -
  refine exec_sound (n := 1000) EcmpI_ok FcmpI_ok ?_
  refine holds_of_eq (EcmpI_t x y) ?_
  simp only [holds_cond, Tree.holds, true_and, true_implies, decide_eq_true_eq, decide_eq_false_iff_not, Bool.not_eq_true', Bool.not_eq_false', Int.toNat_natCast, inK_i64, List.length_set, List.length_cons, List.length_nil]
  repeat' first | exact trivial | (refine And.intro ?_ ?_) | (intro _)
  all_goals (show ((_, ()) : Int × Unit) = (cmpI x y, ()); simp [cmpI, *])
def orF : List Int → Int
  | [] => 0
  | x :: l => if x ≠ 0 then x else orF l
def corI : Ctr := { ps := [.v (.slc false I64)], rs := [I64], pre := fun _ => True, fn := fun x => (orF x.1, ()), out := fun _ => () }
noncomputable def EorI : Env := { P := Try.prog, tt := tt, ctr := [], res := [Go.ResultVar.tmp 2], rs := [Ty.int IntKind.i64], ps := [PK.v (Ty.slc false (Ty.int IntKind.i64))], cuts := [(3, [(3, none), (6, none), (7, none), (8, none)])], nt := 18 }
theorem EorI_ok : EnvOk EorI := envOk tt_ok trivial
theorem ForI_ok : FnOk EorI Try.f67 := ⟨rfl, rfl⟩
theorem EorI_t (x0 : List Int) : exec EorI 1000 [.code (bodyOf Try.prog 67)] (initSt corI.ps ((x0, ()))) =
  .cut (loopAt (bodyOf Try.prog 67) 3).1 (loopAt (bodyOf Try.prog 67) 3).2 (St.mk [(3, AV.val (Ty.int IntKind.i64) (0 : Int)), (6, AV.val (Ty.slc false (Ty.int IntKind.i64)) x0), (7, AV.val (Ty.int IntKind.i64) (↑(List.length x0) : Int)), (8, AV.val (Ty.int IntKind.i64) (0 : Int))] []) := by kernel_rfl
def EorI_s3 (v3 : Int) (v6 : List Int) (v7 : Int) (v8 : Int) : St := St.mk [(3, AV.val (Ty.int IntKind.i64) v3), (6, AV.val (Ty.slc false (Ty.int IntKind.i64)) v6), (7, AV.val (Ty.int IntKind.i64) v7), (8, AV.val (Ty.int IntKind.i64) v8)] []
theorem EorI_l3 (v3 : Int) (v6 : List Int) (v7 : Int) (v8 : Int) : exec EorI 1000 (.code (loopAt (bodyOf Try.prog 67) 3).1 :: .inLoop (loopAt (bodyOf Try.prog 67) 3).1 :: (loopAt (bodyOf Try.prog 67) 3).2) (EorI_s3 v3 v6 v7 v8) =
  cond (decide (v8 < v7)) (.need ((0 : Int) ≤ v8 ∧ v8 < (↑(List.length v6) : Int)) (cond (decide (List.getD v6 (Int.toNat v8) (0 : Int) ≠ v3)) (.ret ((List.getD v6 (Int.toNat v8) (0 : Int), ()))) (.need (inK IntKind.i64 (v8 + (1 : Int))) (.cut (loopAt (bodyOf Try.prog 67) 3).1 (loopAt (bodyOf Try.prog 67) 3).2 (St.mk [(3, AV.val (Ty.int IntKind.i64) v3), (6, AV.val (Ty.slc false (Ty.int IntKind.i64)) v6), (7, AV.val (Ty.int IntKind.i64) v7), (8, AV.val (Ty.int IntKind.i64) (v8 + (1 : Int)))] []))))) (.ret ((v3, ()))) := by kernel_rfl
theorem corI_valid : corI.Valid Try.prog 67 := by
  refine Ctr.valid_of EorI_ok rfl rfl Try.func67 (c := bodyOf Try.prog 67) rfl rfl ForI_ok rfl ?_
  rintro ⟨(l : List Int), ⟨⟩⟩ - ⟨⟨hl, -⟩, -⟩
  have hl : l.length ≤ 9223372036854775807 := hl
  refine exec_sound (n := 1000) EorI_ok ForI_ok ?_
  refine holds_of_eq (EorI_t l) ?_
  refine Reach.loopI EorI_ok ForI_ok (fun i : Nat => EorI_s3 (0 : Int) l (l.length : Int) (i : Int)) (fun i => i ≤ l.length ∧ orF l = orF (l.drop i)) (fun i => l.length - i) 1000 (fun _ => ⟨uniq_of rfl, uniq_of rfl⟩) ?_ 0 ⟨Nat.zero_le _, rfl⟩
  rintro i ⟨k1, k2⟩ - ih
  refine holds_of_eq (EorI_l3 ..) ?_
  simp only [holds_cond, Tree.holds, true_and, true_implies, decide_eq_true_eq, decide_eq_false_iff_not, Bool.not_eq_true', Bool.not_eq_false', Int.toNat_natCast, inK_i64, List.length_set, List.length_cons, List.length_nil]
  refine ⟨fun c => ⟨by omega, fun _ => ⟨fun d => ?_, fun d => ⟨by omega, fun _ => ih (i + 1) ⟨by omega, ?_⟩ (by omega)⟩⟩⟩, fun c => ?_⟩
  · rw [drop_getD (show i < l.length by omega) 0, orF, if_pos d] at k2
    show ((l.getD i 0, ()) : Int × Unit) = (orF l, ())
    rw [k2]
  · rw [drop_getD (show i < l.length by omega) 0, orF, if_neg (by simpa using d)] at k2
    exact k2
  · rw [List.drop_eq_nil_of_le (by omega)] at k2
    show ((0, ()) : Int × Unit) = (orF l, ())
    rw [k2]; rfl
end Go.Proofs.Ytdhdpklmipkneaa
