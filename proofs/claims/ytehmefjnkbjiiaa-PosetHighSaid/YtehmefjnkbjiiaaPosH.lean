/- PosetHigh. -/
import Derived.Test.YtehmefjnkbjiiaaPosV
namespace Go.Proofs.Ytehmefjnkbjiiaa
open Go.Ex
set_option maxRecDepth 100000
abbrev AhT : Ty := .box false (some 75) (.slc false PairT)
def isS (o : Option (List PairD)) : Prop := o.isSome = true
def memO (q : PairD) (o : Option (List PairD)) : Bool := memP q (o.getD [])
def chigh1 : Ctr := { ps := [.v I64, .rd AhT, .rd I64], rs := [.bool], pre := fun x => isS x.2.1, fn := fun x => (memO (x.1, x.2.2.1, ()) x.2.1, ()), out := fun _ => () }
noncomputable def Ehigh1 : Env := { P := Try.prog, tt := tt, ctr := [(75, cahead1)], res := [Go.ResultVar.tmp 4], rs := [Ty.bool], ps := [PK.v (Ty.int IntKind.i64), PK.rd (Ty.box false (some 75) (Ty.slc false PairT)), PK.rd (Ty.int IntKind.i64)], cuts := [], nt := 9 }
theorem Ehigh1_ok : EnvOk Ehigh1 := envOk tt_ok ⟨cahead1_valid, trivial⟩
theorem Fhigh1_ok : FnOk Ehigh1 Try.f35 := ⟨rfl, rfl⟩
theorem Ehigh1_t (x0 : Int) (x1_b : List (Int × Int × Unit)) (x2 : Int) : exec Ehigh1 1000 [.code (bodyOf Try.prog 35)] (initSt chigh1.ps ((x0, some x1_b, x2, ()))) =
  .need (Option.isSome (some x1_b) = true ∧ True) (.ret ((memP (x0, x2, ()) (Option.getD (some x1_b) []), ()))) := by kernel_rfl
theorem chigh1_valid : chigh1.Valid Try.prog 35 := by
  refine Ctr.valid_of Ehigh1_ok rfl rfl Try.func35 (c := bodyOf Try.prog 35) rfl rfl Fhigh1_ok rfl ?_
  rintro ⟨(a : Int), (o : Option (List PairD)), (b : Int), ⟨⟩⟩ (ho : o.isSome = true) -
  obtain ⟨l, rfl⟩ := Option.isSome_iff_exists.1 ho
  refine exec_sound (n := 1000) Ehigh1_ok Fhigh1_ok ?_
  refine holds_of_eq (Ehigh1_t a l b) ?_
  simp only [holds_cond, Tree.holds, true_and, true_implies, decide_eq_true_eq, decide_eq_false_iff_not, Bool.not_eq_true', Bool.not_eq_false', Int.toNat_natCast, inK_i64, List.length_set, List.length_cons, List.length_nil]
  exact ⟨⟨ho, trivial⟩, fun _ => rfl⟩
end Go.Proofs.Ytehmefjnkbjiiaa
