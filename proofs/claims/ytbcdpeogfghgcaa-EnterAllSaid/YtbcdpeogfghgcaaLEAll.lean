/- EnterAll returns true whatever its arguments, and its arguments read as before. No other condition. -/
import Derived.Test.YtbcdpeogfghgcaaRows
import Derived.Test.YtbcdpeogfghgcaaEnterM
namespace Go.Proofs.Ytbcdpeogfghgcaa
open Go.Ex Go.ChangeShapes Go.WideShapes Go.ChangeAt Go.RowKit

theorem enterAll_lifted (os : Os) (started : os.Started) (H : Type) (enc : TypeId × Value → H) :
    ReturnsInHanded {} Try.checked os 13 .any (Rows.enterAllSpec.pre6 enc Try.prog Try.f13 Rows.enterAllRow.domain false) (Rows.enterAllSpec.post enc Try.prog Try.f13 false true false false) := by
  refine law_holds (C := Try.checked) (us := [I64, .slc false PairT]) (tb := 4) own started (by kernel_rfl) Try.func13
    (ChangeSpec.witness6 (enc := enc) (C := Try.checked) false ⟨#[], #[.int .i64 0, .slice none 0 0], []⟩ 8 (by kernel_rfl) (by kernel_rfl) (by kernel_rfl) (by kernel_rfl))
    laid (by kernel_rfl) rfl ?_ rfl Try.underlying4 cEnterAll_valid
  intro ds hds
  match ds, hds with
  | [_, _], _ => rfl

theorem enterAll_over : Rows.enterAllRow.holds Try.pinned (OpenSpec.ofChange Rows.enterAllSpec) :=
  OpenClaim.holds_of_wide 13 Try.f13 rfl rfl rfl rfl rfl rfl rfl ⟨rfl, rfl, rfl, rfl, rfl⟩ rfl rfl rfl rfl rfl (by kernel_rfl) Try.func13 (by kernel_rfl)
    (of_decide_eq_true (by kernel_rfl)) (by unfold Func.isWrapper; first | (rw [if_pos (by decide +kernel)]; kernel_rfl) | (rw [if_neg (by decide +kernel)]; exact ⟨rfl, rfl⟩))
    (fun os started H enc _ => enterAll_lifted os started H enc)

theorem enterAll_proved : Rows.EnterAllSaid := enterAll_over
#print axioms enterAll_proved
end Go.Proofs.Ytbcdpeogfghgcaa
