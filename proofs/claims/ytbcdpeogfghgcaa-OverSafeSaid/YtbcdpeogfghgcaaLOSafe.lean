/- OverSafe returns true whatever its arguments, and its arguments read as before. No other condition. -/
import Derived.Test.YtbcdpeogfghgcaaRows
import Derived.Test.YtbcdpeogfghgcaaOverL
namespace Go.Proofs.Ytbcdpeogfghgcaa
open Go.Ex Go.ChangeShapes Go.WideShapes Go.ChangeAt Go.RowKit

theorem overSafe_lifted (os : Os) (started : os.Started) (H : Type) (enc : TypeId × Value → H) :
    ReturnsInHanded {} Try.checked os 16 .any (Rows.overSafeSpec.pre6 enc Try.prog Try.f16 Rows.overSafeRow.domain false) (Rows.overSafeSpec.post enc Try.prog Try.f16 false true false false) := by
  refine law_holds (C := Try.checked) (us := [I64, .slc false Word]) (tb := 4) own started (by kernel_rfl) Try.func16
    (ChangeSpec.witness6 (enc := enc) (C := Try.checked) false ⟨#[], #[.int .i64 0, .slice none 0 0], []⟩ 8 (by kernel_rfl) (by kernel_rfl) (by kernel_rfl) (by kernel_rfl))
    laid (by kernel_rfl) rfl ?_ rfl Try.underlying4 cOverSafe_valid
  intro ds hds
  match ds, hds with
  | [_, _], _ => rfl

theorem overSafe_over : Rows.overSafeRow.holds Try.pinned (OpenSpec.ofChange Rows.overSafeSpec) :=
  OpenClaim.holds_of_wide 16 Try.f16 rfl rfl rfl rfl rfl rfl rfl ⟨rfl, rfl, rfl, rfl, rfl⟩ rfl rfl rfl rfl rfl (by kernel_rfl) Try.func16 (by kernel_rfl)
    (of_decide_eq_true (by kernel_rfl)) (by unfold Func.isWrapper; first | (rw [if_pos (by decide +kernel)]; kernel_rfl) | (rw [if_neg (by decide +kernel)]; exact ⟨rfl, rfl⟩))
    (fun os started H enc _ => overSafe_lifted os started H enc)

theorem overSafe_proved : Rows.OverSafeSaid := overSafe_over
#print axioms overSafe_proved
end Go.Proofs.Ytbcdpeogfghgcaa
