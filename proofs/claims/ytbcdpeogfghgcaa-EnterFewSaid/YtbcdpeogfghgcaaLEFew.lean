/- EnterFew returns true whatever its arguments, and its arguments read as before. No other condition. -/
import Derived.Test.YtbcdpeogfghgcaaRows
import Derived.Test.YtbcdpeogfghgcaaEnterL
namespace Go.Proofs.Ytbcdpeogfghgcaa
open Go.Ex Go.ChangeShapes Go.WideShapes Go.ChangeAt Go.RowKit

theorem enterFew_lifted (os : Os) (started : os.Started) (H : Type) (enc : TypeId × Value → H) :
    ReturnsInHanded {} Try.checked os 11 .any (Rows.enterFewSpec.pre6 enc Try.prog Try.f11 Rows.enterFewRow.domain false) (Rows.enterFewSpec.post enc Try.prog Try.f11 false true false false) := by
  refine law_holds (C := Try.checked) (us := [I64, I64]) (tb := 4) own started (by kernel_rfl) Try.func11
    (ChangeSpec.witness6 (enc := enc) (C := Try.checked) false ⟨#[], #[.int .i64 0, .int .i64 0], []⟩ 8 (by kernel_rfl) (by kernel_rfl) (by kernel_rfl) (by kernel_rfl))
    laid (by kernel_rfl) rfl ?_ rfl Try.underlying4 cEnterFew_valid
  intro ds hds
  match ds, hds with
  | [_, _], _ => rfl

theorem enterFew_over : Rows.enterFewRow.holds Try.pinned (OpenSpec.ofChange Rows.enterFewSpec) :=
  OpenClaim.holds_of_wide 11 Try.f11 rfl rfl rfl rfl rfl rfl rfl ⟨rfl, rfl, rfl, rfl, rfl⟩ rfl rfl rfl rfl rfl (by kernel_rfl) Try.func11 (by kernel_rfl)
    (of_decide_eq_true (by kernel_rfl)) (by unfold Func.isWrapper; first | (rw [if_pos (by decide +kernel)]; kernel_rfl) | (rw [if_neg (by decide +kernel)]; exact ⟨rfl, rfl⟩))
    (fun os started H enc _ => enterFew_lifted os started H enc)

theorem enterFew_proved : Rows.EnterFewSaid := enterFew_over
#print axioms enterFew_proved
end Go.Proofs.Ytbcdpeogfghgcaa
