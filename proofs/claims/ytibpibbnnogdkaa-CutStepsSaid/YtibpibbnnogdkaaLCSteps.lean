/- CutSteps returns true whatever its arguments, and its arguments read as before. No other condition. -/
import Derived.Test.YtibpibbnnogdkaaRows
import Derived.Test.YtibpibbnnogdkaaCutM
namespace Go.Proofs.Ytibpibbnnogdkaa
open Go.Ex Go.ChangeShapes Go.WideShapes Go.ChangeAt Go.RowKit

theorem cutSteps_lifted (os : Os) (started : os.Started) (H : Type) (enc : TypeId × Value → H) :
    ReturnsInHanded {} Try.checked os 18 .any (Rows.cutStepsSpec.pre6 enc Try.prog Try.f18 Rows.cutStepsRow.domain false) (Rows.cutStepsSpec.post enc Try.prog Try.f18 false true false false) := by
  refine law_holds (C := Try.checked) (us := [Es, Vec]) (tb := 4) own started (by kernel_rfl) Try.func18
    (ChangeSpec.witness6 (enc := enc) (C := Try.checked) false ⟨#[], #[.slice none 0 0, .agg #[.int .i64 0, .int .i64 0, .int .i64 0, .int .i64 0, .int .i64 0, .int .i64 0]], []⟩ 8 (by kernel_rfl) (by kernel_rfl) (by kernel_rfl) (by kernel_rfl))
    laid (by kernel_rfl) rfl ?_ rfl Try.underlying4 cCutSteps_valid
  intro ds hds
  match ds, hds with
  | [_, _], _ => rfl

theorem cutSteps_over : Rows.cutStepsRow.holds Try.pinned (OpenSpec.ofChange Rows.cutStepsSpec) :=
  OpenClaim.holds_of_wide 18 Try.f18 rfl rfl rfl rfl rfl rfl rfl ⟨rfl, rfl, rfl, rfl, rfl⟩ rfl rfl rfl rfl rfl (by kernel_rfl) Try.func18 (by kernel_rfl)
    (of_decide_eq_true (by kernel_rfl)) (by unfold Func.isWrapper; first | (rw [if_pos (by decide +kernel)]; kernel_rfl) | (rw [if_neg (by decide +kernel)]; exact ⟨rfl, rfl⟩))
    (fun os started H enc _ => cutSteps_lifted os started H enc)

theorem cutSteps_proved : Rows.CutStepsSaid := cutSteps_over
#print axioms cutSteps_proved
end Go.Proofs.Ytibpibbnnogdkaa
