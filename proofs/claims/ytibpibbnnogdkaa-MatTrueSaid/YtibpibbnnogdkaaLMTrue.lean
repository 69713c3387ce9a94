/- MatTrue returns true whatever its arguments, and its arguments read as before. No other condition. -/
import Derived.Test.YtibpibbnnogdkaaRows
import Derived.Test.YtibpibbnnogdkaaMatT
namespace Go.Proofs.Ytibpibbnnogdkaa
open Go.Ex Go.ChangeShapes Go.WideShapes Go.ChangeAt Go.RowKit

theorem matTrue_lifted (os : Os) (started : os.Started) (H : Type) (enc : TypeId × Value → H) :
    ReturnsInHanded {} Try.checked os 6 .any (Rows.matTrueSpec.pre6 enc Try.prog Try.f6 Rows.matTrueRow.domain false) (Rows.matTrueSpec.post enc Try.prog Try.f6 false true false false) := by
  refine law_holds (C := Try.checked) (us := [I64, Es]) (tb := 4) own started (by kernel_rfl) Try.func6
    (ChangeSpec.witness6 (enc := enc) (C := Try.checked) false ⟨#[], #[.int .i64 0, .slice none 0 0], []⟩ 8 (by kernel_rfl) (by kernel_rfl) (by kernel_rfl) (by kernel_rfl))
    laid (by kernel_rfl) rfl ?_ rfl Try.underlying4 cMatTrue_valid
  intro ds hds
  match ds, hds with
  | [_, _], _ => rfl

theorem matTrue_over : Rows.matTrueRow.holds Try.pinned (OpenSpec.ofChange Rows.matTrueSpec) :=
  OpenClaim.holds_of_wide 6 Try.f6 rfl rfl rfl rfl rfl rfl rfl ⟨rfl, rfl, rfl, rfl, rfl⟩ rfl rfl rfl rfl rfl (by kernel_rfl) Try.func6 (by kernel_rfl)
    (of_decide_eq_true (by kernel_rfl)) (by unfold Func.isWrapper; first | (rw [if_pos (by decide +kernel)]; kernel_rfl) | (rw [if_neg (by decide +kernel)]; exact ⟨rfl, rfl⟩))
    (fun os started H enc _ => matTrue_lifted os started H enc)

theorem matTrue_proved : Rows.MatTrueSaid := matTrue_over
#print axioms matTrue_proved
end Go.Proofs.Ytibpibbnnogdkaa
