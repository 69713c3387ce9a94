/- CutMany returns true whatever its arguments, and its arguments read as before. No other condition. -/
import Derived.Test.YtibpibbnnogdkaaRows
import Derived.Test.YtibpibbnnogdkaaCutM
namespace Go.Proofs.Ytibpibbnnogdkaa
open Go.Ex Go.ChangeShapes Go.WideShapes Go.ChangeAt Go.RowKit

theorem cutMany_lifted (os : Os) (started : os.Started) (H : Type) (enc : TypeId × Value → H) :
    ReturnsInHanded {} Try.checked os 17 .any (Rows.cutManySpec.pre6 enc Try.prog Try.f17 Rows.cutManyRow.domain false) (Rows.cutManySpec.post enc Try.prog Try.f17 false true false false) := by
  refine law_holds (C := Try.checked) (us := [Es]) (tb := 4) own started (by kernel_rfl) Try.func17
    (ChangeSpec.witness6 (enc := enc) (C := Try.checked) false ⟨#[], #[.slice none 0 0], []⟩ 8 (by kernel_rfl) (by kernel_rfl) (by kernel_rfl) (by kernel_rfl))
    laid (by kernel_rfl) rfl ?_ rfl Try.underlying4 cCutMany_valid
  intro ds hds
  match ds, hds with
  | [_], _ => rfl

theorem cutMany_over : Rows.cutManyRow.holds Try.pinned (OpenSpec.ofChange Rows.cutManySpec) :=
  OpenClaim.holds_of_wide 17 Try.f17 rfl rfl rfl rfl rfl rfl rfl ⟨rfl, rfl, rfl, rfl, rfl⟩ rfl rfl rfl rfl rfl (by kernel_rfl) Try.func17 (by kernel_rfl)
    (of_decide_eq_true (by kernel_rfl)) (by unfold Func.isWrapper; first | (rw [if_pos (by decide +kernel)]; kernel_rfl) | (rw [if_neg (by decide +kernel)]; exact ⟨rfl, rfl⟩))
    (fun os started H enc _ => cutMany_lifted os started H enc)

theorem cutMany_proved : Rows.CutManySaid := cutMany_over
#print axioms cutMany_proved
end Go.Proofs.Ytibpibbnnogdkaa
