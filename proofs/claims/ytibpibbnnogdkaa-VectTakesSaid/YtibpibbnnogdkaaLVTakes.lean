/- VectTakes returns true whatever its arguments, and its arguments read as before. No other condition. -/
import Derived.Test.YtibpibbnnogdkaaRows
import Derived.Test.YtibpibbnnogdkaaVTakes
namespace Go.Proofs.Ytibpibbnnogdkaa
open Go.Ex Go.ChangeShapes Go.WideShapes Go.ChangeAt Go.RowKit

theorem vectTakes_lifted (os : Os) (started : os.Started) (H : Type) (enc : TypeId × Value → H) :
    ReturnsInHanded {} Try.checked os 4 .any (Rows.vectTakesSpec.pre6 enc Try.prog Try.f4 Rows.vectTakesRow.domain false) (Rows.vectTakesSpec.post enc Try.prog Try.f4 false true false false) := by
  refine law_holds (C := Try.checked) (us := [Es]) (tb := 4) own started (by kernel_rfl) Try.func4
    (ChangeSpec.witness6 (enc := enc) (C := Try.checked) false ⟨#[], #[.slice none 0 0], []⟩ 8 (by kernel_rfl) (by kernel_rfl) (by kernel_rfl) (by kernel_rfl))
    laid (by kernel_rfl) rfl ?_ rfl Try.underlying4 cVectTakes_valid
  intro ds hds
  match ds, hds with
  | [_], _ => rfl

theorem vectTakes_over : Rows.vectTakesRow.holds Try.pinned (OpenSpec.ofChange Rows.vectTakesSpec) :=
  OpenClaim.holds_of_wide 4 Try.f4 rfl rfl rfl rfl rfl rfl rfl ⟨rfl, rfl, rfl, rfl, rfl⟩ rfl rfl rfl rfl rfl (by kernel_rfl) Try.func4 (by kernel_rfl)
    (of_decide_eq_true (by kernel_rfl)) (by unfold Func.isWrapper; first | (rw [if_pos (by decide +kernel)]; kernel_rfl) | (rw [if_neg (by decide +kernel)]; exact ⟨rfl, rfl⟩))
    (fun os started H enc _ => vectTakes_lifted os started H enc)

theorem vectTakes_proved : Rows.VectTakesSaid := vectTakes_over
#print axioms vectTakes_proved
end Go.Proofs.Ytibpibbnnogdkaa
