/- VectTells returns true whatever its arguments, and its arguments read as before. No other condition. -/
import Derived.Test.YtibpibbnnogdkaaRows
import Derived.Test.YtibpibbnnogdkaaVTells
namespace Go.Proofs.Ytibpibbnnogdkaa
open Go.Ex Go.ChangeShapes Go.WideShapes Go.ChangeAt Go.RowKit

theorem vectTells_lifted (os : Os) (started : os.Started) (H : Type) (enc : TypeId × Value → H) :
    ReturnsInHanded {} Try.checked os 14 .any (Rows.vectTellsSpec.pre6 enc Try.prog Try.f14 Rows.vectTellsRow.domain false) (Rows.vectTellsSpec.post enc Try.prog Try.f14 false true false false) := by
  refine law_holds (C := Try.checked) (us := [Es]) (tb := 4) own started (by kernel_rfl) Try.func14
    (ChangeSpec.witness6 (enc := enc) (C := Try.checked) false ⟨#[], #[.slice none 0 0], []⟩ 8 (by kernel_rfl) (by kernel_rfl) (by kernel_rfl) (by kernel_rfl))
    laid (by kernel_rfl) rfl ?_ rfl Try.underlying4 cVectTells_valid
  intro ds hds
  match ds, hds with
  | [_], _ => rfl

theorem vectTells_over : Rows.vectTellsRow.holds Try.pinned (OpenSpec.ofChange Rows.vectTellsSpec) :=
  OpenClaim.holds_of_wide 14 Try.f14 rfl rfl rfl rfl rfl rfl rfl ⟨rfl, rfl, rfl, rfl, rfl⟩ rfl rfl rfl rfl rfl (by kernel_rfl) Try.func14 (by kernel_rfl)
    (of_decide_eq_true (by kernel_rfl)) (by unfold Func.isWrapper; first | (rw [if_pos (by decide +kernel)]; kernel_rfl) | (rw [if_neg (by decide +kernel)]; exact ⟨rfl, rfl⟩))
    (fun os started H enc _ => vectTells_lifted os started H enc)

theorem vectTells_proved : Rows.VectTellsSaid := vectTells_over
#print axioms vectTells_proved
end Go.Proofs.Ytibpibbnnogdkaa
