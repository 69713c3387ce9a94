/- VectCounts returns true whatever its arguments, and its arguments read as before. No other condition. -/
import Derived.Test.YtibpibbnnogdkaaRows
import Derived.Test.YtibpibbnnogdkaaVCounts
namespace Go.Proofs.Ytibpibbnnogdkaa
open Go.Ex Go.ChangeShapes Go.WideShapes Go.ChangeAt Go.RowKit

theorem vectCounts_lifted (os : Os) (started : os.Started) (H : Type) (enc : TypeId × Value → H) :
    ReturnsInHanded {} Try.checked os 9 .any (Rows.vectCountsSpec.pre6 enc Try.prog Try.f9 Rows.vectCountsRow.domain false) (Rows.vectCountsSpec.post enc Try.prog Try.f9 false true false false) := by
  refine law_holds (C := Try.checked) (us := [Es]) (tb := 4) own started (by kernel_rfl) Try.func9
    (ChangeSpec.witness6 (enc := enc) (C := Try.checked) false ⟨#[], #[.slice none 0 0], []⟩ 8 (by kernel_rfl) (by kernel_rfl) (by kernel_rfl) (by kernel_rfl))
    laid (by kernel_rfl) rfl ?_ rfl Try.underlying4 cVectCounts_valid
  intro ds hds
  match ds, hds with
  | [_], _ => rfl

theorem vectCounts_over : Rows.vectCountsRow.holds Try.pinned (OpenSpec.ofChange Rows.vectCountsSpec) :=
  OpenClaim.holds_of_wide 9 Try.f9 rfl rfl rfl rfl rfl rfl rfl ⟨rfl, rfl, rfl, rfl, rfl⟩ rfl rfl rfl rfl rfl (by kernel_rfl) Try.func9 (by kernel_rfl)
    (of_decide_eq_true (by kernel_rfl)) (by unfold Func.isWrapper; first | (rw [if_pos (by decide +kernel)]; kernel_rfl) | (rw [if_neg (by decide +kernel)]; exact ⟨rfl, rfl⟩))
    (fun os started H enc _ => vectCounts_lifted os started H enc)

theorem vectCounts_proved : Rows.VectCountsSaid := vectCounts_over
#print axioms vectCounts_proved
end Go.Proofs.Ytibpibbnnogdkaa
