/- SnapSum returns true whatever its arguments, and its arguments read as before. No other condition. -/
import Derived.Test.YtegigiecamjobaaRows
import Derived.Test.YtegigiecamjobaaSnaT
namespace Go.Proofs.Ytegigiecamjobaa
open Go.Ex Go.ChangeShapes Go.WideShapes Go.ChangeAt Go.RowKit

theorem snapSum_lifted (os : Os) (started : os.Started) (H : Type) (enc : TypeId × Value → H) :
    ReturnsInHanded {} Try.checked os 6 .any (Rows.snapSumSpec.pre6 enc Try.prog Try.f6 Rows.snapSumRow.domain false) (Rows.snapSumSpec.post enc Try.prog Try.f6 false true false false) := by
  refine law_holds (C := Try.checked) (us := [.slc false I64, .slc false Move]) (tb := 4) own started (by kernel_rfl) Try.func6
    (ChangeSpec.witness6 (enc := enc) (C := Try.checked) false ⟨#[], #[.slice none 0 0, .slice none 0 0], []⟩ 8 (by kernel_rfl) (by kernel_rfl) (by kernel_rfl) (by kernel_rfl))
    laid (by kernel_rfl) rfl ?_ rfl Try.underlying4 cSnapSum_valid
  intro ds hds
  match ds, hds with
  | [_, _], _ => rfl

theorem snapSum_over : Rows.snapSumRow.holds Try.pinned (OpenSpec.ofChange Rows.snapSumSpec) :=
  OpenClaim.holds_of_wide 6 Try.f6 rfl rfl rfl rfl rfl rfl rfl ⟨rfl, rfl, rfl, rfl, rfl⟩ rfl rfl rfl rfl rfl (by kernel_rfl) Try.func6 (by kernel_rfl)
    (of_decide_eq_true (by kernel_rfl)) (by unfold Func.isWrapper; first | (rw [if_pos (by decide +kernel)]; kernel_rfl) | (rw [if_neg (by decide +kernel)]; exact ⟨rfl, rfl⟩))
    (fun os started H enc _ => snapSum_lifted os started H enc)

theorem snapSum_proved : Rows.SnapSumSaid := snapSum_over
#print axioms snapSum_proved
end Go.Proofs.Ytegigiecamjobaa
