/- SnapEnds returns true whatever its arguments, and its arguments read as before. No other condition. -/
import Derived.Test.YtegigiecamjobaaRows
import Derived.Test.YtegigiecamjobaaSnaY
namespace Go.Proofs.Ytegigiecamjobaa
open Go.Ex Go.ChangeShapes Go.WideShapes Go.ChangeAt Go.RowKit

theorem snapEnds_lifted (os : Os) (started : os.Started) (H : Type) (enc : TypeId × Value → H) :
    ReturnsInHanded {} Try.checked os 3 .any (Rows.snapEndsSpec.pre6 enc Try.prog Try.f3 Rows.snapEndsRow.domain false) (Rows.snapEndsSpec.post enc Try.prog Try.f3 false true false false) := by
  refine law_holds (C := Try.checked) (us := [.slc false I64, .slc false Move, I64]) (tb := 4) own started (by kernel_rfl) Try.func3
    (ChangeSpec.witness6 (enc := enc) (C := Try.checked) false ⟨#[], #[.slice none 0 0, .slice none 0 0, .int .i64 0], []⟩ 8 (by kernel_rfl) (by kernel_rfl) (by kernel_rfl) (by kernel_rfl))
    laid (by kernel_rfl) rfl ?_ rfl Try.underlying4 cSnapEnds_valid
  intro ds hds
  match ds, hds with
  | [_, _, _], _ => rfl

theorem snapEnds_over : Rows.snapEndsRow.holds Try.pinned (OpenSpec.ofChange Rows.snapEndsSpec) :=
  OpenClaim.holds_of_wide 3 Try.f3 rfl rfl rfl rfl rfl rfl rfl ⟨rfl, rfl, rfl, rfl, rfl⟩ rfl rfl rfl rfl rfl (by kernel_rfl) Try.func3 (by kernel_rfl)
    (of_decide_eq_true (by kernel_rfl)) (by unfold Func.isWrapper; first | (rw [if_pos (by decide +kernel)]; kernel_rfl) | (rw [if_neg (by decide +kernel)]; exact ⟨rfl, rfl⟩))
    (fun os started H enc _ => snapEnds_lifted os started H enc)

theorem snapEnds_proved : Rows.SnapEndsSaid := snapEnds_over
#print axioms snapEnds_proved
end Go.Proofs.Ytegigiecamjobaa
