/- CutMeets returns true whatever its arguments, and its arguments read as before. No other condition. -/
import Derived.Test.YtibpibbnnogdkaaRows
import Derived.Test.YtibpibbnnogdkaaCutL
namespace Go.Proofs.Ytibpibbnnogdkaa
open Go.Ex Go.ChangeShapes Go.WideShapes Go.ChangeAt Go.RowKit

theorem cutMeets_lifted (os : Os) (started : os.Started) (H : Type) (enc : TypeId × Value → H) :
    ReturnsInHanded {} Try.checked os 15 .any (Rows.cutMeetsSpec.pre6 enc Try.prog Try.f15 Rows.cutMeetsRow.domain false) (Rows.cutMeetsSpec.post enc Try.prog Try.f15 false true false false) := by
  refine law_holds (C := Try.checked) (us := [Es, Vec, Vec]) (tb := 4) own started (by kernel_rfl) Try.func15
    (ChangeSpec.witness6 (enc := enc) (C := Try.checked) false ⟨#[], #[.slice none 0 0, .agg #[.int .i64 0, .int .i64 0, .int .i64 0, .int .i64 0, .int .i64 0, .int .i64 0], .agg #[.int .i64 0, .int .i64 0, .int .i64 0, .int .i64 0, .int .i64 0, .int .i64 0]], []⟩ 8 (by kernel_rfl) (by kernel_rfl) (by kernel_rfl) (by kernel_rfl))
    laid (by kernel_rfl) rfl ?_ rfl Try.underlying4 cCutMeets_valid
  intro ds hds
  match ds, hds with
  | [_, _, _], _ => rfl

theorem cutMeets_over : Rows.cutMeetsRow.holds Try.pinned (OpenSpec.ofChange Rows.cutMeetsSpec) :=
  OpenClaim.holds_of_wide 15 Try.f15 rfl rfl rfl rfl rfl rfl rfl ⟨rfl, rfl, rfl, rfl, rfl⟩ rfl rfl rfl rfl rfl (by kernel_rfl) Try.func15 (by kernel_rfl)
    (of_decide_eq_true (by kernel_rfl)) (by unfold Func.isWrapper; first | (rw [if_pos (by decide +kernel)]; kernel_rfl) | (rw [if_neg (by decide +kernel)]; exact ⟨rfl, rfl⟩))
    (fun os started H enc _ => cutMeets_lifted os started H enc)

theorem cutMeets_proved : Rows.CutMeetsSaid := cutMeets_over
#print axioms cutMeets_proved
end Go.Proofs.Ytibpibbnnogdkaa
