/- StampBound returns true whatever its arguments, and its arguments read as before. No other condition. -/
import Derived.Test.YtibpibbnnogdkaaRows
import Derived.Test.YtibpibbnnogdkaaSBound
namespace Go.Proofs.Ytibpibbnnogdkaa
open Go.Ex Go.ChangeShapes Go.WideShapes Go.ChangeAt Go.RowKit

theorem stampBound_lifted (os : Os) (started : os.Started) (H : Type) (enc : TypeId × Value → H) :
    ReturnsInHanded {} Try.checked os 5 .any (Rows.stampBoundSpec.pre6 enc Try.prog Try.f5 Rows.stampBoundRow.domain false) (Rows.stampBoundSpec.post enc Try.prog Try.f5 false true false false) := by
  refine law_holds (C := Try.checked) (us := [Es, I64]) (tb := 4) own started (by kernel_rfl) Try.func5
    (ChangeSpec.witness6 (enc := enc) (C := Try.checked) false ⟨#[], #[.slice none 0 0, .int .i64 0], []⟩ 8 (by kernel_rfl) (by kernel_rfl) (by kernel_rfl) (by kernel_rfl))
    laid (by kernel_rfl) rfl ?_ rfl Try.underlying4 cStampBound_valid
  intro ds hds
  match ds, hds with
  | [_, _], _ => rfl

theorem stampBound_over : Rows.stampBoundRow.holds Try.pinned (OpenSpec.ofChange Rows.stampBoundSpec) :=
  OpenClaim.holds_of_wide 5 Try.f5 rfl rfl rfl rfl rfl rfl rfl ⟨rfl, rfl, rfl, rfl, rfl⟩ rfl rfl rfl rfl rfl (by kernel_rfl) Try.func5 (by kernel_rfl)
    (of_decide_eq_true (by kernel_rfl)) (by unfold Func.isWrapper; first | (rw [if_pos (by decide +kernel)]; kernel_rfl) | (rw [if_neg (by decide +kernel)]; exact ⟨rfl, rfl⟩))
    (fun os started H enc _ => stampBound_lifted os started H enc)

theorem stampBound_proved : Rows.StampBoundSaid := stampBound_over
#print axioms stampBound_proved
end Go.Proofs.Ytibpibbnnogdkaa
