/- CutShrinks returns true whatever its arguments, and its arguments read as before. No other condition. -/
import Derived.Test.YtibpibbnnogdkaaRows
import Derived.Test.YtibpibbnnogdkaaCutL
namespace Go.Proofs.Ytibpibbnnogdkaa
open Go.Ex Go.ChangeShapes Go.WideShapes Go.ChangeAt Go.RowKit

theorem cutShrinks_lifted (os : Os) (started : os.Started) (H : Type) (enc : TypeId × Value → H) :
    ReturnsInHanded {} Try.checked os 16 .any (Rows.cutShrinksSpec.pre6 enc Try.prog Try.f16 Rows.cutShrinksRow.domain false) (Rows.cutShrinksSpec.post enc Try.prog Try.f16 false true false false) := by
  refine law_holds (C := Try.checked) (us := [Es, Vec, Vec]) (tb := 4) own started (by kernel_rfl) Try.func16
    (ChangeSpec.witness6 (enc := enc) (C := Try.checked) false ⟨#[], #[.slice none 0 0, .agg #[.int .i64 0, .int .i64 0, .int .i64 0, .int .i64 0, .int .i64 0, .int .i64 0], .agg #[.int .i64 0, .int .i64 0, .int .i64 0, .int .i64 0, .int .i64 0, .int .i64 0]], []⟩ 8 (by kernel_rfl) (by kernel_rfl) (by kernel_rfl) (by kernel_rfl))
    laid (by kernel_rfl) rfl ?_ rfl Try.underlying4 cCutShrinks_valid
  intro ds hds
  match ds, hds with
  | [_, _, _], _ => rfl

theorem cutShrinks_over : Rows.cutShrinksRow.holds Try.pinned (OpenSpec.ofChange Rows.cutShrinksSpec) :=
  OpenClaim.holds_of_wide 16 Try.f16 rfl rfl rfl rfl rfl rfl rfl ⟨rfl, rfl, rfl, rfl, rfl⟩ rfl rfl rfl rfl rfl (by kernel_rfl) Try.func16 (by kernel_rfl)
    (of_decide_eq_true (by kernel_rfl)) (by unfold Func.isWrapper; first | (rw [if_pos (by decide +kernel)]; kernel_rfl) | (rw [if_neg (by decide +kernel)]; exact ⟨rfl, rfl⟩))
    (fun os started H enc _ => cutShrinks_lifted os started H enc)

theorem cutShrinks_proved : Rows.CutShrinksSaid := cutShrinks_over
#print axioms cutShrinks_proved
end Go.Proofs.Ytibpibbnnogdkaa
