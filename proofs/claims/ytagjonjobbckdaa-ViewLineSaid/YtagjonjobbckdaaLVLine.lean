/- ViewLine returns true whatever its arguments, and its arguments read as before. No condition. -/
import Derived.Test.YtagjonjobbckdaaRows
import Derived.Test.YtagjonjobbckdaaVLine
namespace Go.Proofs.Ytagjonjobbckdaa
open Go.Ex Go.ChangeShapes Go.WideShapes Go.ChangeAt Go.RowKit

theorem viewLine_lifted (os : Os) (started : os.Started) (H : Type) (enc : TypeId × Value → H) :
    ReturnsInHanded {} Try.checked os 8 .any (Rows.viewLineSpec.pre6 enc Try.prog Try.f8 Rows.viewLineRow.domain false) (Rows.viewLineSpec.post enc Try.prog Try.f8 false true false false) := by
  refine law_holds (C := Try.checked) (us := [V, .slc false PairT]) (tb := 4) own started (by kernel_rfl) Try.func8
    (ChangeSpec.witness6 (enc := enc) (C := Try.checked) false ⟨#[], #[.agg #[.int .i64 0, .int .u8 0], .slice none 0 0], []⟩ 8 (by kernel_rfl) (by kernel_rfl) (by kernel_rfl) (by kernel_rfl))
    laid (by kernel_rfl) rfl ?_ rfl Try.underlying4 c8_valid
  intro ds hds
  match ds, hds with
  | [_, _], _ => rfl

theorem viewLine_over : Rows.viewLineRow.holds Try.pinned (OpenSpec.ofChange Rows.viewLineSpec) :=
  OpenClaim.holds_of_wide 8 Try.f8 rfl rfl rfl rfl rfl rfl rfl ⟨rfl, rfl, rfl, rfl, rfl⟩ rfl rfl rfl rfl rfl (by kernel_rfl) Try.func8 (by kernel_rfl)
    (of_decide_eq_true (by kernel_rfl)) (by unfold Func.isWrapper; first | (rw [if_pos (by decide +kernel)]; kernel_rfl) | (rw [if_neg (by decide +kernel)]; exact ⟨rfl, rfl⟩))
    (fun os started H enc _ => viewLine_lifted os started H enc)

theorem viewLine_proved : Rows.ViewLineSaid := viewLine_over
#print axioms viewLine_proved
end Go.Proofs.Ytagjonjobbckdaa
