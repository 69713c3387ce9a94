/- ViewNext returns true whatever its arguments, and its arguments read as before. No condition. -/
import Derived.Test.YtagjonjobbckdaaRows
import Derived.Test.YtagjonjobbckdaaView
namespace Go.Proofs.Ytagjonjobbckdaa
open Go.Ex Go.ChangeShapes Go.WideShapes Go.ChangeAt Go.RowKit

theorem own : ownKnob Try.prog.godebug = none := by kernel_rfl
theorem laid : laidOutB Try.prog = true := by kernel_rfl

theorem viewNext_lifted (os : Os) (started : os.Started) (H : Type) (enc : TypeId × Value → H) :
    ReturnsInHanded {} Try.checked os 9 .any (Rows.viewNextSpec.pre6 enc Try.prog Try.f9 Rows.viewNextRow.domain false) (Rows.viewNextSpec.post enc Try.prog Try.f9 false true false false) := by
  refine law_holds (C := Try.checked) (us := [V, .int .u8, .int .u8]) (tb := 4) own started (by kernel_rfl) Try.func9
    (ChangeSpec.witness6 (enc := enc) (C := Try.checked) false ⟨#[], #[.agg #[.int .i64 0, .int .u8 0], .int .u8 0, .int .u8 0], []⟩ 8 (by kernel_rfl) (by kernel_rfl) (by kernel_rfl) (by kernel_rfl))
    laid (by kernel_rfl) rfl ?_ rfl Try.underlying4 c9_valid
  intro ds hds
  match ds, hds with
  | [_, _, _], _ => rfl

theorem viewNext_over : Rows.viewNextRow.holds Try.pinned (OpenSpec.ofChange Rows.viewNextSpec) :=
  OpenClaim.holds_of_wide 9 Try.f9 rfl rfl rfl rfl rfl rfl rfl ⟨rfl, rfl, rfl, rfl, rfl⟩ rfl rfl rfl rfl rfl (by kernel_rfl) Try.func9 (by kernel_rfl)
    (of_decide_eq_true (by kernel_rfl)) (by unfold Func.isWrapper; first | (rw [if_pos (by decide +kernel)]; kernel_rfl) | (rw [if_neg (by decide +kernel)]; exact ⟨rfl, rfl⟩))
    (fun os started H enc _ => viewNext_lifted os started H enc)

theorem viewNext_proved : Rows.ViewNextSaid := viewNext_over
#print axioms viewNext_proved
end Go.Proofs.Ytagjonjobbckdaa
