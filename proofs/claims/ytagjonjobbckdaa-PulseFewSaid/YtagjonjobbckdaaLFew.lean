/- PulseFew returns true whatever its arguments, and its arguments read as before. No other condition. -/
import Derived.Test.YtagjonjobbckdaaRows
import Derived.Test.YtagjonjobbckdaaFew
namespace Go.Proofs.Ytagjonjobbckdaa
open Go.Ex Go.ChangeShapes Go.WideShapes Go.ChangeAt Go.RowKit

theorem pulseFew_lifted (os : Os) (started : os.Started) (H : Type) (enc : TypeId × Value → H) :
    ReturnsInHanded {} Try.checked os 11 .any (Rows.pulseFewSpec.pre6 enc Try.prog Try.f11 Rows.pulseFewRow.domain false) (Rows.pulseFewSpec.post enc Try.prog Try.f11 false true false false) := by
  refine law_holds (C := Try.checked) (us := [I64, .slc false I64, I64]) (tb := 4) own started (by kernel_rfl) Try.func11
    (ChangeSpec.witness6 (enc := enc) (C := Try.checked) false ⟨#[], #[.int .i64 0, .slice none 0 0, .int .i64 0], []⟩ 8 (by kernel_rfl) (by kernel_rfl) (by kernel_rfl) (by kernel_rfl))
    laid (by kernel_rfl) rfl ?_ rfl Try.underlying4 c11_valid
  intro ds hds
  match ds, hds with
  | [_, _, _], _ => rfl

theorem pulseFew_over : Rows.pulseFewRow.holds Try.pinned (OpenSpec.ofChange Rows.pulseFewSpec) :=
  OpenClaim.holds_of_wide 11 Try.f11 rfl rfl rfl rfl rfl rfl rfl ⟨rfl, rfl, rfl, rfl, rfl⟩ rfl rfl rfl rfl rfl (by kernel_rfl) Try.func11 (by kernel_rfl)
    (of_decide_eq_true (by kernel_rfl)) (by unfold Func.isWrapper; first | (rw [if_pos (by decide +kernel)]; kernel_rfl) | (rw [if_neg (by decide +kernel)]; exact ⟨rfl, rfl⟩))
    (fun os started H enc _ => pulseFew_lifted os started H enc)

theorem pulseFew_proved : Rows.PulseFewSaid := pulseFew_over
#print axioms pulseFew_proved
end Go.Proofs.Ytagjonjobbckdaa
