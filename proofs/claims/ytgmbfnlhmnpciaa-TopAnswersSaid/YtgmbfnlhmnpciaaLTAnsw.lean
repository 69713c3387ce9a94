/- TopAnswers returns true whatever its arguments, and its arguments read as before. No other condition. -/
import Derived.Test.YtgmbfnlhmnpciaaRows
import Derived.Test.YtgmbfnlhmnpciaaTopA
namespace Go.Proofs.Ytgmbfnlhmnpciaa
open Go.Ex Go.ChangeShapes Go.WideShapes Go.ChangeAt Go.RowKit

theorem topAnswers_lifted (os : Os) (started : os.Started) (H : Type) (enc : TypeId × Value → H) :
    ReturnsInHanded {} Try.checked os 4 .any (Rows.topAnswersSpec.pre6 enc Try.prog Try.f4 Rows.topAnswersRow.domain false) (Rows.topAnswersSpec.post enc Try.prog Try.f4 false true false false) := by
  refine law_holds (C := Try.checked) (us := [.str, .slc false .str, I64]) (tb := 4) own started (by kernel_rfl) Try.func4
    (ChangeSpec.witness6 (enc := enc) (C := Try.checked) false ⟨#[], #[.string ⟨#[]⟩, .slice none 0 0, .int .i64 0], []⟩ 8 (by kernel_rfl) (by kernel_rfl) (by kernel_rfl) (by kernel_rfl))
    laid (by kernel_rfl) rfl ?_ rfl Try.underlying4 cTopAnswers_valid
  intro ds hds
  match ds, hds with
  | [_, _, _], _ => rfl

theorem topAnswers_over : Rows.topAnswersRow.holds Try.pinned (OpenSpec.ofChange Rows.topAnswersSpec) :=
  OpenClaim.holds_of_wide 4 Try.f4 rfl rfl rfl rfl rfl rfl rfl ⟨rfl, rfl, rfl, rfl, rfl⟩ rfl rfl rfl rfl rfl (by kernel_rfl) Try.func4 (by kernel_rfl)
    (of_decide_eq_true (by kernel_rfl)) (by unfold Func.isWrapper; first | (rw [if_pos (by decide +kernel)]; kernel_rfl) | (rw [if_neg (by decide +kernel)]; exact ⟨rfl, rfl⟩))
    (fun os started H enc _ => topAnswers_lifted os started H enc)

theorem topAnswers_proved : Rows.TopAnswersSaid := topAnswers_over
#print axioms topAnswers_proved
end Go.Proofs.Ytgmbfnlhmnpciaa
