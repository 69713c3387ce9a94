/- SynodKeeps returns true whatever its arguments, and its arguments read as before. No other condition. -/
import Derived.Test.YtegigiecamjobaaRows
import Derived.Test.YtegigiecamjobaaSynK
namespace Go.Proofs.Ytegigiecamjobaa
open Go.Ex Go.ChangeShapes Go.WideShapes Go.ChangeAt Go.RowKit

theorem synodKeeps_lifted (os : Os) (started : os.Started) (H : Type) (enc : TypeId × Value → H) :
    ReturnsInHanded {} Try.checked os 4 .any (Rows.synodKeepsSpec.pre6 enc Try.prog Try.f4 Rows.synodKeepsRow.domain false) (Rows.synodKeepsSpec.post enc Try.prog Try.f4 false true false false) := by
  refine law_holds (C := Try.checked) (us := [Synod, Act]) (tb := 4) own started (by kernel_rfl) Try.func4
    (ChangeSpec.witness6 (enc := enc) (C := Try.checked) false ⟨#[], #[.agg #[.slice none 0 0, .slice none 0 0], .agg #[.int .i64 0, .int .i64 0, .int .i64 0, .string ⟨#[]⟩]], []⟩ 8 (by kernel_rfl) (by kernel_rfl) (by kernel_rfl) (by kernel_rfl))
    laid (by kernel_rfl) rfl ?_ rfl Try.underlying4 cSynodKeeps_valid
  intro ds hds
  match ds, hds with
  | [_, _], _ => rfl

theorem synodKeeps_over : Rows.synodKeepsRow.holds Try.pinned (OpenSpec.ofChange Rows.synodKeepsSpec) :=
  OpenClaim.holds_of_wide 4 Try.f4 rfl rfl rfl rfl rfl rfl rfl ⟨rfl, rfl, rfl, rfl, rfl⟩ rfl rfl rfl rfl rfl (by kernel_rfl) Try.func4 (by kernel_rfl)
    (of_decide_eq_true (by kernel_rfl)) (by unfold Func.isWrapper; first | (rw [if_pos (by decide +kernel)]; kernel_rfl) | (rw [if_neg (by decide +kernel)]; exact ⟨rfl, rfl⟩))
    (fun os started H enc _ => synodKeeps_lifted os started H enc)

theorem synodKeeps_proved : Rows.SynodKeepsSaid := synodKeeps_over
#print axioms synodKeeps_proved
end Go.Proofs.Ytegigiecamjobaa
