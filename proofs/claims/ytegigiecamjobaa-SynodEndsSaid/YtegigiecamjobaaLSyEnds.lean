/- SynodEnds returns true whatever its arguments, and its arguments read as before. No other condition. -/
import Derived.Test.YtegigiecamjobaaRows
import Derived.Test.YtegigiecamjobaaSynI
namespace Go.Proofs.Ytegigiecamjobaa
open Go.Ex Go.ChangeShapes Go.WideShapes Go.ChangeAt Go.RowKit

theorem synodEnds_lifted (os : Os) (started : os.Started) (H : Type) (enc : TypeId × Value → H) :
    ReturnsInHanded {} Try.checked os 16 .any (Rows.synodEndsSpec.pre6 enc Try.prog Try.f16 Rows.synodEndsRow.domain false) (Rows.synodEndsSpec.post enc Try.prog Try.f16 false true false false) := by
  refine law_holds (C := Try.checked) (us := [I64, .slc false Act, .str]) (tb := 4) own started (by kernel_rfl) Try.func16
    (ChangeSpec.witness6 (enc := enc) (C := Try.checked) false ⟨#[], #[.int .i64 0, .slice none 0 0, .string ⟨#[]⟩], []⟩ 8 (by kernel_rfl) (by kernel_rfl) (by kernel_rfl) (by kernel_rfl))
    laid (by kernel_rfl) rfl ?_ rfl Try.underlying4 cSynodEnds_valid
  intro ds hds
  match ds, hds with
  | [_, _, _], _ => rfl

theorem synodEnds_over : Rows.synodEndsRow.holds Try.pinned (OpenSpec.ofChange Rows.synodEndsSpec) :=
  OpenClaim.holds_of_wide 16 Try.f16 rfl rfl rfl rfl rfl rfl rfl ⟨rfl, rfl, rfl, rfl, rfl⟩ rfl rfl rfl rfl rfl (by kernel_rfl) Try.func16 (by kernel_rfl)
    (of_decide_eq_true (by kernel_rfl)) (by unfold Func.isWrapper; first | (rw [if_pos (by decide +kernel)]; kernel_rfl) | (rw [if_neg (by decide +kernel)]; exact ⟨rfl, rfl⟩))
    (fun os started H enc _ => synodEnds_lifted os started H enc)

theorem synodEnds_proved : Rows.SynodEndsSaid := synodEnds_over
#print axioms synodEnds_proved
end Go.Proofs.Ytegigiecamjobaa
