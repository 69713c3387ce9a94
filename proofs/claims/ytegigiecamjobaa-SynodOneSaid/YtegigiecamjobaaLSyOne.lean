/- SynodOne returns true whatever its arguments, and its arguments read as before. No other condition. -/
import Derived.Test.YtegigiecamjobaaRows
import Derived.Test.YtegigiecamjobaaSynF
namespace Go.Proofs.Ytegigiecamjobaa
open Go.Ex Go.ChangeShapes Go.WideShapes Go.ChangeAt Go.RowKit

theorem synodOne_lifted (os : Os) (started : os.Started) (H : Type) (enc : TypeId × Value → H) :
    ReturnsInHanded {} Try.checked os 13 .any (Rows.synodOneSpec.pre6 enc Try.prog Try.f13 Rows.synodOneRow.domain false) (Rows.synodOneSpec.post enc Try.prog Try.f13 false true false false) := by
  refine law_holds (C := Try.checked) (us := [I64, .slc false Act]) (tb := 4) own started (by kernel_rfl) Try.func13
    (ChangeSpec.witness6 (enc := enc) (C := Try.checked) false ⟨#[], #[.int .i64 0, .slice none 0 0], []⟩ 8 (by kernel_rfl) (by kernel_rfl) (by kernel_rfl) (by kernel_rfl))
    laid (by kernel_rfl) rfl ?_ rfl Try.underlying4 cSynodOne_valid
  intro ds hds
  match ds, hds with
  | [_, _], _ => rfl

theorem synodOne_over : Rows.synodOneRow.holds Try.pinned (OpenSpec.ofChange Rows.synodOneSpec) :=
  OpenClaim.holds_of_wide 13 Try.f13 rfl rfl rfl rfl rfl rfl rfl ⟨rfl, rfl, rfl, rfl, rfl⟩ rfl rfl rfl rfl rfl (by kernel_rfl) Try.func13 (by kernel_rfl)
    (of_decide_eq_true (by kernel_rfl)) (by unfold Func.isWrapper; first | (rw [if_pos (by decide +kernel)]; kernel_rfl) | (rw [if_neg (by decide +kernel)]; exact ⟨rfl, rfl⟩))
    (fun os started H enc _ => synodOne_lifted os started H enc)

theorem synodOne_proved : Rows.SynodOneSaid := synodOne_over
#print axioms synodOne_proved
end Go.Proofs.Ytegigiecamjobaa
