/- LatLaws returns true whatever its arguments, and its arguments read as before. No other condition. -/
import Derived.Test.YtcafiieffenohaaRows
import Derived.Test.YtcafiieffenohaaLatB
namespace Go.Proofs.Ytcafiieffenohaa
open Go.Ex Go.ChangeShapes Go.WideShapes Go.ChangeAt Go.RowKit

theorem latLaws_lifted (os : Os) (started : os.Started) (H : Type) (enc : TypeId × Value → H) :
    ReturnsInHanded {} Try.checked os 4 .any (Rows.latLawsSpec.pre6 enc Try.prog Try.f4 Rows.latLawsRow.domain false) (Rows.latLawsSpec.post enc Try.prog Try.f4 false true false false) := by
  refine law_holds (C := Try.checked) (us := [.slc false U16, I64, I64, I64]) (tb := 4) own started (by kernel_rfl) Try.func4
    (ChangeSpec.witness6 (enc := enc) (C := Try.checked) false ⟨#[], #[.slice none 0 0, .int .i64 0, .int .i64 0, .int .i64 0], []⟩ 8 (by kernel_rfl) (by kernel_rfl) (by kernel_rfl) (by kernel_rfl))
    laid (by kernel_rfl) rfl ?_ rfl Try.underlying4 cLatLaws_valid
  intro ds hds
  match ds, hds with
  | [_, _, _, _], _ => rfl

theorem latLaws_over : Rows.latLawsRow.holds Try.pinned (OpenSpec.ofChange Rows.latLawsSpec) :=
  OpenClaim.holds_of_wide 4 Try.f4 rfl rfl rfl rfl rfl rfl rfl ⟨rfl, rfl, rfl, rfl, rfl⟩ rfl rfl rfl rfl rfl (by kernel_rfl) Try.func4 (by kernel_rfl)
    (of_decide_eq_true (by kernel_rfl)) (by unfold Func.isWrapper; first | (rw [if_pos (by decide +kernel)]; kernel_rfl) | (rw [if_neg (by decide +kernel)]; exact ⟨rfl, rfl⟩))
    (fun os started H enc _ => latLaws_lifted os started H enc)

theorem latLaws_proved : Rows.LatLawsSaid := latLaws_over
#print axioms latLaws_proved
end Go.Proofs.Ytcafiieffenohaa
