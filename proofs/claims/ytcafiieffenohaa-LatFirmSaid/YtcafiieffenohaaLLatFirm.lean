/- LatFirm returns true whatever its arguments, and its arguments read as before. No other condition. -/
import Derived.Test.YtcafiieffenohaaRows
import Derived.Test.YtcafiieffenohaaLatB
namespace Go.Proofs.Ytcafiieffenohaa
open Go.Ex Go.ChangeShapes Go.WideShapes Go.ChangeAt Go.RowKit

theorem latFirm_lifted (os : Os) (started : os.Started) (H : Type) (enc : TypeId × Value → H) :
    ReturnsInHanded {} Try.checked os 5 .any (Rows.latFirmSpec.pre6 enc Try.prog Try.f5 Rows.latFirmRow.domain false) (Rows.latFirmSpec.post enc Try.prog Try.f5 false true false false) := by
  refine law_holds (C := Try.checked) (us := [.slc false U16]) (tb := 4) own started (by kernel_rfl) Try.func5
    (ChangeSpec.witness6 (enc := enc) (C := Try.checked) false ⟨#[], #[.slice none 0 0], []⟩ 8 (by kernel_rfl) (by kernel_rfl) (by kernel_rfl) (by kernel_rfl))
    laid (by kernel_rfl) rfl ?_ rfl Try.underlying4 cLatFirm_valid
  intro ds hds
  match ds, hds with
  | [_], _ => rfl

theorem latFirm_over : Rows.latFirmRow.holds Try.pinned (OpenSpec.ofChange Rows.latFirmSpec) :=
  OpenClaim.holds_of_wide 5 Try.f5 rfl rfl rfl rfl rfl rfl rfl ⟨rfl, rfl, rfl, rfl, rfl⟩ rfl rfl rfl rfl rfl (by kernel_rfl) Try.func5 (by kernel_rfl)
    (of_decide_eq_true (by kernel_rfl)) (by unfold Func.isWrapper; first | (rw [if_pos (by decide +kernel)]; kernel_rfl) | (rw [if_neg (by decide +kernel)]; exact ⟨rfl, rfl⟩))
    (fun os started H enc _ => latFirm_lifted os started H enc)

theorem latFirm_proved : Rows.LatFirmSaid := latFirm_over
#print axioms latFirm_proved
end Go.Proofs.Ytcafiieffenohaa
