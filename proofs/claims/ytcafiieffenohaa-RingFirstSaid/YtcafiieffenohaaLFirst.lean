/- RingFirst returns true whatever its arguments, and its arguments read as before. No other condition. -/
import Derived.Test.YtcafiieffenohaaRows
import Derived.Test.YtcafiieffenohaaRingL
namespace Go.Proofs.Ytcafiieffenohaa
open Go.Ex Go.ChangeShapes Go.WideShapes Go.ChangeAt Go.RowKit

theorem ringFirst_lifted (os : Os) (started : os.Started) (H : Type) (enc : TypeId × Value → H) :
    ReturnsInHanded {} Try.checked os 12 .any (Rows.ringFirstSpec.pre6 enc Try.prog Try.f12 Rows.ringFirstRow.domain false) (Rows.ringFirstSpec.post enc Try.prog Try.f12 false true false false) := by
  refine law_holds (C := Try.checked) (us := [.slc false I64]) (tb := 4) own started (by kernel_rfl) Try.func12
    (ChangeSpec.witness6 (enc := enc) (C := Try.checked) false ⟨#[], #[.slice none 0 0], []⟩ 8 (by kernel_rfl) (by kernel_rfl) (by kernel_rfl) (by kernel_rfl))
    laid (by kernel_rfl) rfl ?_ rfl Try.underlying4 cRingFirst_valid
  intro ds hds
  match ds, hds with
  | [_], _ => rfl

theorem ringFirst_over : Rows.ringFirstRow.holds Try.pinned (OpenSpec.ofChange Rows.ringFirstSpec) :=
  OpenClaim.holds_of_wide 12 Try.f12 rfl rfl rfl rfl rfl rfl rfl ⟨rfl, rfl, rfl, rfl, rfl⟩ rfl rfl rfl rfl rfl (by kernel_rfl) Try.func12 (by kernel_rfl)
    (of_decide_eq_true (by kernel_rfl)) (by unfold Func.isWrapper; first | (rw [if_pos (by decide +kernel)]; kernel_rfl) | (rw [if_neg (by decide +kernel)]; exact ⟨rfl, rfl⟩))
    (fun os started H enc _ => ringFirst_lifted os started H enc)

theorem ringFirst_proved : Rows.RingFirstSaid := ringFirst_over
#print axioms ringFirst_proved
end Go.Proofs.Ytcafiieffenohaa
