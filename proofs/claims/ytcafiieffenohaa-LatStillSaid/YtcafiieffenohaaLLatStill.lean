/- LatStill returns true whatever its arguments, and its arguments read as before. No other condition. -/
import Derived.Test.YtcafiieffenohaaRows
import Derived.Test.YtcafiieffenohaaLatB
namespace Go.Proofs.Ytcafiieffenohaa
open Go.Ex Go.ChangeShapes Go.WideShapes Go.ChangeAt Go.RowKit

theorem latStill_lifted (os : Os) (started : os.Started) (H : Type) (enc : TypeId × Value → H) :
    ReturnsInHanded {} Try.checked os 9 .any (Rows.latStillSpec.pre6 enc Try.prog Try.f9 Rows.latStillRow.domain false) (Rows.latStillSpec.post enc Try.prog Try.f9 false true false false) := by
  refine law_holds (C := Try.checked) (us := [.slc false U16, .slc false I64]) (tb := 4) own started (by kernel_rfl) Try.func9
    (ChangeSpec.witness6 (enc := enc) (C := Try.checked) false ⟨#[], #[.slice none 0 0, .slice none 0 0], []⟩ 8 (by kernel_rfl) (by kernel_rfl) (by kernel_rfl) (by kernel_rfl))
    laid (by kernel_rfl) rfl ?_ rfl Try.underlying4 cLatStill_valid
  intro ds hds
  match ds, hds with
  | [_, _], _ => rfl

theorem latStill_over : Rows.latStillRow.holds Try.pinned (OpenSpec.ofChange Rows.latStillSpec) :=
  OpenClaim.holds_of_wide 9 Try.f9 rfl rfl rfl rfl rfl rfl rfl ⟨rfl, rfl, rfl, rfl, rfl⟩ rfl rfl rfl rfl rfl (by kernel_rfl) Try.func9 (by kernel_rfl)
    (of_decide_eq_true (by kernel_rfl)) (by unfold Func.isWrapper; first | (rw [if_pos (by decide +kernel)]; kernel_rfl) | (rw [if_neg (by decide +kernel)]; exact ⟨rfl, rfl⟩))
    (fun os started H enc _ => latStill_lifted os started H enc)

theorem latStill_proved : Rows.LatStillSaid := latStill_over
#print axioms latStill_proved
end Go.Proofs.Ytcafiieffenohaa
