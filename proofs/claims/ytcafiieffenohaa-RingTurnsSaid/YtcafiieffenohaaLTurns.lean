/- RingTurns returns true whatever its arguments, and its arguments read as before. No other condition. -/
import Derived.Test.YtcafiieffenohaaRows
import Derived.Test.YtcafiieffenohaaRingO
namespace Go.Proofs.Ytcafiieffenohaa
open Go.Ex Go.ChangeShapes Go.WideShapes Go.ChangeAt Go.RowKit

theorem ringTurns_lifted (os : Os) (started : os.Started) (H : Type) (enc : TypeId × Value → H) :
    ReturnsInHanded {} Try.checked os 15 .any (Rows.ringTurnsSpec.pre6 enc Try.prog Try.f15 Rows.ringTurnsRow.domain false) (Rows.ringTurnsSpec.post enc Try.prog Try.f15 false true false false) := by
  refine law_holds (C := Try.checked) (us := [.slc false I64, I64]) (tb := 4) own started (by kernel_rfl) Try.func15
    (ChangeSpec.witness6 (enc := enc) (C := Try.checked) false ⟨#[], #[.slice none 0 0, .int .i64 0], []⟩ 8 (by kernel_rfl) (by kernel_rfl) (by kernel_rfl) (by kernel_rfl))
    laid (by kernel_rfl) rfl ?_ rfl Try.underlying4 cRingTurns_valid
  intro ds hds
  match ds, hds with
  | [_, _], _ => rfl

theorem ringTurns_over : Rows.ringTurnsRow.holds Try.pinned (OpenSpec.ofChange Rows.ringTurnsSpec) :=
  OpenClaim.holds_of_wide 15 Try.f15 rfl rfl rfl rfl rfl rfl rfl ⟨rfl, rfl, rfl, rfl, rfl⟩ rfl rfl rfl rfl rfl (by kernel_rfl) Try.func15 (by kernel_rfl)
    (of_decide_eq_true (by kernel_rfl)) (by unfold Func.isWrapper; first | (rw [if_pos (by decide +kernel)]; kernel_rfl) | (rw [if_neg (by decide +kernel)]; exact ⟨rfl, rfl⟩))
    (fun os started H enc _ => ringTurns_lifted os started H enc)

theorem ringTurns_proved : Rows.RingTurnsSaid := ringTurns_over
#print axioms ringTurns_proved
end Go.Proofs.Ytcafiieffenohaa
