/- PulseDead returns true whatever its arguments, and its arguments read as before. No condition. -/
import Derived.Test.YtagjonjobbckdaaRows
import Derived.Test.YtagjonjobbckdaaPDead
namespace Go.Proofs.Ytagjonjobbckdaa
open Go.Ex Go.ChangeShapes Go.WideShapes Go.ChangeAt Go.RowKit

theorem pulseDead_lifted (os : Os) (started : os.Started) (H : Type) (enc : TypeId × Value → H) :
    ReturnsInHanded {} Try.checked os 10 .any (Rows.pulseDeadSpec.pre6 enc Try.prog Try.f10 Rows.pulseDeadRow.domain false) (Rows.pulseDeadSpec.post enc Try.prog Try.f10 false true false false) := by
  refine law_holds (C := Try.checked) (us := [Pulse, I64, I64]) (tb := 4) own started (by kernel_rfl) Try.func10
    (ChangeSpec.witness6 (enc := enc) (C := Try.checked) false ⟨#[], #[.agg #[.int .i64 0, .int .i64 0, .int .i64 0, .int .i64 0, .int .i64 0, .int .i64 0, .int .i64 0, .int .i64 0, .int .i64 0, .int .i64 0, .int .i64 0, .int .i64 0, .int .i64 0, .int .i64 0, .bool false, .bool false, .bool false, .bool false, .bool false, .bool false], .int .i64 0, .int .i64 0], []⟩ 8 (by kernel_rfl) (by kernel_rfl) (by kernel_rfl) (by kernel_rfl))
    laid (by kernel_rfl) rfl ?_ rfl Try.underlying4 c10_valid
  intro ds hds
  match ds, hds with
  | [_, _, _], _ => rfl

theorem pulseDead_over : Rows.pulseDeadRow.holds Try.pinned (OpenSpec.ofChange Rows.pulseDeadSpec) :=
  OpenClaim.holds_of_wide 10 Try.f10 rfl rfl rfl rfl rfl rfl rfl ⟨rfl, rfl, rfl, rfl, rfl⟩ rfl rfl rfl rfl rfl (by kernel_rfl) Try.func10 (by kernel_rfl)
    (of_decide_eq_true (by kernel_rfl)) (by unfold Func.isWrapper; first | (rw [if_pos (by decide +kernel)]; kernel_rfl) | (rw [if_neg (by decide +kernel)]; exact ⟨rfl, rfl⟩))
    (fun os started H enc _ => pulseDead_lifted os started H enc)

theorem pulseDead_proved : Rows.PulseDeadSaid := pulseDead_over
#print axioms pulseDead_proved
end Go.Proofs.Ytagjonjobbckdaa
