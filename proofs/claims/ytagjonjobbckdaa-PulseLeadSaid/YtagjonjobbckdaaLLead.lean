/- PulseLead returns true whatever its arguments, and its arguments read as before. No condition. -/
import Derived.Test.YtagjonjobbckdaaRows
import Derived.Test.YtagjonjobbckdaaPLead
namespace Go.Proofs.Ytagjonjobbckdaa
open Go.Ex Go.ChangeShapes Go.WideShapes Go.ChangeAt Go.RowKit

theorem pulseLead_lifted (os : Os) (started : os.Started) (H : Type) (enc : TypeId × Value → H) :
    ReturnsInHanded {} Try.checked os 6 .any (Rows.pulseLeadSpec.pre6 enc Try.prog Try.f6 Rows.pulseLeadRow.domain false) (Rows.pulseLeadSpec.post enc Try.prog Try.f6 false true false false) := by
  refine law_holds (C := Try.checked) (us := [Pulse, Pulse]) (tb := 4) own started (by kernel_rfl) Try.func6
    (ChangeSpec.witness6 (enc := enc) (C := Try.checked) false ⟨#[], #[.agg #[.int .i64 0, .int .i64 0, .int .i64 0, .int .i64 0, .int .i64 0, .int .i64 0, .int .i64 0, .int .i64 0, .int .i64 0, .int .i64 0, .int .i64 0, .int .i64 0, .int .i64 0, .int .i64 0, .bool false, .bool false, .bool false, .bool false, .bool false, .bool false], .agg #[.int .i64 0, .int .i64 0, .int .i64 0, .int .i64 0, .int .i64 0, .int .i64 0, .int .i64 0, .int .i64 0, .int .i64 0, .int .i64 0, .int .i64 0, .int .i64 0, .int .i64 0, .int .i64 0, .bool false, .bool false, .bool false, .bool false, .bool false, .bool false]], []⟩ 8 (by kernel_rfl) (by kernel_rfl) (by kernel_rfl) (by kernel_rfl))
    laid (by kernel_rfl) rfl ?_ rfl Try.underlying4 c6_valid
  intro ds hds
  match ds, hds with
  | [_, _], _ => rfl

theorem pulseLead_over : Rows.pulseLeadRow.holds Try.pinned (OpenSpec.ofChange Rows.pulseLeadSpec) :=
  OpenClaim.holds_of_wide 6 Try.f6 rfl rfl rfl rfl rfl rfl rfl ⟨rfl, rfl, rfl, rfl, rfl⟩ rfl rfl rfl rfl rfl (by kernel_rfl) Try.func6 (by kernel_rfl)
    (of_decide_eq_true (by kernel_rfl)) (by unfold Func.isWrapper; first | (rw [if_pos (by decide +kernel)]; kernel_rfl) | (rw [if_neg (by decide +kernel)]; exact ⟨rfl, rfl⟩))
    (fun os started H enc _ => pulseLead_lifted os started H enc)

theorem pulseLead_proved : Rows.PulseLeadSaid := pulseLead_over
#print axioms pulseLead_proved
end Go.Proofs.Ytagjonjobbckdaa
