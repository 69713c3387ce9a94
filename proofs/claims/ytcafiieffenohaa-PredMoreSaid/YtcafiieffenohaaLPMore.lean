/- PredMore returns true whatever its arguments, and its arguments read as before. No other condition. -/
import Derived.Test.YtcafiieffenohaaRows
import Derived.Test.YtcafiieffenohaaPMore
namespace Go.Proofs.Ytcafiieffenohaa
open Go.Ex Go.ChangeShapes Go.WideShapes Go.ChangeAt Go.RowKit

theorem predMore_lifted (os : Os) (started : os.Started) (H : Type) (enc : TypeId × Value → H) :
    ReturnsInHanded {} Try.checked os 18 .any (Rows.predMoreSpec.pre6 enc Try.prog Try.f18 Rows.predMoreRow.domain false) (Rows.predMoreSpec.post enc Try.prog Try.f18 false true false false) := by
  refine law_holds (C := Try.checked) (us := [Es, .arr 6 (.int .u64), .arr 6 (.int .u64)]) (tb := 4) own started (by kernel_rfl) Try.func18
    (ChangeSpec.witness6 (enc := enc) (C := Try.checked) false ⟨#[], #[.slice none 0 0, .agg #[.int .u64 0, .int .u64 0, .int .u64 0, .int .u64 0, .int .u64 0, .int .u64 0], .agg #[.int .u64 0, .int .u64 0, .int .u64 0, .int .u64 0, .int .u64 0, .int .u64 0]], []⟩ 8 (by kernel_rfl) (by kernel_rfl) (by kernel_rfl) (by kernel_rfl))
    laid (by kernel_rfl) rfl ?_ rfl Try.underlying4 cPredMore_valid
  intro ds hds
  match ds, hds with
  | [_, _, _], _ => rfl

theorem predMore_over : Rows.predMoreRow.holds Try.pinned (OpenSpec.ofChange Rows.predMoreSpec) :=
  OpenClaim.holds_of_wide 18 Try.f18 rfl rfl rfl rfl rfl rfl rfl ⟨rfl, rfl, rfl, rfl, rfl⟩ rfl rfl rfl rfl rfl (by kernel_rfl) Try.func18 (by kernel_rfl)
    (of_decide_eq_true (by kernel_rfl)) (by unfold Func.isWrapper; first | (rw [if_pos (by decide +kernel)]; kernel_rfl) | (rw [if_neg (by decide +kernel)]; exact ⟨rfl, rfl⟩))
    (fun os started H enc _ => predMore_lifted os started H enc)

theorem predMore_proved : Rows.PredMoreSaid := predMore_over
#print axioms predMore_proved
end Go.Proofs.Ytcafiieffenohaa
