/- PredBoth returns true whatever its arguments, and its arguments read as before. No other condition. -/
import Derived.Test.YtcafiieffenohaaRows
import Derived.Test.YtcafiieffenohaaPBoth
namespace Go.Proofs.Ytcafiieffenohaa
open Go.Ex Go.ChangeShapes Go.WideShapes Go.ChangeAt Go.RowKit

theorem predBoth_lifted (os : Os) (started : os.Started) (H : Type) (enc : TypeId × Value → H) :
    ReturnsInHanded {} Try.checked os 17 .any (Rows.predBothSpec.pre6 enc Try.prog Try.f17 Rows.predBothRow.domain false) (Rows.predBothSpec.post enc Try.prog Try.f17 false true false false) := by
  refine law_holds (C := Try.checked) (us := [Es, .arr 6 (.int .u64)]) (tb := 4) own started (by kernel_rfl) Try.func17
    (ChangeSpec.witness6 (enc := enc) (C := Try.checked) false ⟨#[], #[.slice none 0 0, .agg #[.int .u64 0, .int .u64 0, .int .u64 0, .int .u64 0, .int .u64 0, .int .u64 0]], []⟩ 8 (by kernel_rfl) (by kernel_rfl) (by kernel_rfl) (by kernel_rfl))
    laid (by kernel_rfl) rfl ?_ rfl Try.underlying4 cPredBoth_valid
  intro ds hds
  match ds, hds with
  | [_, _], _ => rfl

theorem predBoth_over : Rows.predBothRow.holds Try.pinned (OpenSpec.ofChange Rows.predBothSpec) :=
  OpenClaim.holds_of_wide 17 Try.f17 rfl rfl rfl rfl rfl rfl rfl ⟨rfl, rfl, rfl, rfl, rfl⟩ rfl rfl rfl rfl rfl (by kernel_rfl) Try.func17 (by kernel_rfl)
    (of_decide_eq_true (by kernel_rfl)) (by unfold Func.isWrapper; first | (rw [if_pos (by decide +kernel)]; kernel_rfl) | (rw [if_neg (by decide +kernel)]; exact ⟨rfl, rfl⟩))
    (fun os started H enc _ => predBoth_lifted os started H enc)

theorem predBoth_proved : Rows.PredBothSaid := predBoth_over
#print axioms predBoth_proved
end Go.Proofs.Ytcafiieffenohaa
