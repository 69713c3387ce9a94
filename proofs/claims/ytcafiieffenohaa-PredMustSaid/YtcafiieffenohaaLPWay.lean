/- PredMust returns true whatever its arguments, and its arguments read as before. No other condition. -/
import Derived.Test.YtcafiieffenohaaRows
import Derived.Test.YtcafiieffenohaaPWay
namespace Go.Proofs.Ytcafiieffenohaa
open Go.Ex Go.ChangeShapes Go.WideShapes Go.ChangeAt Go.RowKit

theorem predMust_lifted (os : Os) (started : os.Started) (H : Type) (enc : TypeId × Value → H) :
    ReturnsInHanded {} Try.checked os 16 .any (Rows.predMustSpec.pre6 enc Try.prog Try.f16 Rows.predMustRow.domain false) (Rows.predMustSpec.post enc Try.prog Try.f16 false true false false) := by
  refine law_holds (C := Try.checked) (us := [Es, .arr 6 (.int .u64), .slc false I64]) (tb := 4) own started (by kernel_rfl) Try.func16
    (ChangeSpec.witness6 (enc := enc) (C := Try.checked) false ⟨#[], #[.slice none 0 0, .agg #[.int .u64 0, .int .u64 0, .int .u64 0, .int .u64 0, .int .u64 0, .int .u64 0], .slice none 0 0], []⟩ 8 (by kernel_rfl) (by kernel_rfl) (by kernel_rfl) (by kernel_rfl))
    laid (by kernel_rfl) rfl ?_ rfl Try.underlying4 cPredMust_valid
  intro ds hds
  match ds, hds with
  | [_, _, _], _ => rfl

theorem predMust_over : Rows.predMustRow.holds Try.pinned (OpenSpec.ofChange Rows.predMustSpec) :=
  OpenClaim.holds_of_wide 16 Try.f16 rfl rfl rfl rfl rfl rfl rfl ⟨rfl, rfl, rfl, rfl, rfl⟩ rfl rfl rfl rfl rfl (by kernel_rfl) Try.func16 (by kernel_rfl)
    (of_decide_eq_true (by kernel_rfl)) (by unfold Func.isWrapper; first | (rw [if_pos (by decide +kernel)]; kernel_rfl) | (rw [if_neg (by decide +kernel)]; exact ⟨rfl, rfl⟩))
    (fun os started H enc _ => predMust_lifted os started H enc)

theorem predMust_proved : Rows.PredMustSaid := predMust_over
#print axioms predMust_proved
end Go.Proofs.Ytcafiieffenohaa
