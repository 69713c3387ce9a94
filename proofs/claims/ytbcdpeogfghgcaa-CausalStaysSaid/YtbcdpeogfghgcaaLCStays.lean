/- CausalStays returns true whatever its arguments, and its arguments read as before. No other condition. -/
import Derived.Test.YtbcdpeogfghgcaaRows
import Derived.Test.YtbcdpeogfghgcaaCausalL
namespace Go.Proofs.Ytbcdpeogfghgcaa
open Go.Ex Go.ChangeShapes Go.WideShapes Go.ChangeAt Go.RowKit

theorem causalStays_lifted (os : Os) (started : os.Started) (H : Type) (enc : TypeId × Value → H) :
    ReturnsInHanded {} Try.checked os 5 .any (Rows.causalStaysSpec.pre6 enc Try.prog Try.f5 Rows.causalStaysRow.domain false) (Rows.causalStaysSpec.post enc Try.prog Try.f5 false true false false) := by
  refine law_holds (C := Try.checked) (us := [Causal, Mail]) (tb := 4) own started (by kernel_rfl) Try.func5
    (ChangeSpec.witness6 (enc := enc) (C := Try.checked) false ⟨#[], #[.agg #[.int .i64 0, .int .i64 0, .int .i64 0, .int .i64 0, .int .i64 0, .int .i64 0, .int .i64 0, .slice none 0 0], .agg #[.int .i64 0, .int .i64 0, .int .i64 0, .int .i64 0, .int .i64 0, .int .i64 0, .int .i64 0, .string ⟨#[]⟩]], []⟩ 8 (by kernel_rfl) (by kernel_rfl) (by kernel_rfl) (by kernel_rfl))
    laid (by kernel_rfl) rfl ?_ rfl Try.underlying4 cCausalStays_valid
  intro ds hds
  match ds, hds with
  | [_, _], _ => rfl

theorem causalStays_over : Rows.causalStaysRow.holds Try.pinned (OpenSpec.ofChange Rows.causalStaysSpec) :=
  OpenClaim.holds_of_wide 5 Try.f5 rfl rfl rfl rfl rfl rfl rfl ⟨rfl, rfl, rfl, rfl, rfl⟩ rfl rfl rfl rfl rfl (by kernel_rfl) Try.func5 (by kernel_rfl)
    (of_decide_eq_true (by kernel_rfl)) (by unfold Func.isWrapper; first | (rw [if_pos (by decide +kernel)]; kernel_rfl) | (rw [if_neg (by decide +kernel)]; exact ⟨rfl, rfl⟩))
    (fun os started H enc _ => causalStays_lifted os started H enc)

theorem causalStays_proved : Rows.CausalStaysSaid := causalStays_over
#print axioms causalStays_proved
end Go.Proofs.Ytbcdpeogfghgcaa
