/- WireFew returns true whatever its arguments, and its arguments read as before. No other condition. -/
import Derived.Test.YtcafiieffenohaaRows
import Derived.Test.YtcafiieffenohaaWireB
namespace Go.Proofs.Ytcafiieffenohaa
open Go.Ex Go.ChangeShapes Go.WideShapes Go.ChangeAt Go.RowKit

theorem wireFew_lifted (os : Os) (started : os.Started) (H : Type) (enc : TypeId × Value → H) :
    ReturnsInHanded {} Try.checked os 8 .any (Rows.wireFewSpec.pre6 enc Try.prog Try.f8 Rows.wireFewRow.domain false) (Rows.wireFewSpec.post enc Try.prog Try.f8 false true false false) := by
  refine law_holds (C := Try.checked) (us := [Note, .slc false I64]) (tb := 4) own started (by kernel_rfl) Try.func8
    (ChangeSpec.witness6 (enc := enc) (C := Try.checked) false ⟨#[], #[.agg #[.int .i64 0, .int .i64 0, .int .i64 0, .int .i64 0, .int .i64 0, .int .i64 0, .int .i64 0, .int .i64 0, .int .i64 0, .int .i64 0, .int .i64 0, .string ⟨#[]⟩], .slice none 0 0], []⟩ 8 (by kernel_rfl) (by kernel_rfl) (by kernel_rfl) (by kernel_rfl))
    laid (by kernel_rfl) rfl ?_ rfl Try.underlying4 cWireFew_valid
  intro ds hds
  match ds, hds with
  | [_, _], _ => rfl

theorem wireFew_over : Rows.wireFewRow.holds Try.pinned (OpenSpec.ofChange Rows.wireFewSpec) :=
  OpenClaim.holds_of_wide 8 Try.f8 rfl rfl rfl rfl rfl rfl rfl ⟨rfl, rfl, rfl, rfl, rfl⟩ rfl rfl rfl rfl rfl (by kernel_rfl) Try.func8 (by kernel_rfl)
    (of_decide_eq_true (by kernel_rfl)) (by unfold Func.isWrapper; first | (rw [if_pos (by decide +kernel)]; kernel_rfl) | (rw [if_neg (by decide +kernel)]; exact ⟨rfl, rfl⟩))
    (fun os started H enc _ => wireFew_lifted os started H enc)

theorem wireFew_proved : Rows.WireFewSaid := wireFew_over
#print axioms wireFew_proved
end Go.Proofs.Ytcafiieffenohaa
