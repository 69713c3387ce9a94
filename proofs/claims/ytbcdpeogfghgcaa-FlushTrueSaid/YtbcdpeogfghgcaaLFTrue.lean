/- FlushTrue returns true whatever its arguments, and its arguments read as before. No other condition. -/
import Derived.Test.YtbcdpeogfghgcaaRows
import Derived.Test.YtbcdpeogfghgcaaFlushL
namespace Go.Proofs.Ytbcdpeogfghgcaa
open Go.Ex Go.ChangeShapes Go.WideShapes Go.ChangeAt Go.RowKit

theorem flushTrue_lifted (os : Os) (started : os.Started) (H : Type) (enc : TypeId × Value → H) :
    ReturnsInHanded {} Try.checked os 3 .any (Rows.flushTrueSpec.pre6 enc Try.prog Try.f3 Rows.flushTrueRow.domain false) (Rows.flushTrueSpec.post enc Try.prog Try.f3 false true false false) := by
  refine law_holds (C := Try.checked) (us := [Flush, U8]) (tb := 4) own started (by kernel_rfl) Try.func3
    (ChangeSpec.witness6 (enc := enc) (C := Try.checked) false ⟨#[], #[.agg #[.int .i64 0, .int .u8 0, .int .u8 0, .slice none 0 0, .slice none 0 0, .slice none 0 0, .slice none 0 0, .slice none 0 0, .slice none 0 0], .int .u8 0], []⟩ 8 (by kernel_rfl) (by kernel_rfl) (by kernel_rfl) (by kernel_rfl))
    laid (by kernel_rfl) rfl ?_ rfl Try.underlying4 cFlushTrue_valid
  intro ds hds
  match ds, hds with
  | [_, _], _ => rfl

theorem flushTrue_over : Rows.flushTrueRow.holds Try.pinned (OpenSpec.ofChange Rows.flushTrueSpec) :=
  OpenClaim.holds_of_wide 3 Try.f3 rfl rfl rfl rfl rfl rfl rfl ⟨rfl, rfl, rfl, rfl, rfl⟩ rfl rfl rfl rfl rfl (by kernel_rfl) Try.func3 (by kernel_rfl)
    (of_decide_eq_true (by kernel_rfl)) (by unfold Func.isWrapper; first | (rw [if_pos (by decide +kernel)]; kernel_rfl) | (rw [if_neg (by decide +kernel)]; exact ⟨rfl, rfl⟩))
    (fun os started H enc _ => flushTrue_lifted os started H enc)

theorem flushTrue_proved : Rows.FlushTrueSaid := flushTrue_over
#print axioms flushTrue_proved
end Go.Proofs.Ytbcdpeogfghgcaa
