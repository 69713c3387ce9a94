/- QuorumDual returns true whatever its arguments, and its arguments read as before. No other condition. -/
import Derived.Test.YtdhdpklmipkneaaRows
import Derived.Test.YtdhdpklmipkneaaQL
namespace Go.Proofs.Ytdhdpklmipkneaa
open Go.Ex Go.ChangeShapes Go.WideShapes Go.ChangeAt Go.RowKit

theorem quorumDual_lifted (os : Os) (started : os.Started) (H : Type) (enc : TypeId × Value → H) :
    ReturnsInHanded {} Try.checked os 5 .any (Rows.quorumDualSpec.pre6 enc Try.prog Try.f5 Rows.quorumDualRow.domain false) (Rows.quorumDualSpec.post enc Try.prog Try.f5 false true false false) := by
  refine law_holds (C := Try.checked) (us := [I64, .slc false U16, U16]) (tb := 4) own started (by kernel_rfl) Try.func5
    (ChangeSpec.witness6 (enc := enc) (C := Try.checked) false ⟨#[], #[.int .i64 0, .slice none 0 0, .int .u16 0], []⟩ 8 (by kernel_rfl) (by kernel_rfl) (by kernel_rfl) (by kernel_rfl))
    laid (by kernel_rfl) rfl ?_ rfl Try.underlying4 cQuorumDual_valid
  intro ds hds
  match ds, hds with
  | [_, _, _], _ => rfl

theorem quorumDual_over : Rows.quorumDualRow.holds Try.pinned (OpenSpec.ofChange Rows.quorumDualSpec) :=
  OpenClaim.holds_of_wide 5 Try.f5 rfl rfl rfl rfl rfl rfl rfl ⟨rfl, rfl, rfl, rfl, rfl⟩ rfl rfl rfl rfl rfl (by kernel_rfl) Try.func5 (by kernel_rfl)
    (of_decide_eq_true (by kernel_rfl)) (by unfold Func.isWrapper; first | (rw [if_pos (by decide +kernel)]; kernel_rfl) | (rw [if_neg (by decide +kernel)]; exact ⟨rfl, rfl⟩))
    (fun os started H enc _ => quorumDual_lifted os started H enc)

theorem quorumDual_proved : Rows.QuorumDualSaid := quorumDual_over
#print axioms quorumDual_proved
end Go.Proofs.Ytdhdpklmipkneaa
