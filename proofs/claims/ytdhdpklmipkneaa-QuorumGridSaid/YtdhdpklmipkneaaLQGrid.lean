/- QuorumGrid returns true whatever its arguments, and its arguments read as before. No other condition. -/
import Derived.Test.YtdhdpklmipkneaaRows
import Derived.Test.YtdhdpklmipkneaaQL
namespace Go.Proofs.Ytdhdpklmipkneaa
open Go.Ex Go.ChangeShapes Go.WideShapes Go.ChangeAt Go.RowKit

theorem quorumGrid_lifted (os : Os) (started : os.Started) (H : Type) (enc : TypeId × Value → H) :
    ReturnsInHanded {} Try.checked os 9 .any (Rows.quorumGridSpec.pre6 enc Try.prog Try.f9 Rows.quorumGridRow.domain false) (Rows.quorumGridSpec.post enc Try.prog Try.f9 false true false false) := by
  refine law_holds (C := Try.checked) (us := [I64, I64]) (tb := 4) own started (by kernel_rfl) Try.func9
    (ChangeSpec.witness6 (enc := enc) (C := Try.checked) false ⟨#[], #[.int .i64 0, .int .i64 0], []⟩ 8 (by kernel_rfl) (by kernel_rfl) (by kernel_rfl) (by kernel_rfl))
    laid (by kernel_rfl) rfl ?_ rfl Try.underlying4 cQuorumGrid_valid
  intro ds hds
  match ds, hds with
  | [_, _], _ => rfl

theorem quorumGrid_over : Rows.quorumGridRow.holds Try.pinned (OpenSpec.ofChange Rows.quorumGridSpec) :=
  OpenClaim.holds_of_wide 9 Try.f9 rfl rfl rfl rfl rfl rfl rfl ⟨rfl, rfl, rfl, rfl, rfl⟩ rfl rfl rfl rfl rfl (by kernel_rfl) Try.func9 (by kernel_rfl)
    (of_decide_eq_true (by kernel_rfl)) (by unfold Func.isWrapper; first | (rw [if_pos (by decide +kernel)]; kernel_rfl) | (rw [if_neg (by decide +kernel)]; exact ⟨rfl, rfl⟩))
    (fun os started H enc _ => quorumGrid_lifted os started H enc)

theorem quorumGrid_proved : Rows.QuorumGridSaid := quorumGrid_over
#print axioms quorumGrid_proved
end Go.Proofs.Ytdhdpklmipkneaa
