/- QuorumSelf returns true whatever its arguments, and its arguments read as before. No other condition. -/
import Derived.Test.YtdhdpklmipkneaaRows
import Derived.Test.YtdhdpklmipkneaaQL
namespace Go.Proofs.Ytdhdpklmipkneaa
open Go.Ex Go.ChangeShapes Go.WideShapes Go.ChangeAt Go.RowKit

theorem quorumSelf_lifted (os : Os) (started : os.Started) (H : Type) (enc : TypeId × Value → H) :
    ReturnsInHanded {} Try.checked os 6 .any (Rows.quorumSelfSpec.pre6 enc Try.prog Try.f6 Rows.quorumSelfRow.domain false) (Rows.quorumSelfSpec.post enc Try.prog Try.f6 false true false false) := by
  refine law_holds (C := Try.checked) (us := [I64, .slc false U16]) (tb := 4) own started (by kernel_rfl) Try.func6
    (ChangeSpec.witness6 (enc := enc) (C := Try.checked) false ⟨#[], #[.int .i64 0, .slice none 0 0], []⟩ 8 (by kernel_rfl) (by kernel_rfl) (by kernel_rfl) (by kernel_rfl))
    laid (by kernel_rfl) rfl ?_ rfl Try.underlying4 cQuorumSelf_valid
  intro ds hds
  match ds, hds with
  | [_, _], _ => rfl

theorem quorumSelf_over : Rows.quorumSelfRow.holds Try.pinned (OpenSpec.ofChange Rows.quorumSelfSpec) :=
  OpenClaim.holds_of_wide 6 Try.f6 rfl rfl rfl rfl rfl rfl rfl ⟨rfl, rfl, rfl, rfl, rfl⟩ rfl rfl rfl rfl rfl (by kernel_rfl) Try.func6 (by kernel_rfl)
    (of_decide_eq_true (by kernel_rfl)) (by unfold Func.isWrapper; first | (rw [if_pos (by decide +kernel)]; kernel_rfl) | (rw [if_neg (by decide +kernel)]; exact ⟨rfl, rfl⟩))
    (fun os started H enc _ => quorumSelf_lifted os started H enc)

theorem quorumSelf_proved : Rows.QuorumSelfSaid := quorumSelf_over
#print axioms quorumSelf_proved
end Go.Proofs.Ytdhdpklmipkneaa
