/- QuorumVotes returns true whatever its arguments, and its arguments read as before. No other condition. -/
import Derived.Test.YtdhdpklmipkneaaRows
import Derived.Test.YtdhdpklmipkneaaQL
namespace Go.Proofs.Ytdhdpklmipkneaa
open Go.Ex Go.ChangeShapes Go.WideShapes Go.ChangeAt Go.RowKit

theorem quorumVotes_lifted (os : Os) (started : os.Started) (H : Type) (enc : TypeId × Value → H) :
    ReturnsInHanded {} Try.checked os 8 .any (Rows.quorumVotesSpec.pre6 enc Try.prog Try.f8 Rows.quorumVotesRow.domain false) (Rows.quorumVotesSpec.post enc Try.prog Try.f8 false true false false) := by
  refine law_holds (C := Try.checked) (us := [.slc false I64, I64, U16]) (tb := 4) own started (by kernel_rfl) Try.func8
    (ChangeSpec.witness6 (enc := enc) (C := Try.checked) false ⟨#[], #[.slice none 0 0, .int .i64 0, .int .u16 0], []⟩ 8 (by kernel_rfl) (by kernel_rfl) (by kernel_rfl) (by kernel_rfl))
    laid (by kernel_rfl) rfl ?_ rfl Try.underlying4 cQuorumVotes_valid
  intro ds hds
  match ds, hds with
  | [_, _, _], _ => rfl

theorem quorumVotes_over : Rows.quorumVotesRow.holds Try.pinned (OpenSpec.ofChange Rows.quorumVotesSpec) :=
  OpenClaim.holds_of_wide 8 Try.f8 rfl rfl rfl rfl rfl rfl rfl ⟨rfl, rfl, rfl, rfl, rfl⟩ rfl rfl rfl rfl rfl (by kernel_rfl) Try.func8 (by kernel_rfl)
    (of_decide_eq_true (by kernel_rfl)) (by unfold Func.isWrapper; first | (rw [if_pos (by decide +kernel)]; kernel_rfl) | (rw [if_neg (by decide +kernel)]; exact ⟨rfl, rfl⟩))
    (fun os started H enc _ => quorumVotes_lifted os started H enc)

theorem quorumVotes_proved : Rows.QuorumVotesSaid := quorumVotes_over
#print axioms quorumVotes_proved
end Go.Proofs.Ytdhdpklmipkneaa
