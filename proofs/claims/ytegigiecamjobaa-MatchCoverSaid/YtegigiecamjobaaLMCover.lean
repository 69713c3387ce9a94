/- MatchCover returns true whatever its arguments, and its arguments read as before. No other condition. -/
import Derived.Test.YtegigiecamjobaaRows
import Derived.Test.YtegigiecamjobaaCovL
namespace Go.Proofs.Ytegigiecamjobaa
open Go.Ex Go.ChangeShapes Go.WideShapes Go.ChangeAt Go.RowKit

theorem matchCover_lifted (os : Os) (started : os.Started) (H : Type) (enc : TypeId × Value → H) :
    ReturnsInHanded {} Try.checked os 7 .any (Rows.matchCoverSpec.pre6 enc Try.prog Try.f7 Rows.matchCoverRow.domain false) (Rows.matchCoverSpec.post enc Try.prog Try.f7 false true false false) := by
  refine law_holds (C := Try.checked) (us := [I64, I64, .slc false PairT]) (tb := 4) own started (by kernel_rfl) Try.func7
    (ChangeSpec.witness6 (enc := enc) (C := Try.checked) false ⟨#[], #[.int .i64 0, .int .i64 0, .slice none 0 0], []⟩ 8 (by kernel_rfl) (by kernel_rfl) (by kernel_rfl) (by kernel_rfl))
    laid (by kernel_rfl) rfl ?_ rfl Try.underlying4 cMatchCover_valid
  intro ds hds
  match ds, hds with
  | [_, _, _], _ => rfl

theorem matchCover_over : Rows.matchCoverRow.holds Try.pinned (OpenSpec.ofChange Rows.matchCoverSpec) :=
  OpenClaim.holds_of_wide 7 Try.f7 rfl rfl rfl rfl rfl rfl rfl ⟨rfl, rfl, rfl, rfl, rfl⟩ rfl rfl rfl rfl rfl (by kernel_rfl) Try.func7 (by kernel_rfl)
    (of_decide_eq_true (by kernel_rfl)) (by unfold Func.isWrapper; first | (rw [if_pos (by decide +kernel)]; kernel_rfl) | (rw [if_neg (by decide +kernel)]; exact ⟨rfl, rfl⟩))
    (fun os started H enc _ => matchCover_lifted os started H enc)

theorem matchCover_proved : Rows.MatchCoverSaid := matchCover_over
#print axioms matchCover_proved
end Go.Proofs.Ytegigiecamjobaa
