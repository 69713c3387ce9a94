/- MatchHall returns true whatever its arguments, and its arguments read as before. No other condition. -/
import Derived.Test.YtegigiecamjobaaRows
import Derived.Test.YtegigiecamjobaaHallL
namespace Go.Proofs.Ytegigiecamjobaa
open Go.Ex Go.ChangeShapes Go.WideShapes Go.ChangeAt Go.RowKit

theorem matchHall_lifted (os : Os) (started : os.Started) (H : Type) (enc : TypeId × Value → H) :
    ReturnsInHanded {} Try.checked os 10 .any (Rows.matchHallSpec.pre6 enc Try.prog Try.f10 Rows.matchHallRow.domain false) (Rows.matchHallSpec.post enc Try.prog Try.f10 false true false false) := by
  refine law_holds (C := Try.checked) (us := [I64, I64, .slc false PairT, .slc false I64]) (tb := 4) own started (by kernel_rfl) Try.func10
    (ChangeSpec.witness6 (enc := enc) (C := Try.checked) false ⟨#[], #[.int .i64 0, .int .i64 0, .slice none 0 0, .slice none 0 0], []⟩ 8 (by kernel_rfl) (by kernel_rfl) (by kernel_rfl) (by kernel_rfl))
    laid (by kernel_rfl) rfl ?_ rfl Try.underlying4 cMatchHall_valid
  intro ds hds
  match ds, hds with
  | [_, _, _, _], _ => rfl

theorem matchHall_over : Rows.matchHallRow.holds Try.pinned (OpenSpec.ofChange Rows.matchHallSpec) :=
  OpenClaim.holds_of_wide 10 Try.f10 rfl rfl rfl rfl rfl rfl rfl ⟨rfl, rfl, rfl, rfl, rfl⟩ rfl rfl rfl rfl rfl (by kernel_rfl) Try.func10 (by kernel_rfl)
    (of_decide_eq_true (by kernel_rfl)) (by unfold Func.isWrapper; first | (rw [if_pos (by decide +kernel)]; kernel_rfl) | (rw [if_neg (by decide +kernel)]; exact ⟨rfl, rfl⟩))
    (fun os started H enc _ => matchHall_lifted os started H enc)

theorem matchHall_proved : Rows.MatchHallSaid := matchHall_over
#print axioms matchHall_proved
end Go.Proofs.Ytegigiecamjobaa
