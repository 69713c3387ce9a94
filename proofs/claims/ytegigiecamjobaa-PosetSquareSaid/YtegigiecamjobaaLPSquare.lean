/- PosetSquare returns true whatever its arguments, and its arguments read as before. No other condition. -/
import Derived.Test.YtegigiecamjobaaRows
import Derived.Test.YtegigiecamjobaaPosQ
namespace Go.Proofs.Ytegigiecamjobaa
open Go.Ex Go.ChangeShapes Go.WideShapes Go.ChangeAt Go.RowKit

theorem posetSquare_lifted (os : Os) (started : os.Started) (H : Type) (enc : TypeId × Value → H) :
    ReturnsInHanded {} Try.checked os 17 .any (Rows.posetSquareSpec.pre6 enc Try.prog Try.f17 Rows.posetSquareRow.domain false) (Rows.posetSquareSpec.post enc Try.prog Try.f17 false true false false) := by
  refine law_holds (C := Try.checked) (us := [Pos]) (tb := 4) own started (by kernel_rfl) Try.func17
    (ChangeSpec.witness6 (enc := enc) (C := Try.checked) false ⟨#[], #[.agg #[.int .i64 0, .slice none 0 0]], []⟩ 8 (by kernel_rfl) (by kernel_rfl) (by kernel_rfl) (by kernel_rfl))
    laid (by kernel_rfl) rfl ?_ rfl Try.underlying4 cPosetSquare_valid
  intro ds hds
  match ds, hds with
  | [_], _ => rfl

theorem posetSquare_over : Rows.posetSquareRow.holds Try.pinned (OpenSpec.ofChange Rows.posetSquareSpec) :=
  OpenClaim.holds_of_wide 17 Try.f17 rfl rfl rfl rfl rfl rfl rfl ⟨rfl, rfl, rfl, rfl, rfl⟩ rfl rfl rfl rfl rfl (by kernel_rfl) Try.func17 (by kernel_rfl)
    (of_decide_eq_true (by kernel_rfl)) (by unfold Func.isWrapper; first | (rw [if_pos (by decide +kernel)]; kernel_rfl) | (rw [if_neg (by decide +kernel)]; exact ⟨rfl, rfl⟩))
    (fun os started H enc _ => posetSquare_lifted os started H enc)

theorem posetSquare_proved : Rows.PosetSquareSaid := posetSquare_over
#print axioms posetSquare_proved
end Go.Proofs.Ytegigiecamjobaa
