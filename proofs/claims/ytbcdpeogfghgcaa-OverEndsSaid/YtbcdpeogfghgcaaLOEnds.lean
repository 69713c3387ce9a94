/- OverEnds returns true whatever its arguments, and its arguments read as before. No other condition. -/
import Derived.Test.YtbcdpeogfghgcaaRows
import Derived.Test.YtbcdpeogfghgcaaOverL
namespace Go.Proofs.Ytbcdpeogfghgcaa
open Go.Ex Go.ChangeShapes Go.WideShapes Go.ChangeAt Go.RowKit

theorem overEnds_lifted (os : Os) (started : os.Started) (H : Type) (enc : TypeId × Value → H) :
    ReturnsInHanded {} Try.checked os 15 .any (Rows.overEndsSpec.pre6 enc Try.prog Try.f15 Rows.overEndsRow.domain false) (Rows.overEndsSpec.post enc Try.prog Try.f15 false true false false) := by
  refine law_holds (C := Try.checked) (us := [I64, .slc false Word]) (tb := 4) own started (by kernel_rfl) Try.func15
    (ChangeSpec.witness6 (enc := enc) (C := Try.checked) false ⟨#[], #[.int .i64 0, .slice none 0 0], []⟩ 8 (by kernel_rfl) (by kernel_rfl) (by kernel_rfl) (by kernel_rfl))
    laid (by kernel_rfl) rfl ?_ rfl Try.underlying4 cOverEnds_valid
  intro ds hds
  match ds, hds with
  | [_, _], _ => rfl

theorem overEnds_over : Rows.overEndsRow.holds Try.pinned (OpenSpec.ofChange Rows.overEndsSpec) :=
  OpenClaim.holds_of_wide 15 Try.f15 rfl rfl rfl rfl rfl rfl rfl ⟨rfl, rfl, rfl, rfl, rfl⟩ rfl rfl rfl rfl rfl (by kernel_rfl) Try.func15 (by kernel_rfl)
    (of_decide_eq_true (by kernel_rfl)) (by unfold Func.isWrapper; first | (rw [if_pos (by decide +kernel)]; kernel_rfl) | (rw [if_neg (by decide +kernel)]; exact ⟨rfl, rfl⟩))
    (fun os started H enc _ => overEnds_lifted os started H enc)

theorem overEnds_proved : Rows.OverEndsSaid := overEnds_over
#print axioms overEnds_proved
end Go.Proofs.Ytbcdpeogfghgcaa
