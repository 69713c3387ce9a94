/- PosetWide returns true whatever its arguments, and its arguments read as before. No other condition. -/
import Derived.Test.YtegigiecamjobaaRows
import Derived.Test.YtegigiecamjobaaPosZ
namespace Go.Proofs.Ytegigiecamjobaa
open Go.Ex Go.ChangeShapes Go.WideShapes Go.ChangeAt Go.RowKit

theorem posetWide_lifted (os : Os) (started : os.Started) (H : Type) (enc : TypeId × Value → H) :
    ReturnsInHanded {} Try.checked os 18 .any (Rows.posetWideSpec.pre6 enc Try.prog Try.f18 Rows.posetWideRow.domain false) (Rows.posetWideSpec.post enc Try.prog Try.f18 false true false false) := by
  refine law_holds (C := Try.checked) (us := [Pos]) (tb := 4) own started (by kernel_rfl) Try.func18
    (ChangeSpec.witness6 (enc := enc) (C := Try.checked) false ⟨#[], #[.agg #[.int .i64 0, .slice none 0 0]], []⟩ 8 (by kernel_rfl) (by kernel_rfl) (by kernel_rfl) (by kernel_rfl))
    laid (by kernel_rfl) rfl ?_ rfl Try.underlying4 cPosetWide_valid
  intro ds hds
  match ds, hds with
  | [_], _ => rfl

theorem posetWide_over : Rows.posetWideRow.holds Try.pinned (OpenSpec.ofChange Rows.posetWideSpec) :=
  OpenClaim.holds_of_wide 18 Try.f18 rfl rfl rfl rfl rfl rfl rfl ⟨rfl, rfl, rfl, rfl, rfl⟩ rfl rfl rfl rfl rfl (by kernel_rfl) Try.func18 (by kernel_rfl)
    (of_decide_eq_true (by kernel_rfl)) (by unfold Func.isWrapper; first | (rw [if_pos (by decide +kernel)]; kernel_rfl) | (rw [if_neg (by decide +kernel)]; exact ⟨rfl, rfl⟩))
    (fun os started H enc _ => posetWide_lifted os started H enc)

theorem posetWide_proved : Rows.PosetWideSaid := posetWide_over
#print axioms posetWide_proved
end Go.Proofs.Ytegigiecamjobaa
