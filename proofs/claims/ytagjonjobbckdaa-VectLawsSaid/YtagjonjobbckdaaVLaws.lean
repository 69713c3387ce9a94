/- VectLaws returns true whatever its arguments, and its arguments read as before. No condition. -/
import Derived.Test.YtagjonjobbckdaaRows
import Derived.Test.YtagjonjobbckdaaVect
namespace Go.Proofs.Ytagjonjobbckdaa
open Go.Ex Go.ChangeShapes Go.WideShapes Go.ChangeAt Go.RowKit

theorem own : ownKnob Try.prog.godebug = none := by kernel_rfl
theorem laid : laidOutB Try.prog = true := by kernel_rfl

theorem vectLaws_lifted (os : Os) (started : os.Started) (H : Type) (enc : TypeId × Value → H) :
    ReturnsInHanded {} Try.checked os 5 .any (Rows.vectLawsSpec.pre6 enc Try.prog Try.f5 Rows.vectLawsRow.domain false) (Rows.vectLawsSpec.post enc Try.prog Try.f5 false true false false) := by
  refine law_holds (C := Try.checked) (us := [Vec, Vec, Vec]) (tb := 4) own started (by kernel_rfl) Try.func5
    (ChangeSpec.witness6 (enc := enc) (C := Try.checked) false ⟨#[], #[.agg #[.int .i64 0, .int .i64 0, .int .i64 0, .int .i64 0, .int .i64 0, .int .i64 0], .agg #[.int .i64 0, .int .i64 0, .int .i64 0, .int .i64 0, .int .i64 0, .int .i64 0], .agg #[.int .i64 0, .int .i64 0, .int .i64 0, .int .i64 0, .int .i64 0, .int .i64 0]], []⟩ 8 (by kernel_rfl) (by kernel_rfl) (by kernel_rfl) (by kernel_rfl))
    laid (by kernel_rfl) rfl ?_ rfl Try.underlying4 c5_valid
  intro ds hds
  match ds, hds with
  | [_, _, _], _ => rfl

theorem vectLaws_over : Rows.vectLawsRow.holds Try.pinned (OpenSpec.ofChange Rows.vectLawsSpec) :=
  OpenClaim.holds_of_wide 5 Try.f5 rfl rfl rfl rfl rfl rfl rfl ⟨rfl, rfl, rfl, rfl, rfl⟩ rfl rfl rfl rfl rfl (by kernel_rfl) Try.func5 (by kernel_rfl)
    (of_decide_eq_true (by kernel_rfl)) (by unfold Func.isWrapper; first | (rw [if_pos (by decide +kernel)]; kernel_rfl) | (rw [if_neg (by decide +kernel)]; exact ⟨rfl, rfl⟩))
    (fun os started H enc _ => vectLaws_lifted os started H enc)

theorem vectLaws_proved : Rows.VectLawsSaid := vectLaws_over
#print axioms vectLaws_proved
end Go.Proofs.Ytagjonjobbckdaa
