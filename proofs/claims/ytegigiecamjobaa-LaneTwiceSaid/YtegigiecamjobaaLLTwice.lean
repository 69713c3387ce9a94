/- LaneTwice returns true whatever its arguments, and its arguments read as before. No other condition. -/
import Derived.Test.YtegigiecamjobaaRows
import Derived.Test.YtegigiecamjobaaLaneG
namespace Go.Proofs.Ytegigiecamjobaa
open Go.Ex Go.ChangeShapes Go.WideShapes Go.ChangeAt Go.RowKit

theorem laneTwice_lifted (os : Os) (started : os.Started) (H : Type) (enc : TypeId × Value → H) :
    ReturnsInHanded {} Try.checked os 9 .any (Rows.laneTwiceSpec.pre6 enc Try.prog Try.f9 Rows.laneTwiceRow.domain false) (Rows.laneTwiceSpec.post enc Try.prog Try.f9 false true false false) := by
  refine law_holds (C := Try.checked) (us := [ToT, Parcel]) (tb := 4) own started (by kernel_rfl) Try.func9
    (ChangeSpec.witness6 (enc := enc) (C := Try.checked) false ⟨#[], #[.agg #[.int .i64 0, .slice none 0 0], .agg #[.int .i64 0, .string ⟨#[]⟩]], []⟩ 8 (by kernel_rfl) (by kernel_rfl) (by kernel_rfl) (by kernel_rfl))
    laid (by kernel_rfl) rfl ?_ rfl Try.underlying4 cLaneTwice_valid
  intro ds hds
  match ds, hds with
  | [_, _], _ => rfl

theorem laneTwice_over : Rows.laneTwiceRow.holds Try.pinned (OpenSpec.ofChange Rows.laneTwiceSpec) :=
  OpenClaim.holds_of_wide 9 Try.f9 rfl rfl rfl rfl rfl rfl rfl ⟨rfl, rfl, rfl, rfl, rfl⟩ rfl rfl rfl rfl rfl (by kernel_rfl) Try.func9 (by kernel_rfl)
    (of_decide_eq_true (by kernel_rfl)) (by unfold Func.isWrapper; first | (rw [if_pos (by decide +kernel)]; kernel_rfl) | (rw [if_neg (by decide +kernel)]; exact ⟨rfl, rfl⟩))
    (fun os started H enc _ => laneTwice_lifted os started H enc)

theorem laneTwice_proved : Rows.LaneTwiceSaid := laneTwice_over
#print axioms laneTwice_proved
end Go.Proofs.Ytegigiecamjobaa
