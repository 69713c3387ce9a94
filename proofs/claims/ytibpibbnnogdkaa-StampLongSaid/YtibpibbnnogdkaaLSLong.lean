/- StampLong returns true whatever its arguments, and its arguments read as before. No other condition. -/
import Derived.Test.YtibpibbnnogdkaaRows
import Derived.Test.YtibpibbnnogdkaaSLong
namespace Go.Proofs.Ytibpibbnnogdkaa
open Go.Ex Go.ChangeShapes Go.WideShapes Go.ChangeAt Go.RowKit

theorem stampLong_lifted (os : Os) (started : os.Started) (H : Type) (enc : TypeId × Value → H) :
    ReturnsInHanded {} Try.checked os 12 .any (Rows.stampLongSpec.pre6 enc Try.prog Try.f12 Rows.stampLongRow.domain false) (Rows.stampLongSpec.post enc Try.prog Try.f12 false true false false) := by
  refine law_holds (C := Try.checked) (us := [Es]) (tb := 4) own started (by kernel_rfl) Try.func12
    (ChangeSpec.witness6 (enc := enc) (C := Try.checked) false ⟨#[], #[.slice none 0 0], []⟩ 8 (by kernel_rfl) (by kernel_rfl) (by kernel_rfl) (by kernel_rfl))
    laid (by kernel_rfl) rfl ?_ rfl Try.underlying4 cStampLong_valid
  intro ds hds
  match ds, hds with
  | [_], _ => rfl

theorem stampLong_over : Rows.stampLongRow.holds Try.pinned (OpenSpec.ofChange Rows.stampLongSpec) :=
  OpenClaim.holds_of_wide 12 Try.f12 rfl rfl rfl rfl rfl rfl rfl ⟨rfl, rfl, rfl, rfl, rfl⟩ rfl rfl rfl rfl rfl (by kernel_rfl) Try.func12 (by kernel_rfl)
    (of_decide_eq_true (by kernel_rfl)) (by unfold Func.isWrapper; first | (rw [if_pos (by decide +kernel)]; kernel_rfl) | (rw [if_neg (by decide +kernel)]; exact ⟨rfl, rfl⟩))
    (fun os started H enc _ => stampLong_lifted os started H enc)

theorem stampLong_proved : Rows.StampLongSaid := stampLong_over
#print axioms stampLong_proved
end Go.Proofs.Ytibpibbnnogdkaa
