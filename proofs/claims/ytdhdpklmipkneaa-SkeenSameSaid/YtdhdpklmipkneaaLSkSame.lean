/- SkeenSame returns true whatever its arguments, and its arguments read as before. No other condition. -/
import Derived.Test.YtdhdpklmipkneaaRows
import Derived.Test.YtdhdpklmipkneaaSkX
namespace Go.Proofs.Ytdhdpklmipkneaa
open Go.Ex Go.ChangeShapes Go.WideShapes Go.ChangeAt Go.RowKit

theorem skeenSame_lifted (os : Os) (started : os.Started) (H : Type) (enc : TypeId × Value → H) :
    ReturnsInHanded {} Try.checked os 11 .any (Rows.skeenSameSpec.pre6 enc Try.prog Try.f11 Rows.skeenSameRow.domain false) (Rows.skeenSameSpec.post enc Try.prog Try.f11 false true false false) := by
  refine law_holds (C := Try.checked) (us := [.slc false Talk, .slc false Talk]) (tb := 4) own started (by kernel_rfl) Try.func11
    (ChangeSpec.witness6 (enc := enc) (C := Try.checked) false ⟨#[], #[.slice none 0 0, .slice none 0 0], []⟩ 8 (by kernel_rfl) (by kernel_rfl) (by kernel_rfl) (by kernel_rfl))
    laid (by kernel_rfl) rfl ?_ rfl Try.underlying4 cSkeenSame_valid
  intro ds hds
  match ds, hds with
  | [_, _], _ => rfl

theorem skeenSame_over : Rows.skeenSameRow.holds Try.pinned (OpenSpec.ofChange Rows.skeenSameSpec) :=
  OpenClaim.holds_of_wide 11 Try.f11 rfl rfl rfl rfl rfl rfl rfl ⟨rfl, rfl, rfl, rfl, rfl⟩ rfl rfl rfl rfl rfl (by kernel_rfl) Try.func11 (by kernel_rfl)
    (of_decide_eq_true (by kernel_rfl)) (by unfold Func.isWrapper; first | (rw [if_pos (by decide +kernel)]; kernel_rfl) | (rw [if_neg (by decide +kernel)]; exact ⟨rfl, rfl⟩))
    (fun os started H enc _ => skeenSame_lifted os started H enc)

theorem skeenSame_proved : Rows.SkeenSameSaid := skeenSame_over
#print axioms skeenSame_proved
end Go.Proofs.Ytdhdpklmipkneaa
