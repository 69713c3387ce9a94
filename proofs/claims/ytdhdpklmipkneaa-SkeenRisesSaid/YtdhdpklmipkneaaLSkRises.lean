/- SkeenRises returns true whatever its arguments, and its arguments read as before. No other condition. -/
import Derived.Test.YtdhdpklmipkneaaRows
import Derived.Test.YtdhdpklmipkneaaSkR
namespace Go.Proofs.Ytdhdpklmipkneaa
open Go.Ex Go.ChangeShapes Go.WideShapes Go.ChangeAt Go.RowKit

theorem skeenRises_lifted (os : Os) (started : os.Started) (H : Type) (enc : TypeId × Value → H) :
    ReturnsInHanded {} Try.checked os 7 .any (Rows.skeenRisesSpec.pre6 enc Try.prog Try.f7 Rows.skeenRisesRow.domain false) (Rows.skeenRisesSpec.post enc Try.prog Try.f7 false true false false) := by
  refine law_holds (C := Try.checked) (us := [Skeen, I64, Num]) (tb := 4) own started (by kernel_rfl) Try.func7
    (ChangeSpec.witness6 (enc := enc) (C := Try.checked) false ⟨#[], #[.agg #[.int .i64 0, .int .i64 0, .slice none 0 0], .int .i64 0, .agg #[.int .i64 0, .int .i64 0]], []⟩ 8 (by kernel_rfl) (by kernel_rfl) (by kernel_rfl) (by kernel_rfl))
    laid (by kernel_rfl) rfl ?_ rfl Try.underlying4 cSkeenRises_valid
  intro ds hds
  match ds, hds with
  | [_, _, _], _ => rfl

theorem skeenRises_over : Rows.skeenRisesRow.holds Try.pinned (OpenSpec.ofChange Rows.skeenRisesSpec) :=
  OpenClaim.holds_of_wide 7 Try.f7 rfl rfl rfl rfl rfl rfl rfl ⟨rfl, rfl, rfl, rfl, rfl⟩ rfl rfl rfl rfl rfl (by kernel_rfl) Try.func7 (by kernel_rfl)
    (of_decide_eq_true (by kernel_rfl)) (by unfold Func.isWrapper; first | (rw [if_pos (by decide +kernel)]; kernel_rfl) | (rw [if_neg (by decide +kernel)]; exact ⟨rfl, rfl⟩))
    (fun os started H enc _ => skeenRises_lifted os started H enc)

theorem skeenRises_proved : Rows.SkeenRisesSaid := skeenRises_over
#print axioms skeenRises_proved
end Go.Proofs.Ytdhdpklmipkneaa
