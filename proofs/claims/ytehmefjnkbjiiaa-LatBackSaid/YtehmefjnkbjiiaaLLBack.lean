/- LatBack returns true whatever its arguments, and its arguments read as before. No other condition. -/
import Derived.Test.YtehmefjnkbjiiaaRows
import Derived.Test.YtehmefjnkbjiiaaLatBa
namespace Go.Proofs.Ytehmefjnkbjiiaa
open Go.Ex Go.ChangeShapes Go.WideShapes Go.ChangeAt Go.RowKit

theorem latBack_lifted (os : Os) (started : os.Started) (H : Type) (enc : TypeId × Value → H) :
    ReturnsInHanded {} Try.checked os 14 .any (Rows.latBackSpec.pre6 enc Try.prog Try.f14 Rows.latBackRow.domain false) (Rows.latBackSpec.post enc Try.prog Try.f14 false true false false) := by
  refine law_holds (C := Try.checked) (us := [Pos]) (tb := 4) own started (by kernel_rfl) Try.func14
    (ChangeSpec.witness6 (enc := enc) (C := Try.checked) false ⟨#[], #[.agg #[.int .i64 0, .slice none 0 0]], []⟩ 8 (by kernel_rfl) (by kernel_rfl) (by kernel_rfl) (by kernel_rfl))
    laid (by kernel_rfl) rfl ?_ rfl Try.underlying4 cLatBack_valid
  intro ds hds
  match ds, hds with
  | [_], _ => rfl

theorem latBack_over : Rows.latBackRow.holds Try.pinned (OpenSpec.ofChange Rows.latBackSpec) :=
  OpenClaim.holds_of_wide 14 Try.f14 rfl rfl rfl rfl rfl rfl rfl ⟨rfl, rfl, rfl, rfl, rfl⟩ rfl rfl rfl rfl rfl (by kernel_rfl) Try.func14 (by kernel_rfl)
    (of_decide_eq_true (by kernel_rfl)) (by unfold Func.isWrapper; first | (rw [if_pos (by decide +kernel)]; kernel_rfl) | (rw [if_neg (by decide +kernel)]; exact ⟨rfl, rfl⟩))
    (fun os started H enc _ => latBack_lifted os started H enc)

theorem latBack_proved : Rows.LatBackSaid := latBack_over
#print axioms latBack_proved
end Go.Proofs.Ytehmefjnkbjiiaa
