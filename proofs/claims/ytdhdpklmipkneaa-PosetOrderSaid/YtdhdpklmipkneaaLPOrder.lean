/- PosetOrder returns true whatever its arguments, and its arguments read as before. No other condition. -/
import Derived.Test.YtdhdpklmipkneaaRows
import Derived.Test.YtdhdpklmipkneaaPosW
namespace Go.Proofs.Ytdhdpklmipkneaa
open Go.Ex Go.ChangeShapes Go.WideShapes Go.ChangeAt Go.RowKit

theorem posetOrder_lifted (os : Os) (started : os.Started) (H : Type) (enc : TypeId × Value → H) :
    ReturnsInHanded {} Try.checked os 10 .any (Rows.posetOrderSpec.pre6 enc Try.prog Try.f10 Rows.posetOrderRow.domain false) (Rows.posetOrderSpec.post enc Try.prog Try.f10 false true false false) := by
  refine law_holds (C := Try.checked) (us := [Pos]) (tb := 4) own started (by kernel_rfl) Try.func10
    (ChangeSpec.witness6 (enc := enc) (C := Try.checked) false ⟨#[], #[.agg #[.int .i64 0, .slice none 0 0]], []⟩ 8 (by kernel_rfl) (by kernel_rfl) (by kernel_rfl) (by kernel_rfl))
    laid (by kernel_rfl) rfl ?_ rfl Try.underlying4 cPosetOrder_valid
  intro ds hds
  match ds, hds with
  | [_], _ => rfl

theorem posetOrder_over : Rows.posetOrderRow.holds Try.pinned (OpenSpec.ofChange Rows.posetOrderSpec) :=
  OpenClaim.holds_of_wide 10 Try.f10 rfl rfl rfl rfl rfl rfl rfl ⟨rfl, rfl, rfl, rfl, rfl⟩ rfl rfl rfl rfl rfl (by kernel_rfl) Try.func10 (by kernel_rfl)
    (of_decide_eq_true (by kernel_rfl)) (by unfold Func.isWrapper; first | (rw [if_pos (by decide +kernel)]; kernel_rfl) | (rw [if_neg (by decide +kernel)]; exact ⟨rfl, rfl⟩))
    (fun os started H enc _ => posetOrder_lifted os started H enc)

theorem posetOrder_proved : Rows.PosetOrderSaid := posetOrder_over
#print axioms posetOrder_proved
end Go.Proofs.Ytdhdpklmipkneaa
