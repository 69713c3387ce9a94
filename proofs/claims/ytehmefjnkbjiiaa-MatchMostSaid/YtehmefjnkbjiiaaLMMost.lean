/- MatchMost returns true whatever its arguments, and its arguments read as before. No other condition. -/
import Derived.Test.YtehmefjnkbjiiaaRows
import Derived.Test.YtehmefjnkbjiiaaMatchL
namespace Go.Proofs.Ytehmefjnkbjiiaa
open Go.Ex Go.ChangeShapes Go.WideShapes Go.ChangeAt Go.RowKit

theorem matchMost_lifted (os : Os) (started : os.Started) (H : Type) (enc : TypeId × Value → H) :
    ReturnsInHanded {} Try.checked os 4 .any (Rows.matchMostSpec.pre6 enc Try.prog Try.f4 Rows.matchMostRow.domain false) (Rows.matchMostSpec.post enc Try.prog Try.f4 false true false false) := by
  refine law_holds (C := Try.checked) (us := [I64, I64, .slc false PairT, .slc false I64]) (tb := 4) own started (by kernel_rfl) Try.func4
    (ChangeSpec.witness6 (enc := enc) (C := Try.checked) false ⟨#[], #[.int .i64 0, .int .i64 0, .slice none 0 0, .slice none 0 0], []⟩ 8 (by kernel_rfl) (by kernel_rfl) (by kernel_rfl) (by kernel_rfl))
    laid (by kernel_rfl) rfl ?_ rfl Try.underlying4 cMatchMost_valid
  intro ds hds
  match ds, hds with
  | [_, _, _, _], _ => rfl

theorem matchMost_over : Rows.matchMostRow.holds Try.pinned (OpenSpec.ofChange Rows.matchMostSpec) :=
  OpenClaim.holds_of_wide 4 Try.f4 rfl rfl rfl rfl rfl rfl rfl ⟨rfl, rfl, rfl, rfl, rfl⟩ rfl rfl rfl rfl rfl (by kernel_rfl) Try.func4 (by kernel_rfl)
    (of_decide_eq_true (by kernel_rfl)) (by unfold Func.isWrapper; first | (rw [if_pos (by decide +kernel)]; kernel_rfl) | (rw [if_neg (by decide +kernel)]; exact ⟨rfl, rfl⟩))
    (fun os started H enc _ => matchMost_lifted os started H enc)

theorem matchMost_proved : Rows.MatchMostSaid := matchMost_over
#print axioms matchMost_proved
end Go.Proofs.Ytehmefjnkbjiiaa
