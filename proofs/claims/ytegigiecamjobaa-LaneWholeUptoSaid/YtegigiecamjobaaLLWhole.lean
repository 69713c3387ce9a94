/- LaneWhole returns true whatever its arguments, and its arguments read as before, where what it reads is of bulk at most 1048576. No other condition. -/
import Derived.Test.YtegigiecamjobaaRows
import Derived.Test.YtegigiecamjobaaLaneS
namespace Go.Proofs.Ytegigiecamjobaa
open Go.Ex Go.ChangeShapes Go.WideShapes Go.ChangeAt Go.RowKit

mutual
theorem ub {H : Type} : ∀ d : DataW H, Rows.uptoBulk d = bulkW d
  | .lit l => by cases l <;> simp [Rows.uptoBulk, bulkW]
  | .nil => by simp [Rows.uptoBulk, bulkW]
  | .ptr d => by simp [Rows.uptoBulk, bulkW, ub d]
  | .slice a b => by simp [Rows.uptoBulk, bulkW, ubAll a, ubAll b]
  | .agg a => by simp [Rows.uptoBulk, bulkW, ubAll a]
  | .iface _ d => by simp [Rows.uptoBulk, bulkW, ub d]
  | .map e => by simp [Rows.uptoBulk, bulkW, ubEntries e]
  | .held _ => by simp [Rows.uptoBulk, bulkW]
theorem ubAll {H : Type} : ∀ l : List (DataW H), Rows.uptoBulkAll l = bulkWAll l
  | [] => by simp [Rows.uptoBulkAll, bulkWAll]
  | d :: r => by simp [Rows.uptoBulkAll, bulkWAll, ub d, ubAll r]
theorem ubEntries {H : Type} : ∀ l : List (Lit × DataW H), Rows.uptoBulkEntries l = bulkWEntries l
  | [] => by simp [Rows.uptoBulkEntries, bulkWEntries]
  | x :: r => by simp [Rows.uptoBulkEntries, bulkWEntries, ubEntry x, ubEntries r]
theorem ubEntry {H : Type} : ∀ x : Lit × DataW H, Rows.uptoBulkEntry x = bulkWEntry x
  | (l, d) => by cases l <;> simp [Rows.uptoBulkEntry, bulkWEntry, ub d]
end

theorem laneWhole_lifted (os : Os) (started : os.Started) (H : Type) (enc : TypeId × Value → H) (F : Stop.Interp) :
    ReturnsInHanded {} Try.checked os 12 .any ((Rows.OpenSpec.upto Rows.laneWholeSpec).pre6 enc Try.prog Try.f12 Rows.laneWholeUptoRow.domain false) (((Rows.OpenSpec.upto Rows.laneWholeSpec).at F).post enc Try.prog Try.f12 false true false false) := by
  refine law_upto (C := Try.checked) (s := Rows.OpenSpec.upto Rows.laneWholeSpec) (k := Rows.uptoSmall) rfl (us := [.slc false LActT]) (tb := 4) own started (by kernel_rfl) Try.func12
    (OpenSpec.witness (enc := enc) (C := Try.checked) (s := Rows.OpenSpec.upto Rows.laneWholeSpec) (k := Rows.uptoSmall) rfl false ⟨#[], #[.slice none 0 0], []⟩ 8 (by kernel_rfl) (by kernel_rfl) (by kernel_rfl)
      (x := ([.nil], [], [])) (by kernel_rfl) rfl (by kernel_rfl))
    (fun ds h => ubAll ds ▸ of_decide_eq_true h) laid (by kernel_rfl) rfl ?_ rfl Try.underlying4 cLaneWhole_valid
  intro ds hds
  match ds, hds with
  | [_], _ => rfl

theorem laneWhole_over : Rows.laneWholeUptoRow.holds Try.pinned (Rows.OpenSpec.upto Rows.laneWholeSpec) :=
  OpenClaim.holds_of_cond 12 Try.f12 rfl rfl rfl rfl rfl rfl rfl ⟨rfl, rfl, rfl, rfl, rfl⟩ rfl rfl rfl rfl rfl (by kernel_rfl) Try.func12 (by kernel_rfl)
    (of_decide_eq_true (by kernel_rfl)) (by unfold Func.isWrapper; first | (rw [if_pos (by decide +kernel)]; kernel_rfl) | (rw [if_neg (by decide +kernel)]; exact ⟨rfl, rfl⟩))
    (fun os started H enc _ F => laneWhole_lifted os started H enc F)

theorem laneWhole_proved : Rows.LaneWholeUptoSaid := laneWhole_over
#print axioms laneWhole_proved
end Go.Proofs.Ytegigiecamjobaa
