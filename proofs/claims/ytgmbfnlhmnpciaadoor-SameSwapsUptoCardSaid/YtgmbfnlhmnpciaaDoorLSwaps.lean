/- SameSwaps returns true whatever its arguments, and its arguments read as before, where what it reads is of bulk at most 1048576: the card. No other condition. -/
import Derived.Test.YtgmbfnlhmnpciaaDoorCards
import Derived.Test.YtgmbfnlhmnpciaaDoorTie
import Derived.Test.YtgmbfnlhmnpciaaDoorDoorW
import Derived.Test.YtgmbfnlhmnpciaaDoorSmE
import Derived.Lay
import Derived.SevenTiedAt
namespace Go.Proofs.YtgmbfnlhmnpciaaDoor
open Go.Ex Go.ChangeShapes Go.WideShapes Go.ChangeAt Go.RowKit
set_option maxRecDepth 100000
mutual
theorem ub {H : Type} : ∀ d : DataW H, Rows.uptoBulk d = bulkW d
  | .lit l => by cases l <;> simp [Rows.uptoBulk, bulkW]
  | .nil => by simp [Rows.uptoBulk, bulkW]
  | .ptr d => by simp [Rows.uptoBulk, bulkW, ub d]
  | .slice a b => by simp [Rows.uptoBulk, bulkW, ubAll a, ubAll b]
  | .agg a => by simp [Rows.uptoBulk, bulkW, ubAll a]
  | .iface _ d => by simp [Rows.uptoBulk, bulkW, ub d]
  | .map e => by simp [Rows.uptoBulk, bulkW, ubEntries e]
  | .held _ => by simp [Rows.uptoBulk, bulkW]
theorem ubAll {H : Type} : ∀ l : List (DataW H), Rows.uptoBulkAll l = bulkWAll l
  | [] => by simp [Rows.uptoBulkAll, bulkWAll]
  | d :: r => by simp [Rows.uptoBulkAll, bulkWAll, ub d, ubAll r]
theorem ubEntries {H : Type} : ∀ l : List (Lit × DataW H), Rows.uptoBulkEntries l = bulkWEntries l
  | [] => by simp [Rows.uptoBulkEntries, bulkWEntries]
  | x :: r => by simp [Rows.uptoBulkEntries, bulkWEntries, ubEntry x, ubEntries r]
theorem ubEntry {H : Type} : ∀ x : Lit × DataW H, Rows.uptoBulkEntry x = bulkWEntry x
  | (l, d) => by cases l <;> simp [Rows.uptoBulkEntry, bulkWEntry, ub d]
end
theorem sameSwaps_met (os : Os) (args : Array Value) : laidMetH Tryd.prog Rows.sameSwapsUptoRow.laid ((World.laidAll Tryd.prog os Rows.sameSwapsUptoRow.laid).forCall (fun _ _ => 0) ⟨#[], args, []⟩).memory := by
  unfold laidMetH
  rw [show (Rows.sameSwapsUptoRow.laid.filter fun x => x.2.handleName?.isSome) = [] by rfl]
  exact laidMet_laidAll args (by kernel_rfl) (by kernel_rfl)
theorem sameSwaps_wit (os : Os) (H : Type) (enc : TypeId × Value → H) : ∃ (w : World) (tape : Tape) (i : Input), w.os = os ∧ (w.forCall tape i).Shaped Tryd.prog ∧ i.vars = [] ∧ Input.okWide Tryd.prog (w.forCall tape i) .any w.heap.size 7 i ∧
    (((Rows.OpenSpec.upto Rows.sameSwapsSpec).pre enc Tryd.prog Tryd.f7 Rows.sameSwapsUptoRow.domain false (w.forCall tape i).memory i.args ∧ laidMetH Tryd.prog Rows.sameSwapsUptoRow.laid (w.forCall tape i).memory) ∧ sizedMet enc Tryd.prog Tryd.f7 (Rows.OpenSpec.upto Rows.sameSwapsSpec) false (w.forCall tape i).memory i.args) ∧
    (({} : Assume).holds Tryd.prog (lone (Frame.enter Tryd.prog 7 i.args .normal) [] (w.forCall tape i))) :=
  ⟨World.laidAll Tryd.prog os Rows.sameSwapsUptoRow.laid, fun _ _ => 0, ⟨#[], #[.agg (Array.replicate 10 (.int .i64 0)), .string ⟨#[]⟩, .string ⟨#[]⟩], []⟩, World.laidAll_os _ _ _, World.shaped_of_ZipB (by kernel_rfl) (by kernel_rfl), rfl,
    (Input.okWide_of_okWideB (base := (World.laidAll Tryd.prog os Rows.sameSwapsUptoRow.laid).heap.size) (by kernel_rfl)).2,
    ⟨⟨(OpenSpec.pre_some rfl _ _ _ _).2 ⟨[.agg (List.replicate 10 (.lit (.int .i64 0))), .lit (.string []), .lit (.string [])], [], [], DataW.Whole_of_whole (fuel := 8) (x := ([.agg (List.replicate 10 (.lit (.int .i64 0))), .lit (.string []), .lit (.string [])], [], [])) (by kernel_rfl), rfl, by kernel_rfl⟩, sameSwaps_met os _⟩, sizedMet_of_sizedB (fuel := 8) (by kernel_rfl)⟩, by
    simp only [Assume.holds]
    exact ⟨by simp, by simp, fun _ => Modest.zero, by simp, by simp⟩⟩
theorem sameSwaps_lifted (os : Os) (started : os.Started) (H : Type) (enc : TypeId × Value → H) (F : Stop.Interp) :
    ReturnsInHanded {} Tryd.checked os 7 .any (fun w args => ((Rows.OpenSpec.upto Rows.sameSwapsSpec).pre enc Tryd.prog Tryd.f7 Rows.sameSwapsUptoRow.domain false w args ∧ laidMetH Tryd.prog Rows.sameSwapsUptoRow.laid w) ∧ sizedMet enc Tryd.prog Tryd.f7 (Rows.OpenSpec.upto Rows.sameSwapsSpec) false w args)
      (((Rows.OpenSpec.upto Rows.sameSwapsSpec).at F).post enc Tryd.prog Tryd.f7 false true false false) := by
  refine law_laidU (C := Tryd.checked) (s := Rows.OpenSpec.upto Rows.sameSwapsSpec) (k := Rows.uptoSmall) rfl (us := [Vals, .str, .str]) (tb := 4) (Y := fun w _ => laidMetH Tryd.prog Rows.sameSwapsUptoRow.laid w) (fun _ _ _ hh h => h.of_heap hh) own started (by kernel_rfl) Tryd.func7
    (sameSwaps_wit os H enc) (fun ds h => ubAll ds ▸ of_decide_eq_true h) laid (by kernel_rfl) rfl ?_ rfl Tryd.underlying4 cSameSwaps_valid (fun W _ hsh h => laid_gl hsh h rfl (by simp [Rows.sameSwapsUptoRow]))
  intro ds hds
  match ds, hds with
  | [_, _, _], _ => rfl
theorem sameSwaps_over : Rows.sameSwapsUptoRow.holds Tryd.pinned (Rows.OpenSpec.upto Rows.sameSwapsSpec) :=
  OpenClaim.holds_of_cond 7 Tryd.f7 rfl rfl rfl rfl rfl rfl rfl ⟨rfl, rfl, rfl, rfl, rfl⟩ rfl rfl rfl rfl rfl (by kernel_rfl) Tryd.func7 (by kernel_rfl)
    (of_decide_eq_true (by kernel_rfl)) (by unfold Func.isWrapper; first | (rw [if_pos (by decide +kernel)]; kernel_rfl) | (rw [if_neg (by decide +kernel)]; exact ⟨rfl, rfl⟩))
    (fun os started H enc _ F => sameSwaps_lifted os started H enc F)
theorem sameSwaps_proved : Rows.SameSwapsUptoCardSaid :=
  Claim7.holds_tied_plain_at .later [] [.data, .data, .data, .data, .sentinel, .sentinel, .pinned] true (true, "2b05ed7b874ccfe87a0b7305707f9901758c100f827666af244814ff98a37acc") true
    sameSwaps_over (fun _ h => by cases h) (by kernel_rfl) (fun _ h => by cases h) sameSwapsUpto_row_tie rfl ⟨rfl, rfl⟩ (by kernel_rfl) rfl
    (fun f fn hf hfn => by
      obtain rfl : f = 7 := Option.some.inj ((show Tryd.prog.funcNamed "partsong/partkeep.SameSwaps" = some 7 by kernel_rfl).symm.trans hf) |>.symm
      obtain rfl : fn = Tryd.f7 := (Option.some.inj (Tryd.func7.symm.trans hfn)).symm
      exact ⟨by kernel_rfl, fun j t ht => by
        have h : (Tryd.f7.params.toList.all fun t => !Tryd.prog.wantsStandIn t) = true := by kernel_rfl
        have := List.all_eq_true.1 h t (List.mem_of_getElem? (i := j) (by simpa using ht))
        exact (show Tryd.prog.wantsStandIn t = false by simpa using this)⟩)
    (by kernel_rfl)
#print axioms sameSwaps_proved
end Go.Proofs.YtgmbfnlhmnpciaaDoor
