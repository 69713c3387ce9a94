/- TopSplit returns true whatever its arguments, and its arguments read as before: the card. No other condition. -/
import Derived.Test.YtijlnmgondibnaaGreatDoorCards
import Derived.Test.YtijlnmgondibnaaGreatDoorTie
import Derived.Test.YtijlnmgondibnaaGreatDoorJ1
import Derived.Test.YtijlnmgondibnaaGreatDoorJ3
import Derived.Lay
import Derived.SevenTiedAt
set_option linter.unusedVariables false
set_option linter.unusedSimpArgs false
set_option linter.unusedSectionVars false
namespace Go.Proofs.YtijlnmgondibnaaGreatDoor
open Go.Ex Go.ChangeShapes Go.WideShapes Go.ChangeAt Go.RowKit
set_option maxRecDepth 100000
theorem b29 (os : Os) (args : Array Value) : laidMetH Tryz.prog Rows.topSplitRow.laid ((World.laidAll Tryz.prog os Rows.topSplitRow.laid).forCall (fun _ _ => 0) ⟨#[], args, []⟩).memory := by
  unfold laidMetH
  rw [show (Rows.topSplitRow.laid.filter fun x => x.2.handleName?.isSome) = [] by rfl]
  exact laidMet_laidAll args (by kernel_rfl) (by kernel_rfl)
theorem b28 (os : Os) (H : Type) (enc : TypeId × Value → H) : ∃ (w : World) (tape : Tape) (i : Input), w.os = os ∧ (w.forCall tape i).Shaped Tryz.prog ∧ i.vars = [] ∧ Input.okWide Tryz.prog (w.forCall tape i) .any w.heap.size 10 i ∧
    ((Rows.topSplitSpec.pre enc Tryz.prog Tryz.f10 Rows.topSplitRow.domain false (w.forCall tape i).memory i.args ∧ laidMetH Tryz.prog Rows.topSplitRow.laid (w.forCall tape i).memory) ∧ sizedMet enc Tryz.prog Tryz.f10 (OpenSpec.ofChange Rows.topSplitSpec) false (w.forCall tape i).memory i.args) ∧
    (({} : Assume).holds Tryz.prog (lone (Frame.enter Tryz.prog 10 i.args .normal) [] (w.forCall tape i))) :=
  ⟨World.laidAll Tryz.prog os Rows.topSplitRow.laid, fun _ _ => 0, ⟨#[], #[.int .i64 0, .int .u8 0], []⟩, World.laidAll_os _ _ _, World.shaped_of_ZipB (by kernel_rfl) (by kernel_rfl), rfl,
    (Input.okWide_of_okWideB (base := (World.laidAll Tryz.prog os Rows.topSplitRow.laid).heap.size) (by kernel_rfl)).2,
    ⟨⟨⟨[.lit (.int .i64 0), .lit (.int .u8 0)], [], [], DataW.Whole_of_whole (fuel := 8) (x := ([.lit (.int .i64 0), .lit (.int .u8 0)], [], [])) (by kernel_rfl), rfl⟩, b29 os _⟩, sizedMet_of_sizedB (fuel := 8) (by kernel_rfl)⟩, by
    simp only [Assume.holds]
    exact ⟨by simp, by simp, fun _ => Modest.zero, by simp, by simp⟩⟩
theorem a8X (os : Os) (started : os.Started) (H : Type) (enc : TypeId × Value → H) :
    ReturnsInHanded {} Tryz.checked os 10 .any (fun w args => (Rows.topSplitSpec.pre enc Tryz.prog Tryz.f10 Rows.topSplitRow.domain false w args ∧ laidMetH Tryz.prog Rows.topSplitRow.laid w) ∧ sizedMet enc Tryz.prog Tryz.f10 (OpenSpec.ofChange Rows.topSplitSpec) false w args)
      (Rows.topSplitSpec.post enc Tryz.prog Tryz.f10 false true false false) := by
  refine c2P (C := Tryz.checked) (s := Rows.topSplitSpec) (us := [e8, U8]) (tb := 4) (Y := fun w _ => laidMetH Tryz.prog Rows.topSplitRow.laid w) (fun _ _ _ hh h => h.of_heap hh) own started (by kernel_rfl) Tryz.func10
    (b28 os H enc) laid (by kernel_rfl) rfl ?_ rfl Tryz.underlying4 a9Q (fun W _ hsh h => c5g hsh h rfl (by simp [Rows.topSplitRow]))
  intro ds hds
  match ds, hds with
  | [_, _], _ => rfl
theorem b75 : (Rows.topSplitRow.wf (OpenSpec.ofChange Rows.topSplitSpec) && Tryz.f10.params.all (Tryz.prog.readableRec ·) && namedTie Tryz.prog Rows.topSplitRow.named Rows.topSplitSpec.vars) = true := by kernel_rfl
theorem b74 : (mapsRowed Tryz.prog) = true := by kernel_rfl
theorem b73 : ((Rows.topSplitRow.stops == []) && (Tryz.prog.stops == []) && (Rows.topSplitRow.knobs == []) && (Tryz.prog.stopKnobs == [])) = true := by kernel_rfl
theorem b72 : ((Rows.topSplitRow.inPlace == Tryz.prog.inPlace 10) && (Rows.topSplitRow.unfollowed == Tryz.prog.unfollowed 10)) = true := by kernel_rfl
theorem b71 : ((Rows.topSplitRow.recurses == Tryz.prog.recurses 10) && (Rows.topSplitRow.named == Tryz.prog.varsNamed 10)) = true := by kernel_rfl
theorem b70 : ((Rows.topSplitRow.maps == (Tryz.f10.params.toList ++ Rows.topSplitSpec.plain.varTypes Tryz.prog).any (Tryz.prog.mapsRec ·)) && (Rows.topSplitRow.ifaces == (Tryz.f10.params.toList ++ Rows.topSplitSpec.plain.varTypes Tryz.prog).any (Tryz.prog.ifacesRec ·)) && (Rows.topSplitRow.mapsOut == Tryz.prog.mapsAmong Tryz.f10.resultTypes.toList) && (Rows.topSplitRow.loops == (Tryz.f10.params.toList ++ Rows.topSplitSpec.plain.varTypes Tryz.prog).any (Tryz.prog.loopsFrom ·)) && (Rows.topSplitRow.wideKeys == (Tryz.f10.params.toList ++ Rows.topSplitSpec.plain.varTypes Tryz.prog ++ Tryz.f10.resultTypes.toList).any (Tryz.prog.wideKeysFrom ·))) = true := by kernel_rfl
theorem b7Z : (Rows.topSplitSpec.vars.all (Tryz.prog.varReadable ·) && Tryz.f10.resultTypes.all (fun t => Tryz.prog.readableRec t && decide (t < Tryz.prog.types.size)) && (Rows.topSplitRow.ifacesOut == Tryz.f10.resultTypes.toList.any (Tryz.prog.ifacesRec ·)) && (Rows.topSplitRow.loopsOut == Tryz.f10.resultTypes.toList.any (Tryz.prog.loopsFrom ·))) = true := by kernel_rfl
theorem b7Y : ((Rows.topSplitRow.plainKeys == Tryz.prog.plainKeys) && Rows.topSplitRow.shortTexts.isNone) = true := by kernel_rfl
theorem b7X : (Tryz.prog.stopsHeard && Tryz.prog.mayEnter) = true := by kernel_rfl
theorem b7W : ((Rows.topSplitRow.lifted == Tryz.prog.liftsFinal)) = true := by kernel_rfl
theorem b7V : ((Tryz.prog.make == some Rows.topSplitRow.make)) = true := by kernel_rfl
theorem b7U : ((Rows.topSplitRow.kinds == (if Rows.topSplitRow.domain.isEmpty then [] else Tryz.f10.params.toList.map fun t => match Tryz.prog.underlying t with | some (.int k) => some k | _ => none)) && (Rows.topSplitRow.pinned == Rows.topSplitRow.pinnedBy) && (Rows.topSplitRow.veiled == (Tryz.f10.params.toList ++ Rows.topSplitSpec.plain.varTypes Tryz.prog ++ Tryz.f10.resultTypes.toList).any (Tryz.prog.veiledRec ·)) && Rows.topSplitRow.veiledFits Tryz.prog Tryz.f10.params.toList (Tryz.f10.params.toList ++ Rows.topSplitSpec.plain.varTypes Tryz.prog ++ Tryz.f10.resultTypes.toList)) = true := by kernel_rfl
theorem a8Y : joinedFacts Tryz.prog 10 Tryz.f10 Rows.topSplitSpec Rows.topSplitRow = true := by
  unfold joinedFacts
  simp only [Bool.and_eq_true]
  have ha := b75
  simp only [Bool.and_eq_true] at ha
  obtain ⟨⟨c1, c4⟩, c5⟩ := ha
  have c3 := b74
  have hd := b73
  simp only [Bool.and_eq_true] at hd
  obtain ⟨⟨⟨c6, c7⟩, c8⟩, c9⟩ := hd
  have he := b72
  simp only [Bool.and_eq_true] at he
  obtain ⟨c10, c11⟩ := he
  have hg := b71
  simp only [Bool.and_eq_true] at hg
  obtain ⟨c12, c13⟩ := hg
  have hh := b70
  simp only [Bool.and_eq_true] at hh
  obtain ⟨⟨⟨⟨c14, c15⟩, c16⟩, c17⟩, c18⟩ := hh
  have hi := b7Z
  simp only [Bool.and_eq_true] at hi
  obtain ⟨⟨⟨c19, c20⟩, c21⟩, c22⟩ := hi
  have hj := b7Y
  simp only [Bool.and_eq_true] at hj
  obtain ⟨c23, c24⟩ := hj
  have hk := b7X
  simp only [Bool.and_eq_true] at hk
  obtain ⟨c25, c26⟩ := hk
  have c27 := b7W
  have c28 := b7V
  have hn := b7U
  simp only [Bool.and_eq_true] at hn
  obtain ⟨⟨⟨c29, c30⟩, c31⟩, c32⟩ := hn
  exact ⟨⟨⟨⟨⟨⟨⟨⟨⟨⟨⟨⟨⟨⟨⟨⟨⟨⟨⟨⟨⟨⟨⟨⟨⟨⟨⟨⟨⟨⟨⟨c1, laid⟩, c3⟩, c4⟩, c5⟩, c6⟩, c7⟩, c8⟩, c9⟩, c10⟩, c11⟩, c12⟩, c13⟩, c14⟩, c15⟩, c16⟩, c17⟩, c18⟩, c19⟩, c20⟩, c21⟩, c22⟩, c23⟩, c24⟩, c25⟩, c26⟩, c27⟩, c28⟩, c29⟩, c30⟩, c31⟩, c32⟩

theorem b2o : Rows.topSplitRow.holds Tryz.pinned (OpenSpec.ofChange Rows.topSplitSpec) :=
  OpenClaim.holds_of_wide 10 Tryz.f10 rfl rfl rfl rfl rfl rfl rfl ⟨rfl, rfl, rfl, rfl, rfl⟩ rfl rfl rfl rfl rfl (by kernel_rfl) Tryz.func10 a8Y
    (of_decide_eq_true (by kernel_rfl)) (by unfold Func.isWrapper; first | (rw [if_pos (by decide +kernel)]; kernel_rfl) | (rw [if_neg (by decide +kernel)]; exact ⟨rfl, rfl⟩))
    (fun os started H enc _ => a8X os started H enc )
theorem topSplit_proved : Rows.TopSplitCardSaid :=
  Claim7.holds_tied_plain_at .later [] [.data, .data, .data, .data, .sentinel, .sentinel, .pinned] true (true, "c9434ef6de60f9d582221c556ace6c0af2080188a2f80eb4dc6e3732ead1fd29") true
    b2o (fun _ h => by cases h) (by kernel_rfl) (fun _ h => by cases h) topSplit_row_tie rfl ⟨rfl, rfl⟩ (by kernel_rfl) rfl
    (fun f fn hf hfn => by
      obtain rfl : f = 10 := Option.some.inj ((show Tryz.prog.funcNamed "partsong/parttop.TopSplit" = some 10 by kernel_rfl).symm.trans hf) |>.symm
      obtain rfl : fn = Tryz.f10 := (Option.some.inj (Tryz.func10.symm.trans hfn)).symm
      exact ⟨by kernel_rfl, fun j t ht => by
        have h : (Tryz.f10.params.toList.all fun t => !Tryz.prog.wantsStandIn t) = true := by kernel_rfl
        have := List.all_eq_true.1 h t (List.mem_of_getElem? (i := j) (by simpa using ht))
        exact (show Tryz.prog.wantsStandIn t = false by simpa using this)⟩)
    (by kernel_rfl)
#print axioms topSplit_proved
end Go.Proofs.YtijlnmgondibnaaGreatDoor
