/- WorldEnds returns true whatever its arguments, and its arguments read as before: the card. No other condition. -/
import Derived.Test.YtijlnmgondibnaaGreatDoorCards
import Derived.Test.YtijlnmgondibnaaGreatDoorTie
import Derived.Test.YtijlnmgondibnaaGreatDoorJ1
import Derived.Test.YtijlnmgondibnaaGreatDoorJ4
import Derived.Lay
import Derived.SevenTiedAt
set_option linter.unusedVariables false
set_option linter.unusedSimpArgs false
set_option linter.unusedSectionVars false
namespace Go.Proofs.YtijlnmgondibnaaGreatDoor
open Go.Ex Go.ChangeShapes Go.WideShapes Go.ChangeAt Go.RowKit
set_option maxRecDepth 100000
theorem b5o (os : Os) (args : Array Value) : laidMetH Tryz.prog Rows.worldEndsRow.laid ((World.laidAll Tryz.prog os Rows.worldEndsRow.laid).forCall (fun _ _ => 0) ⟨#[], args, []⟩).memory := by
  unfold laidMetH
  rw [show (Rows.worldEndsRow.laid.filter fun x => x.2.handleName?.isSome) = [] by rfl]
  exact laidMet_laidAll args (by kernel_rfl) (by kernel_rfl)
theorem b5n (os : Os) (H : Type) (enc : TypeId × Value → H) : ∃ (w : World) (tape : Tape) (i : Input), w.os = os ∧ (w.forCall tape i).Shaped Tryz.prog ∧ i.vars = [] ∧ Input.okWide Tryz.prog (w.forCall tape i) .any w.heap.size 5 i ∧
    ((Rows.worldEndsSpec.pre enc Tryz.prog Tryz.f5 Rows.worldEndsRow.domain false (w.forCall tape i).memory i.args ∧ laidMetH Tryz.prog Rows.worldEndsRow.laid (w.forCall tape i).memory) ∧ sizedMet enc Tryz.prog Tryz.f5 (OpenSpec.ofChange Rows.worldEndsSpec) false (w.forCall tape i).memory i.args) ∧
    (({} : Assume).holds Tryz.prog (lone (Frame.enter Tryz.prog 5 i.args .normal) [] (w.forCall tape i))) :=
  ⟨World.laidAll Tryz.prog os Rows.worldEndsRow.laid, fun _ _ => 0, ⟨#[], #[.int .i64 0, .slice none 0 0], []⟩, World.laidAll_os _ _ _, World.shaped_of_ZipB (by kernel_rfl) (by kernel_rfl), rfl,
    (Input.okWide_of_okWideB (base := (World.laidAll Tryz.prog os Rows.worldEndsRow.laid).heap.size) (by kernel_rfl)).2,
    ⟨⟨⟨[.lit (.int .i64 0), .nil], [], [], DataW.Whole_of_whole (fuel := 8) (x := ([.lit (.int .i64 0), .nil], [], [])) (by kernel_rfl), rfl⟩, b5o os _⟩, sizedMet_of_sizedB (fuel := 8) (by kernel_rfl)⟩, by
    simp only [Assume.holds]
    exact ⟨by simp, by simp, fun _ => Modest.zero, by simp, by simp⟩⟩
theorem b0i (os : Os) (started : os.Started) (H : Type) (enc : TypeId × Value → H) :
    ReturnsInHanded {} Tryz.checked os 5 .any (fun w args => (Rows.worldEndsSpec.pre enc Tryz.prog Tryz.f5 Rows.worldEndsRow.domain false w args ∧ laidMetH Tryz.prog Rows.worldEndsRow.laid w) ∧ sizedMet enc Tryz.prog Tryz.f5 (OpenSpec.ofChange Rows.worldEndsSpec) false w args)
      (Rows.worldEndsSpec.post enc Tryz.prog Tryz.f5 false true false false) := by
  refine ZE (C := Tryz.checked) (s := Rows.worldEndsSpec) (us := [f7, .d0 false xo]) (tb := 4) (Y := fun w _ => laidMetH Tryz.prog Rows.worldEndsRow.laid w) (fun _ _ _ hh h => h.of_heap hh) own started (by kernel_rfl) Tryz.func5
    (b5n os H enc) laid (by kernel_rfl) rfl ?_ rfl Tryz.underlying4 b0S (fun W _ cj h => XF cj h rfl (by simp [Rows.worldEndsRow]))
  intro ds tT
  match ds, tT with
  | [_, _], _ => rfl
theorem b8H : (Rows.worldEndsRow.wf (OpenSpec.ofChange Rows.worldEndsSpec) && Tryz.f5.params.all (Tryz.prog.readableRec ·) && namedTie Tryz.prog Rows.worldEndsRow.named Rows.worldEndsSpec.vars) = true := by kernel_rfl
theorem b8G : (mapsRowed Tryz.prog) = true := by kernel_rfl
theorem b8F : ((Rows.worldEndsRow.stops == []) && (Tryz.prog.stops == []) && (Rows.worldEndsRow.knobs == []) && (Tryz.prog.stopKnobs == [])) = true := by kernel_rfl
theorem b8E : ((Rows.worldEndsRow.inPlace == Tryz.prog.inPlace 5) && (Rows.worldEndsRow.unfollowed == Tryz.prog.unfollowed 5)) = true := by kernel_rfl
theorem b8D : ((Rows.worldEndsRow.recurses == Tryz.prog.recurses 5) && (Rows.worldEndsRow.named == Tryz.prog.varsNamed 5)) = true := by kernel_rfl
theorem b8C : ((Rows.worldEndsRow.maps == (Tryz.f5.params.toList ++ Rows.worldEndsSpec.plain.varTypes Tryz.prog).any (Tryz.prog.mapsRec ·)) && (Rows.worldEndsRow.ifaces == (Tryz.f5.params.toList ++ Rows.worldEndsSpec.plain.varTypes Tryz.prog).any (Tryz.prog.ifacesRec ·)) && (Rows.worldEndsRow.mapsOut == Tryz.prog.mapsAmong Tryz.f5.resultTypes.toList) && (Rows.worldEndsRow.loops == (Tryz.f5.params.toList ++ Rows.worldEndsSpec.plain.varTypes Tryz.prog).any (Tryz.prog.loopsFrom ·)) && (Rows.worldEndsRow.wideKeys == (Tryz.f5.params.toList ++ Rows.worldEndsSpec.plain.varTypes Tryz.prog ++ Tryz.f5.resultTypes.toList).any (Tryz.prog.wideKeysFrom ·))) = true := by kernel_rfl
theorem b8B : (Rows.worldEndsSpec.vars.all (Tryz.prog.varReadable ·) && Tryz.f5.resultTypes.all (fun t => Tryz.prog.readableRec t && decide (t < Tryz.prog.types.size)) && (Rows.worldEndsRow.ifacesOut == Tryz.f5.resultTypes.toList.any (Tryz.prog.ifacesRec ·)) && (Rows.worldEndsRow.loopsOut == Tryz.f5.resultTypes.toList.any (Tryz.prog.loopsFrom ·))) = true := by kernel_rfl
theorem b8A : ((Rows.worldEndsRow.plainKeys == Tryz.prog.plainKeys) && Rows.worldEndsRow.shortTexts.isNone) = true := by kernel_rfl
theorem b8z : (Tryz.prog.stopsHeard && Tryz.prog.mayEnter) = true := by kernel_rfl
theorem b8y : ((Rows.worldEndsRow.lifted == Tryz.prog.liftsFinal)) = true := by kernel_rfl
theorem b8x : ((Tryz.prog.make == some Rows.worldEndsRow.make)) = true := by kernel_rfl
theorem b8w : ((Rows.worldEndsRow.kinds == (if Rows.worldEndsRow.domain.isEmpty then [] else Tryz.f5.params.toList.map fun t => match Tryz.prog.underlying t with | some (.int k) => some k | _ => none)) && (Rows.worldEndsRow.pinned == Rows.worldEndsRow.pinnedBy) && (Rows.worldEndsRow.veiled == (Tryz.f5.params.toList ++ Rows.worldEndsSpec.plain.varTypes Tryz.prog ++ Tryz.f5.resultTypes.toList).any (Tryz.prog.veiledRec ·)) && Rows.worldEndsRow.veiledFits Tryz.prog Tryz.f5.params.toList (Tryz.f5.params.toList ++ Rows.worldEndsSpec.plain.varTypes Tryz.prog ++ Tryz.f5.resultTypes.toList)) = true := by kernel_rfl
theorem b0j : joinedFacts Tryz.prog 5 Tryz.f5 Rows.worldEndsSpec Rows.worldEndsRow = true := by
  unfold joinedFacts
  simp only [Bool.and_eq_true]
  have ha := b8H
  simp only [Bool.and_eq_true] at ha
  obtain ⟨⟨c1, c4⟩, c5⟩ := ha
  have c3 := b8G
  have hd := b8F
  simp only [Bool.and_eq_true] at hd
  obtain ⟨⟨⟨c6, c7⟩, c8⟩, c9⟩ := hd
  have he := b8E
  simp only [Bool.and_eq_true] at he
  obtain ⟨c10, c11⟩ := he
  have hg := b8D
  simp only [Bool.and_eq_true] at hg
  obtain ⟨c12, c13⟩ := hg
  have hh := b8C
  simp only [Bool.and_eq_true] at hh
  obtain ⟨⟨⟨⟨c14, c15⟩, c16⟩, c17⟩, c18⟩ := hh
  have hi := b8B
  simp only [Bool.and_eq_true] at hi
  obtain ⟨⟨⟨c19, c20⟩, c21⟩, c22⟩ := hi
  have hj := b8A
  simp only [Bool.and_eq_true] at hj
  obtain ⟨c23, c24⟩ := hj
  have hk := b8z
  simp only [Bool.and_eq_true] at hk
  obtain ⟨c25, c26⟩ := hk
  have c27 := b8y
  have c28 := b8x
  have hn := b8w
  simp only [Bool.and_eq_true] at hn
  obtain ⟨⟨⟨c29, c30⟩, c31⟩, c32⟩ := hn
  exact ⟨⟨⟨⟨⟨⟨⟨⟨⟨⟨⟨⟨⟨⟨⟨⟨⟨⟨⟨⟨⟨⟨⟨⟨⟨⟨⟨⟨⟨⟨⟨c1, laid⟩, c3⟩, c4⟩, c5⟩, c6⟩, c7⟩, c8⟩, c9⟩, c10⟩, c11⟩, c12⟩, c13⟩, c14⟩, c15⟩, c16⟩, c17⟩, c18⟩, c19⟩, c20⟩, c21⟩, c22⟩, c23⟩, c24⟩, c25⟩, c26⟩, c27⟩, c28⟩, c29⟩, c30⟩, c31⟩, c32⟩

theorem b2U : Rows.worldEndsRow.holds Tryz.pinned (OpenSpec.ofChange Rows.worldEndsSpec) :=
  OpenClaim.holds_of_wide 5 Tryz.f5 rfl rfl rfl rfl rfl rfl rfl ⟨rfl, rfl, rfl, rfl, rfl⟩ rfl rfl rfl rfl rfl (by kernel_rfl) Tryz.func5 b0j
    (of_decide_eq_true (by kernel_rfl)) (by unfold Func.isWrapper; first | (rw [if_pos (by decide +kernel)]; kernel_rfl) | (rw [if_neg (by decide +kernel)]; exact ⟨rfl, rfl⟩))
    (fun os started H enc _ => b0i os started H enc )
theorem worldEnds_proved : Rows.WorldEndsCardSaid :=
  Claim7.holds_tied_plain_at .later [] [.data, .data, .data, .sentinel, .sentinel] true (true, "c9434ef6de60f9d582221c556ace6c0af2080188a2f80eb4dc6e3732ead1fd29") true
    b2U (fun _ h => by cases h) (by kernel_rfl) (fun _ h => by cases h) worldEnds_row_tie rfl ⟨rfl, rfl⟩ (by kernel_rfl) rfl
    (fun f fn hf jW => by
      obtain rfl : f = 5 := Option.some.inj ((show Tryz.prog.funcNamed "partsong/partkeep.WorldEnds" = some 5 by kernel_rfl).symm.trans hf) |>.symm
      obtain rfl : fn = Tryz.f5 := (Option.some.inj (Tryz.func5.symm.trans jW)).symm
      exact ⟨by kernel_rfl, fun j t ht => by
        have h : (Tryz.f5.params.toList.all fun t => !Tryz.prog.wantsStandIn t) = true := by kernel_rfl
        have := List.all_eq_true.1 h t (List.mem_of_getElem? (i := j) (by simpa using ht))
        exact (show Tryz.prog.wantsStandIn t = false by simpa using this)⟩)
    (by kernel_rfl)
#print axioms worldEnds_proved
end Go.Proofs.YtijlnmgondibnaaGreatDoor
