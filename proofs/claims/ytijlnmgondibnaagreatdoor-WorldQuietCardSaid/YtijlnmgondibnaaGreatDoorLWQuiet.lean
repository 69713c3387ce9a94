/- WorldQuiet returns true whatever its arguments, and its arguments read as before: the card. No other condition. -/
import Derived.Test.YtijlnmgondibnaaGreatDoorCards
import Derived.Test.YtijlnmgondibnaaGreatDoorTie
import Derived.Test.YtijlnmgondibnaaGreatDoorJ1
import Derived.Test.YtijlnmgondibnaaGreatDoorJ3
import Derived.Lay
import Derived.SevenTiedAt
set_option linter.unusedVariables false
set_option linter.unusedSimpArgs false
set_option linter.unusedSectionVars false
namespace Go.Proofs.YtijlnmgondibnaaGreatDoor
open Go.Ex Go.ChangeShapes Go.WideShapes Go.ChangeAt Go.RowKit
set_option maxRecDepth 100000
theorem b1F (os : Os) (args : Array Value) : laidMetH Tryz.prog Rows.worldQuietRow.laid ((World.laidAll Tryz.prog os Rows.worldQuietRow.laid).forCall (fun _ _ => 0) ⟨#[], args, []⟩).memory := by
  unfold laidMetH
  rw [show (Rows.worldQuietRow.laid.filter fun x => x.2.handleName?.isSome) = [] by rfl]
  exact laidMet_laidAll args (by kernel_rfl) (by kernel_rfl)
theorem b1E (os : Os) (H : Type) (enc : TypeId × Value → H) : ∃ (w : World) (tape : Tape) (i : Input), w.os = os ∧ (w.forCall tape i).Shaped Tryz.prog ∧ i.vars = [] ∧ Input.okWide Tryz.prog (w.forCall tape i) .any w.heap.size 9 i ∧
    ((Rows.worldQuietSpec.pre enc Tryz.prog Tryz.f9 Rows.worldQuietRow.domain false (w.forCall tape i).memory i.args ∧ laidMetH Tryz.prog Rows.worldQuietRow.laid (w.forCall tape i).memory) ∧ sizedMet enc Tryz.prog Tryz.f9 (OpenSpec.ofChange Rows.worldQuietSpec) false (w.forCall tape i).memory i.args) ∧
    (({} : Assume).holds Tryz.prog (lone (Frame.enter Tryz.prog 9 i.args .normal) [] (w.forCall tape i))) :=
  ⟨World.laidAll Tryz.prog os Rows.worldQuietRow.laid, fun _ _ => 0, ⟨#[], #[.int .i64 0, .slice none 0 0], []⟩, World.laidAll_os _ _ _, World.shaped_of_ZipB (by kernel_rfl) (by kernel_rfl), rfl,
    (Input.okWide_of_okWideB (base := (World.laidAll Tryz.prog os Rows.worldQuietRow.laid).heap.size) (by kernel_rfl)).2,
    ⟨⟨⟨[.lit (.int .i64 0), .nil], [], [], DataW.Whole_of_whole (fuel := 8) (x := ([.lit (.int .i64 0), .nil], [], [])) (by kernel_rfl), rfl⟩, b1F os _⟩, sizedMet_of_sizedB (fuel := 8) (by kernel_rfl)⟩, by
    simp only [Assume.holds]
    exact ⟨by simp, by simp, fun _ => Modest.zero, by simp, by simp⟩⟩
theorem a8I (os : Os) (started : os.Started) (H : Type) (enc : TypeId × Value → H) :
    ReturnsInHanded {} Tryz.checked os 9 .any (fun w args => (Rows.worldQuietSpec.pre enc Tryz.prog Tryz.f9 Rows.worldQuietRow.domain false w args ∧ laidMetH Tryz.prog Rows.worldQuietRow.laid w) ∧ sizedMet enc Tryz.prog Tryz.f9 (OpenSpec.ofChange Rows.worldQuietSpec) false w args)
      (Rows.worldQuietSpec.post enc Tryz.prog Tryz.f9 false true false false) := by
  refine Yx (C := Tryz.checked) (s := Rows.worldQuietSpec) (us := [e8, .d0 false .str]) (tb := 4) (Y := fun w _ => laidMetH Tryz.prog Rows.worldQuietRow.laid w) (fun _ _ _ hh h => h.of_heap hh) own started (by kernel_rfl) Tryz.func9
    (b1E os H enc) laid (by kernel_rfl) rfl ?_ rfl Tryz.underlying4 a8K (fun W _ bZ h => Vk bZ h rfl (by simp [Rows.worldQuietRow]))
  intro ds sW
  match ds, sW with
  | [_, _], _ => rfl
theorem b46 : (Rows.worldQuietRow.wf (OpenSpec.ofChange Rows.worldQuietSpec) && Tryz.f9.params.all (Tryz.prog.readableRec ·) && namedTie Tryz.prog Rows.worldQuietRow.named Rows.worldQuietSpec.vars) = true := by kernel_rfl
theorem b45 : (mapsRowed Tryz.prog) = true := by kernel_rfl
theorem b44 : ((Rows.worldQuietRow.stops == []) && (Tryz.prog.stops == []) && (Rows.worldQuietRow.knobs == []) && (Tryz.prog.stopKnobs == [])) = true := by kernel_rfl
theorem b43 : ((Rows.worldQuietRow.inPlace == Tryz.prog.inPlace 9) && (Rows.worldQuietRow.unfollowed == Tryz.prog.unfollowed 9)) = true := by kernel_rfl
theorem b42 : ((Rows.worldQuietRow.recurses == Tryz.prog.recurses 9) && (Rows.worldQuietRow.named == Tryz.prog.varsNamed 9)) = true := by kernel_rfl
theorem b41 : ((Rows.worldQuietRow.maps == (Tryz.f9.params.toList ++ Rows.worldQuietSpec.plain.varTypes Tryz.prog).any (Tryz.prog.mapsRec ·)) && (Rows.worldQuietRow.ifaces == (Tryz.f9.params.toList ++ Rows.worldQuietSpec.plain.varTypes Tryz.prog).any (Tryz.prog.ifacesRec ·)) && (Rows.worldQuietRow.mapsOut == Tryz.prog.mapsAmong Tryz.f9.resultTypes.toList) && (Rows.worldQuietRow.loops == (Tryz.f9.params.toList ++ Rows.worldQuietSpec.plain.varTypes Tryz.prog).any (Tryz.prog.loopsFrom ·)) && (Rows.worldQuietRow.wideKeys == (Tryz.f9.params.toList ++ Rows.worldQuietSpec.plain.varTypes Tryz.prog ++ Tryz.f9.resultTypes.toList).any (Tryz.prog.wideKeysFrom ·))) = true := by kernel_rfl
theorem b40 : (Rows.worldQuietSpec.vars.all (Tryz.prog.varReadable ·) && Tryz.f9.resultTypes.all (fun t => Tryz.prog.readableRec t && decide (t < Tryz.prog.types.size)) && (Rows.worldQuietRow.ifacesOut == Tryz.f9.resultTypes.toList.any (Tryz.prog.ifacesRec ·)) && (Rows.worldQuietRow.loopsOut == Tryz.f9.resultTypes.toList.any (Tryz.prog.loopsFrom ·))) = true := by kernel_rfl
theorem b4Z : ((Rows.worldQuietRow.plainKeys == Tryz.prog.plainKeys) && Rows.worldQuietRow.shortTexts.isNone) = true := by kernel_rfl
theorem b4Y : (Tryz.prog.stopsHeard && Tryz.prog.mayEnter) = true := by kernel_rfl
theorem b4X : ((Rows.worldQuietRow.lifted == Tryz.prog.liftsFinal)) = true := by kernel_rfl
theorem b4W : ((Tryz.prog.make == some Rows.worldQuietRow.make)) = true := by kernel_rfl
theorem b4V : ((Rows.worldQuietRow.kinds == (if Rows.worldQuietRow.domain.isEmpty then [] else Tryz.f9.params.toList.map fun t => match Tryz.prog.underlying t with | some (.int k) => some k | _ => none)) && (Rows.worldQuietRow.pinned == Rows.worldQuietRow.pinnedBy) && (Rows.worldQuietRow.veiled == (Tryz.f9.params.toList ++ Rows.worldQuietSpec.plain.varTypes Tryz.prog ++ Tryz.f9.resultTypes.toList).any (Tryz.prog.veiledRec ·)) && Rows.worldQuietRow.veiledFits Tryz.prog Tryz.f9.params.toList (Tryz.f9.params.toList ++ Rows.worldQuietSpec.plain.varTypes Tryz.prog ++ Tryz.f9.resultTypes.toList)) = true := by kernel_rfl
theorem a8J : joinedFacts Tryz.prog 9 Tryz.f9 Rows.worldQuietSpec Rows.worldQuietRow = true := by
  unfold joinedFacts
  simp only [Bool.and_eq_true]
  have ha := b46
  simp only [Bool.and_eq_true] at ha
  obtain ⟨⟨c1, c4⟩, c5⟩ := ha
  have c3 := b45
  have hd := b44
  simp only [Bool.and_eq_true] at hd
  obtain ⟨⟨⟨c6, c7⟩, c8⟩, c9⟩ := hd
  have he := b43
  simp only [Bool.and_eq_true] at he
  obtain ⟨c10, c11⟩ := he
  have hg := b42
  simp only [Bool.and_eq_true] at hg
  obtain ⟨c12, c13⟩ := hg
  have hh := b41
  simp only [Bool.and_eq_true] at hh
  obtain ⟨⟨⟨⟨c14, c15⟩, c16⟩, c17⟩, c18⟩ := hh
  have hi := b40
  simp only [Bool.and_eq_true] at hi
  obtain ⟨⟨⟨c19, ZU⟩, ZT⟩, ZS⟩ := hi
  have hj := b4Z
  simp only [Bool.and_eq_true] at hj
  obtain ⟨ZR, ZQ⟩ := hj
  have hk := b4Y
  simp only [Bool.and_eq_true] at hk
  obtain ⟨ZP, ZO⟩ := hk
  have ZN := b4X
  have ZM := b4W
  have hn := b4V
  simp only [Bool.and_eq_true] at hn
  obtain ⟨⟨⟨ZL, Zn⟩, Zm⟩, Zl⟩ := hn
  exact ⟨⟨⟨⟨⟨⟨⟨⟨⟨⟨⟨⟨⟨⟨⟨⟨⟨⟨⟨⟨⟨⟨⟨⟨⟨⟨⟨⟨⟨⟨⟨c1, laid⟩, c3⟩, c4⟩, c5⟩, c6⟩, c7⟩, c8⟩, c9⟩, c10⟩, c11⟩, c12⟩, c13⟩, c14⟩, c15⟩, c16⟩, c17⟩, c18⟩, c19⟩, ZU⟩, ZT⟩, ZS⟩, ZR⟩, ZQ⟩, ZP⟩, ZO⟩, ZN⟩, ZM⟩, ZL⟩, Zn⟩, Zm⟩, Zl⟩

theorem b0e : Rows.worldQuietRow.holds Tryz.pinned (OpenSpec.ofChange Rows.worldQuietSpec) :=
  OpenClaim.holds_of_wide 9 Tryz.f9 rfl rfl rfl rfl rfl rfl rfl ⟨rfl, rfl, rfl, rfl, rfl⟩ rfl rfl rfl rfl rfl (by kernel_rfl) Tryz.func9 a8J
    (of_decide_eq_true (by kernel_rfl)) (by unfold Func.isWrapper; first | (rw [if_pos (by decide +kernel)]; kernel_rfl) | (rw [if_neg (by decide +kernel)]; exact ⟨rfl, rfl⟩))
    (fun os started H enc _ => a8I os started H enc )
theorem worldQuiet_proved : Rows.WorldQuietCardSaid :=
  Claim7.holds_tied_plain_at .later [] [.data, .data, .data, .data, .sentinel, .sentinel, .pinned] true (true, "c9434ef6de60f9d582221c556ace6c0af2080188a2f80eb4dc6e3732ead1fd29") true
    b0e (fun _ h => by cases h) (by kernel_rfl) (fun _ h => by cases h) worldQuiet_row_tie rfl ⟨rfl, rfl⟩ (by kernel_rfl) rfl
    (fun f fn hf ju => by
      obtain rfl : f = 9 := Option.some.inj ((show Tryz.prog.funcNamed "partsong/partkeep.WorldQuiet" = some 9 by kernel_rfl).symm.trans hf) |>.symm
      obtain rfl : fn = Tryz.f9 := (Option.some.inj (Tryz.func9.symm.trans ju)).symm
      exact ⟨by kernel_rfl, fun j t ht => by
        have h : (Tryz.f9.params.toList.all fun t => !Tryz.prog.wantsStandIn t) = true := by kernel_rfl
        have := List.all_eq_true.1 h t (List.mem_of_getElem? (i := j) (by simpa using ht))
        exact (show Tryz.prog.wantsStandIn t = false by simpa using this)⟩)
    (by kernel_rfl)
#print axioms worldQuiet_proved
end Go.Proofs.YtijlnmgondibnaaGreatDoor
