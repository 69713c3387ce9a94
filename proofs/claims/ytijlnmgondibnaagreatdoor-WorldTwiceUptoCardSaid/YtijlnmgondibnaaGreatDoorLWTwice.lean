/- WorldTwice returns true whatever its arguments, and its arguments read as before, where what it reads is of bulk at most 1048576: the card. No other condition. -/
import Derived.Test.YtijlnmgondibnaaGreatDoorCards
import Derived.Test.YtijlnmgondibnaaGreatDoorTie
import Derived.Test.YtijlnmgondibnaaGreatDoorJ1
import Derived.Test.YtijlnmgondibnaaGreatDoorJ3
import Derived.Lay
import Derived.SevenTiedAt
set_option linter.unusedVariables false
set_option linter.unusedSimpArgs false
set_option linter.unusedSectionVars false
namespace Go.Proofs.YtijlnmgondibnaaGreatDoor
open Go.Ex Go.ChangeShapes Go.WideShapes Go.ChangeAt Go.RowKit
set_option maxRecDepth 100000
mutual
theorem ubd {H : Type} : ∀ d : DataW H, Rows.uptoBulk d = K6 d
  | .lit l => by cases l <;> simp [Rows.uptoBulk, K6]
  | .nil => by simp [Rows.uptoBulk, K6]
  | .ptr d => by simp [Rows.uptoBulk, K6, ubd d]
  | .slice a b => by simp [Rows.uptoBulk, K6, BC a, BC b]
  | .agg a => by simp [Rows.uptoBulk, K6, BC a]
  | .iface _ d => by simp [Rows.uptoBulk, K6, ubd d]
  | .map e => by simp [Rows.uptoBulk, K6, SC e]
  | .held _ => by simp [Rows.uptoBulk, K6]
theorem BC {H : Type} : ∀ l : List (DataW H), Rows.uptoBulkAll l = U9 l
  | [] => by simp [Rows.uptoBulkAll, U9]
  | d :: r => by simp [Rows.uptoBulkAll, U9, ubd d, BC r]
theorem SC {H : Type} : ∀ l : List (Lit × DataW H), Rows.uptoBulkEntries l = CM l
  | [] => by simp [Rows.uptoBulkEntries, CM]
  | x :: r => by simp [Rows.uptoBulkEntries, CM, XE x, SC r]
theorem XE {H : Type} : ∀ x : Lit × DataW H, Rows.uptoBulkEntry x = KN x
  | (l, d) => by cases l <;> simp [Rows.uptoBulkEntry, KN, ubd d]
end
theorem b2l (os : Os) (args : Array Value) : laidMetH Tryz.prog Rows.worldTwiceUptoRow.laid ((World.laidAll Tryz.prog os Rows.worldTwiceUptoRow.laid).forCall (fun _ _ => 0) ⟨#[], args, []⟩).memory := by
  unfold laidMetH
  rw [show (Rows.worldTwiceUptoRow.laid.filter fun x => x.2.handleName?.isSome) = [] by rfl]
  exact laidMet_laidAll args (by kernel_rfl) (by kernel_rfl)
theorem b2k (os : Os) (H : Type) (enc : TypeId × Value → H) : ∃ (w : World) (tape : Tape) (i : Input), w.os = os ∧ (w.forCall tape i).Shaped Tryz.prog ∧ i.vars = [] ∧ Input.okWide Tryz.prog (w.forCall tape i) .any w.heap.size 3 i ∧
    (((Rows.OpenSpec.upto Rows.worldTwiceSpec).pre enc Tryz.prog Tryz.f3 Rows.worldTwiceUptoRow.domain false (w.forCall tape i).memory i.args ∧ laidMetH Tryz.prog Rows.worldTwiceUptoRow.laid (w.forCall tape i).memory) ∧ sizedMet enc Tryz.prog Tryz.f3 (Rows.OpenSpec.upto Rows.worldTwiceSpec) false (w.forCall tape i).memory i.args) ∧
    (({} : Assume).holds Tryz.prog (lone (Frame.enter Tryz.prog 3 i.args .normal) [] (w.forCall tape i))) :=
  ⟨World.laidAll Tryz.prog os Rows.worldTwiceUptoRow.laid, fun _ _ => 0, ⟨#[], #[.int .i64 0, .slice none 0 0], []⟩, World.laidAll_os _ _ _, World.shaped_of_ZipB (by kernel_rfl) (by kernel_rfl), rfl,
    (Input.okWide_of_okWideB (base := (World.laidAll Tryz.prog os Rows.worldTwiceUptoRow.laid).heap.size) (by kernel_rfl)).2,
    ⟨⟨(OpenSpec.pre_some rfl _ _ _ _).2 ⟨[.lit (.int .i64 0), .nil], [], [], DataW.Whole_of_whole (fuel := 8) (x := ([.lit (.int .i64 0), .nil], [], [])) (by kernel_rfl), rfl, by kernel_rfl⟩, b2l os _⟩, sizedMet_of_sizedB (fuel := 8) (by kernel_rfl)⟩, by
    simp only [Assume.holds]
    exact ⟨by simp, by simp, fun _ => Modest.zero, by simp, by simp⟩⟩
theorem a9d (os : Os) (started : os.Started) (H : Type) (enc : TypeId × Value → H) (F : Stop.Interp) :
    ReturnsInHanded {} Tryz.checked os 3 .any (fun w args => ((Rows.OpenSpec.upto Rows.worldTwiceSpec).pre enc Tryz.prog Tryz.f3 Rows.worldTwiceUptoRow.domain false w args ∧ laidMetH Tryz.prog Rows.worldTwiceUptoRow.laid w) ∧ sizedMet enc Tryz.prog Tryz.f3 (Rows.OpenSpec.upto Rows.worldTwiceSpec) false w args)
      (((Rows.OpenSpec.upto Rows.worldTwiceSpec).at F).post enc Tryz.prog Tryz.f3 false true false false) := by
  refine YC (C := Tryz.checked) (s := (Rows.OpenSpec.upto Rows.worldTwiceSpec)) (k := Rows.uptoSmall) rfl (us := [f7, .d8 false .str]) (tb := 4) (Y := fun w _ => laidMetH Tryz.prog Rows.worldTwiceUptoRow.laid w) (fun _ _ _ hh h => h.of_heap hh) own started (by kernel_rfl) Tryz.func3
    (b2k os H enc) (fun ds h => BC ds ▸ of_decide_eq_true h) laid (by kernel_rfl) rfl ?_ rfl Tryz.underlying4 a9f (fun W _ ch h => Wm ch h rfl (by simp [Rows.worldTwiceUptoRow]))
  intro ds tC
  match ds, tC with
  | [_, _], _ => rfl
theorem b5v : (Rows.worldTwiceUptoRow.wf (OpenSpec.ofChange (Rows.OpenSpec.upto Rows.worldTwiceSpec).bare) && Tryz.f3.params.all (Tryz.prog.readableRec ·) && namedTie Tryz.prog Rows.worldTwiceUptoRow.named (Rows.OpenSpec.upto Rows.worldTwiceSpec).bare.vars) = true := by kernel_rfl
theorem b5u : (mapsRowed Tryz.prog) = true := by kernel_rfl
theorem b5t : ((Rows.worldTwiceUptoRow.stops == []) && (Tryz.prog.stops == []) && (Rows.worldTwiceUptoRow.knobs == []) && (Tryz.prog.stopKnobs == [])) = true := by kernel_rfl
theorem b5s : ((Rows.worldTwiceUptoRow.inPlace == Tryz.prog.inPlace 3) && (Rows.worldTwiceUptoRow.unfollowed == Tryz.prog.unfollowed 3)) = true := by kernel_rfl
theorem b5r : ((Rows.worldTwiceUptoRow.recurses == Tryz.prog.recurses 3) && (Rows.worldTwiceUptoRow.named == Tryz.prog.varsNamed 3)) = true := by kernel_rfl
theorem b5q : ((Rows.worldTwiceUptoRow.maps == (Tryz.f3.params.toList ++ (Rows.OpenSpec.upto Rows.worldTwiceSpec).bare.plain.varTypes Tryz.prog).any (Tryz.prog.mapsRec ·)) && (Rows.worldTwiceUptoRow.ifaces == (Tryz.f3.params.toList ++ (Rows.OpenSpec.upto Rows.worldTwiceSpec).bare.plain.varTypes Tryz.prog).any (Tryz.prog.ifacesRec ·)) && (Rows.worldTwiceUptoRow.mapsOut == Tryz.prog.mapsAmong Tryz.f3.resultTypes.toList) && (Rows.worldTwiceUptoRow.loops == (Tryz.f3.params.toList ++ (Rows.OpenSpec.upto Rows.worldTwiceSpec).bare.plain.varTypes Tryz.prog).any (Tryz.prog.loopsFrom ·)) && (Rows.worldTwiceUptoRow.wideKeys == (Tryz.f3.params.toList ++ (Rows.OpenSpec.upto Rows.worldTwiceSpec).bare.plain.varTypes Tryz.prog ++ Tryz.f3.resultTypes.toList).any (Tryz.prog.wideKeysFrom ·))) = true := by kernel_rfl
theorem b5p : ((Rows.OpenSpec.upto Rows.worldTwiceSpec).bare.vars.all (Tryz.prog.varReadable ·) && Tryz.f3.resultTypes.all (fun t => Tryz.prog.readableRec t && decide (t < Tryz.prog.types.size)) && (Rows.worldTwiceUptoRow.ifacesOut == Tryz.f3.resultTypes.toList.any (Tryz.prog.ifacesRec ·)) && (Rows.worldTwiceUptoRow.loopsOut == Tryz.f3.resultTypes.toList.any (Tryz.prog.loopsFrom ·))) = true := by kernel_rfl
theorem b5o : ((Rows.worldTwiceUptoRow.plainKeys == Tryz.prog.plainKeys) && Rows.worldTwiceUptoRow.shortTexts.isNone) = true := by kernel_rfl
theorem b5n : (Tryz.prog.stopsHeard && Tryz.prog.mayEnter) = true := by kernel_rfl
theorem b5m : ((Rows.worldTwiceUptoRow.lifted == Tryz.prog.liftsFinal)) = true := by kernel_rfl
theorem b5l : ((Tryz.prog.make == some Rows.worldTwiceUptoRow.make)) = true := by kernel_rfl
theorem b5k : ((Rows.worldTwiceUptoRow.kinds == (if Rows.worldTwiceUptoRow.domain.isEmpty then [] else Tryz.f3.params.toList.map fun t => match Tryz.prog.underlying t with | some (.int k) => some k | _ => none)) && (Rows.worldTwiceUptoRow.pinned == Rows.worldTwiceUptoRow.pinnedBy) && (Rows.worldTwiceUptoRow.veiled == (Tryz.f3.params.toList ++ (Rows.OpenSpec.upto Rows.worldTwiceSpec).bare.plain.varTypes Tryz.prog ++ Tryz.f3.resultTypes.toList).any (Tryz.prog.veiledRec ·)) && Rows.worldTwiceUptoRow.veiledFits Tryz.prog Tryz.f3.params.toList (Tryz.f3.params.toList ++ (Rows.OpenSpec.upto Rows.worldTwiceSpec).bare.plain.varTypes Tryz.prog ++ Tryz.f3.resultTypes.toList)) = true := by kernel_rfl
theorem a9e : joinedFacts Tryz.prog 3 Tryz.f3 (Rows.OpenSpec.upto Rows.worldTwiceSpec).bare Rows.worldTwiceUptoRow = true := by
  unfold joinedFacts
  simp only [Bool.and_eq_true]
  have ha := b5v
  simp only [Bool.and_eq_true] at ha
  obtain ⟨⟨c1, c4⟩, c5⟩ := ha
  have c3 := b5u
  have hd := b5t
  simp only [Bool.and_eq_true] at hd
  obtain ⟨⟨⟨c6, c7⟩, c8⟩, c9⟩ := hd
  have he := b5s
  simp only [Bool.and_eq_true] at he
  obtain ⟨c10, c11⟩ := he
  have hg := b5r
  simp only [Bool.and_eq_true] at hg
  obtain ⟨c12, c13⟩ := hg
  have hh := b5q
  simp only [Bool.and_eq_true] at hh
  obtain ⟨⟨⟨⟨c14, c15⟩, c16⟩, c17⟩, c18⟩ := hh
  have hi := b5p
  simp only [Bool.and_eq_true] at hi
  obtain ⟨⟨⟨c19, ZQ⟩, ZP⟩, ZO⟩ := hi
  have hj := b5o
  simp only [Bool.and_eq_true] at hj
  obtain ⟨ZN, ZM⟩ := hj
  have hk := b5n
  simp only [Bool.and_eq_true] at hk
  obtain ⟨ZL, ZK⟩ := hk
  have ZJ := b5m
  have ZI := b5l
  have hn := b5k
  simp only [Bool.and_eq_true] at hn
  obtain ⟨⟨⟨ZH, Zg⟩, Zf⟩, Ze⟩ := hn
  exact ⟨⟨⟨⟨⟨⟨⟨⟨⟨⟨⟨⟨⟨⟨⟨⟨⟨⟨⟨⟨⟨⟨⟨⟨⟨⟨⟨⟨⟨⟨⟨c1, laid⟩, c3⟩, c4⟩, c5⟩, c6⟩, c7⟩, c8⟩, c9⟩, c10⟩, c11⟩, c12⟩, c13⟩, c14⟩, c15⟩, c16⟩, c17⟩, c18⟩, c19⟩, ZQ⟩, ZP⟩, ZO⟩, ZN⟩, ZM⟩, ZL⟩, ZK⟩, ZJ⟩, ZI⟩, ZH⟩, Zg⟩, Zf⟩, Ze⟩

theorem b0K : Rows.worldTwiceUptoRow.holds Tryz.pinned (Rows.OpenSpec.upto Rows.worldTwiceSpec) :=
  OpenClaim.holds_of_cond 3 Tryz.f3 rfl rfl rfl rfl rfl rfl rfl ⟨rfl, rfl, rfl, rfl, rfl⟩ rfl rfl rfl rfl rfl (by kernel_rfl) Tryz.func3 a9e
    (of_decide_eq_true (by kernel_rfl)) (by unfold Func.isWrapper; first | (rw [if_pos (by decide +kernel)]; kernel_rfl) | (rw [if_neg (by decide +kernel)]; exact ⟨rfl, rfl⟩))
    (fun os started H enc _ F => a9d os started H enc F)
theorem worldTwice_proved : Rows.WorldTwiceUptoCardSaid :=
  Claim7.holds_tied_plain_at .later [] [.data, .data, .data, .sentinel, .sentinel] true (true, "c9434ef6de60f9d582221c556ace6c0af2080188a2f80eb4dc6e3732ead1fd29") true
    b0K (fun _ h => by cases h) (by kernel_rfl) (fun _ h => by cases h) worldTwiceUpto_row_tie rfl ⟨rfl, rfl⟩ (by kernel_rfl) rfl
    (fun f fn hf jN => by
      obtain rfl : f = 3 := Option.some.inj ((show Tryz.prog.funcNamed "partsong/partkeep.WorldTwice" = some 3 by kernel_rfl).symm.trans hf) |>.symm
      obtain rfl : fn = Tryz.f3 := (Option.some.inj (Tryz.func3.symm.trans jN)).symm
      exact ⟨by kernel_rfl, fun j t ht => by
        have h : (Tryz.f3.params.toList.all fun t => !Tryz.prog.wantsStandIn t) = true := by kernel_rfl
        have := List.all_eq_true.1 h t (List.mem_of_getElem? (i := j) (by simpa using ht))
        exact (show Tryz.prog.wantsStandIn t = false by simpa using this)⟩)
    (by kernel_rfl)
#print axioms worldTwice_proved
end Go.Proofs.YtijlnmgondibnaaGreatDoor
