/- WorldOwn returns true whatever its arguments, and its arguments read as before, where what it reads is of bulk at most 1048576: the card. No other condition. -/
import Derived.Test.YtijlnmgondibnaaGreatDoorCards
import Derived.Test.YtijlnmgondibnaaGreatDoorTie
import Derived.Test.YtijlnmgondibnaaGreatDoorJ1
import Derived.Test.YtijlnmgondibnaaGreatDoorJ3
import Derived.Lay
import Derived.SevenTiedAt
set_option linter.unusedVariables false
set_option linter.unusedSimpArgs false
set_option linter.unusedSectionVars false
namespace Go.Proofs.YtijlnmgondibnaaGreatDoor
open Go.Ex Go.ChangeShapes Go.WideShapes Go.ChangeAt Go.RowKit
set_option maxRecDepth 100000
mutual
theorem ubd {H : Type} : ∀ d : DataW H, Rows.uptoBulk d = J8 d
  | .lit l => by cases l <;> simp [Rows.uptoBulk, J8]
  | .nil => by simp [Rows.uptoBulk, J8]
  | .ptr d => by simp [Rows.uptoBulk, J8, ubd d]
  | .slice a b => by simp [Rows.uptoBulk, J8, BC a, BC b]
  | .agg a => by simp [Rows.uptoBulk, J8, BC a]
  | .iface _ d => by simp [Rows.uptoBulk, J8, ubd d]
  | .map e => by simp [Rows.uptoBulk, J8, SP e]
  | .held _ => by simp [Rows.uptoBulk, J8]
theorem BC {H : Type} : ∀ l : List (DataW H), Rows.uptoBulkAll l = U4 l
  | [] => by simp [Rows.uptoBulkAll, U4]
  | d :: r => by simp [Rows.uptoBulkAll, U4, ubd d, BC r]
theorem SP {H : Type} : ∀ l : List (Lit × DataW H), Rows.uptoBulkEntries l = CE l
  | [] => by simp [Rows.uptoBulkEntries, CE]
  | x :: r => by simp [Rows.uptoBulkEntries, CE, Zp x, SP r]
theorem Zp {H : Type} : ∀ x : Lit × DataW H, Rows.uptoBulkEntry x = KO x
  | (l, d) => by cases l <;> simp [Rows.uptoBulkEntry, KO, ubd d]
end
theorem b49 (os : Os) (args : Array Value) : laidMetH Tryz.prog Rows.worldOwnUptoRow.laid ((World.laidAll Tryz.prog os Rows.worldOwnUptoRow.laid).forCall (fun _ _ => 0) ⟨#[], args, []⟩).memory := by
  unfold laidMetH
  rw [show (Rows.worldOwnUptoRow.laid.filter fun x => x.2.handleName?.isSome) = [] by rfl]
  exact laidMet_laidAll args (by kernel_rfl) (by kernel_rfl)
theorem b48 (os : Os) (H : Type) (enc : TypeId × Value → H) : ∃ (w : World) (tape : Tape) (i : Input), w.os = os ∧ (w.forCall tape i).Shaped Tryz.prog ∧ i.vars = [] ∧ Input.okWide Tryz.prog (w.forCall tape i) .any w.heap.size 8 i ∧
    (((Rows.OpenSpec.upto Rows.worldOwnSpec).pre enc Tryz.prog Tryz.f8 Rows.worldOwnUptoRow.domain false (w.forCall tape i).memory i.args ∧ laidMetH Tryz.prog Rows.worldOwnUptoRow.laid (w.forCall tape i).memory) ∧ sizedMet enc Tryz.prog Tryz.f8 (Rows.OpenSpec.upto Rows.worldOwnSpec) false (w.forCall tape i).memory i.args) ∧
    (({} : Assume).holds Tryz.prog (lone (Frame.enter Tryz.prog 8 i.args .normal) [] (w.forCall tape i))) :=
  ⟨World.laidAll Tryz.prog os Rows.worldOwnUptoRow.laid, fun _ _ => 0, ⟨#[], #[.int .i64 0, .slice none 0 0], []⟩, World.laidAll_os _ _ _, World.shaped_of_ZipB (by kernel_rfl) (by kernel_rfl), rfl,
    (Input.okWide_of_okWideB (base := (World.laidAll Tryz.prog os Rows.worldOwnUptoRow.laid).heap.size) (by kernel_rfl)).2,
    ⟨⟨(OpenSpec.pre_some rfl _ _ _ _).2 ⟨[.lit (.int .i64 0), .nil], [], [], DataW.Whole_of_whole (fuel := 8) (x := ([.lit (.int .i64 0), .nil], [], [])) (by kernel_rfl), rfl, by kernel_rfl⟩, b49 os _⟩, sizedMet_of_sizedB (fuel := 8) (by kernel_rfl)⟩, by
    simp only [Assume.holds]
    exact ⟨by simp, by simp, fun _ => Modest.zero, by simp, by simp⟩⟩
theorem b0m (os : Os) (started : os.Started) (H : Type) (enc : TypeId × Value → H) (F : Stop.Interp) :
    ReturnsInHanded {} Tryz.checked os 8 .any (fun w args => ((Rows.OpenSpec.upto Rows.worldOwnSpec).pre enc Tryz.prog Tryz.f8 Rows.worldOwnUptoRow.domain false w args ∧ laidMetH Tryz.prog Rows.worldOwnUptoRow.laid w) ∧ sizedMet enc Tryz.prog Tryz.f8 (Rows.OpenSpec.upto Rows.worldOwnSpec) false w args)
      (((Rows.OpenSpec.upto Rows.worldOwnSpec).at F).post enc Tryz.prog Tryz.f8 false true false false) := by
  refine c3K (C := Tryz.checked) (s := (Rows.OpenSpec.upto Rows.worldOwnSpec)) (k := Rows.uptoSmall) rfl (us := [e8, .d0 false vJ]) (tb := 4) (Y := fun w _ => laidMetH Tryz.prog Rows.worldOwnUptoRow.laid w) (fun _ _ _ hh h => h.of_heap hh) own started (by kernel_rfl) Tryz.func8
    (b48 os H enc) (fun ds h => BC ds ▸ of_decide_eq_true h) laid (by kernel_rfl) rfl ?_ rfl Tryz.underlying4 b1o (fun W _ cd h => Xq cd h rfl (by simp [Rows.worldOwnUptoRow]))
  intro ds oh
  match ds, oh with
  | [_, _], _ => rfl
theorem c0h : (Rows.worldOwnUptoRow.wf (OpenSpec.ofChange (Rows.OpenSpec.upto Rows.worldOwnSpec).bare) && Tryz.f8.params.all (Tryz.prog.readableRec ·) && namedTie Tryz.prog Rows.worldOwnUptoRow.named (Rows.OpenSpec.upto Rows.worldOwnSpec).bare.vars) = true := by kernel_rfl
theorem c0g : (mapsRowed Tryz.prog) = true := by kernel_rfl
theorem c0f : ((Rows.worldOwnUptoRow.stops == []) && (Tryz.prog.stops == []) && (Rows.worldOwnUptoRow.knobs == []) && (Tryz.prog.stopKnobs == [])) = true := by kernel_rfl
theorem c0e : ((Rows.worldOwnUptoRow.inPlace == Tryz.prog.inPlace 8) && (Rows.worldOwnUptoRow.unfollowed == Tryz.prog.unfollowed 8)) = true := by kernel_rfl
theorem c0d : ((Rows.worldOwnUptoRow.recurses == Tryz.prog.recurses 8) && (Rows.worldOwnUptoRow.named == Tryz.prog.varsNamed 8)) = true := by kernel_rfl
theorem c0c : ((Rows.worldOwnUptoRow.maps == (Tryz.f8.params.toList ++ (Rows.OpenSpec.upto Rows.worldOwnSpec).bare.plain.varTypes Tryz.prog).any (Tryz.prog.mapsRec ·)) && (Rows.worldOwnUptoRow.ifaces == (Tryz.f8.params.toList ++ (Rows.OpenSpec.upto Rows.worldOwnSpec).bare.plain.varTypes Tryz.prog).any (Tryz.prog.ifacesRec ·)) && (Rows.worldOwnUptoRow.mapsOut == Tryz.prog.mapsAmong Tryz.f8.resultTypes.toList) && (Rows.worldOwnUptoRow.loops == (Tryz.f8.params.toList ++ (Rows.OpenSpec.upto Rows.worldOwnSpec).bare.plain.varTypes Tryz.prog).any (Tryz.prog.loopsFrom ·)) && (Rows.worldOwnUptoRow.wideKeys == (Tryz.f8.params.toList ++ (Rows.OpenSpec.upto Rows.worldOwnSpec).bare.plain.varTypes Tryz.prog ++ Tryz.f8.resultTypes.toList).any (Tryz.prog.wideKeysFrom ·))) = true := by kernel_rfl
theorem c0b : ((Rows.OpenSpec.upto Rows.worldOwnSpec).bare.vars.all (Tryz.prog.varReadable ·) && Tryz.f8.resultTypes.all (fun t => Tryz.prog.readableRec t && decide (t < Tryz.prog.types.size)) && (Rows.worldOwnUptoRow.ifacesOut == Tryz.f8.resultTypes.toList.any (Tryz.prog.ifacesRec ·)) && (Rows.worldOwnUptoRow.loopsOut == Tryz.f8.resultTypes.toList.any (Tryz.prog.loopsFrom ·))) = true := by kernel_rfl
theorem c0a : ((Rows.worldOwnUptoRow.plainKeys == Tryz.prog.plainKeys) && Rows.worldOwnUptoRow.shortTexts.isNone) = true := by kernel_rfl
theorem b99 : (Tryz.prog.stopsHeard && Tryz.prog.mayEnter) = true := by kernel_rfl
theorem b98 : ((Rows.worldOwnUptoRow.lifted == Tryz.prog.liftsFinal)) = true := by kernel_rfl
theorem b97 : ((Tryz.prog.make == some Rows.worldOwnUptoRow.make)) = true := by kernel_rfl
theorem b96 : ((Rows.worldOwnUptoRow.kinds == (if Rows.worldOwnUptoRow.domain.isEmpty then [] else Tryz.f8.params.toList.map fun t => match Tryz.prog.underlying t with | some (.int k) => some k | _ => none)) && (Rows.worldOwnUptoRow.pinned == Rows.worldOwnUptoRow.pinnedBy) && (Rows.worldOwnUptoRow.veiled == (Tryz.f8.params.toList ++ (Rows.OpenSpec.upto Rows.worldOwnSpec).bare.plain.varTypes Tryz.prog ++ Tryz.f8.resultTypes.toList).any (Tryz.prog.veiledRec ·)) && Rows.worldOwnUptoRow.veiledFits Tryz.prog Tryz.f8.params.toList (Tryz.f8.params.toList ++ (Rows.OpenSpec.upto Rows.worldOwnSpec).bare.plain.varTypes Tryz.prog ++ Tryz.f8.resultTypes.toList)) = true := by kernel_rfl
theorem b0n : joinedFacts Tryz.prog 8 Tryz.f8 (Rows.OpenSpec.upto Rows.worldOwnSpec).bare Rows.worldOwnUptoRow = true := by
  unfold joinedFacts
  simp only [Bool.and_eq_true]
  have ha := c0h
  simp only [Bool.and_eq_true] at ha
  obtain ⟨⟨c1, c4⟩, c5⟩ := ha
  have c3 := c0g
  have hd := c0f
  simp only [Bool.and_eq_true] at hd
  obtain ⟨⟨⟨c6, c7⟩, c8⟩, c9⟩ := hd
  have he := c0e
  simp only [Bool.and_eq_true] at he
  obtain ⟨c10, c11⟩ := he
  have hg := c0d
  simp only [Bool.and_eq_true] at hg
  obtain ⟨c12, c13⟩ := hg
  have hh := c0c
  simp only [Bool.and_eq_true] at hh
  obtain ⟨⟨⟨⟨c14, c15⟩, c16⟩, c17⟩, c18⟩ := hh
  have hi := c0b
  simp only [Bool.and_eq_true] at hi
  obtain ⟨⟨⟨c19, c20⟩, c21⟩, c22⟩ := hi
  have hj := c0a
  simp only [Bool.and_eq_true] at hj
  obtain ⟨c23, c24⟩ := hj
  have hk := b99
  simp only [Bool.and_eq_true] at hk
  obtain ⟨c25, c26⟩ := hk
  have c27 := b98
  have c28 := b97
  have hn := b96
  simp only [Bool.and_eq_true] at hn
  obtain ⟨⟨⟨c29, c30⟩, c31⟩, c32⟩ := hn
  exact ⟨⟨⟨⟨⟨⟨⟨⟨⟨⟨⟨⟨⟨⟨⟨⟨⟨⟨⟨⟨⟨⟨⟨⟨⟨⟨⟨⟨⟨⟨⟨c1, laid⟩, c3⟩, c4⟩, c5⟩, c6⟩, c7⟩, c8⟩, c9⟩, c10⟩, c11⟩, c12⟩, c13⟩, c14⟩, c15⟩, c16⟩, c17⟩, c18⟩, c19⟩, c20⟩, c21⟩, c22⟩, c23⟩, c24⟩, c25⟩, c26⟩, c27⟩, c28⟩, c29⟩, c30⟩, c31⟩, c32⟩

theorem b4p : Rows.worldOwnUptoRow.holds Tryz.pinned (Rows.OpenSpec.upto Rows.worldOwnSpec) :=
  OpenClaim.holds_of_cond 8 Tryz.f8 rfl rfl rfl rfl rfl rfl rfl ⟨rfl, rfl, rfl, rfl, rfl⟩ rfl rfl rfl rfl rfl (by kernel_rfl) Tryz.func8 b0n
    (of_decide_eq_true (by kernel_rfl)) (by unfold Func.isWrapper; first | (rw [if_pos (by decide +kernel)]; kernel_rfl) | (rw [if_neg (by decide +kernel)]; exact ⟨rfl, rfl⟩))
    (fun os started H enc _ F => b0m os started H enc F)
theorem worldOwn_proved : Rows.WorldOwnUptoCardSaid :=
  Claim7.holds_tied_plain_at .later [] [.data, .data, .data, .data, .sentinel, .sentinel, .pinned] true (true, "c9434ef6de60f9d582221c556ace6c0af2080188a2f80eb4dc6e3732ead1fd29") true
    b4p (fun _ h => by cases h) (by kernel_rfl) (fun _ h => by cases h) worldOwnUpto_row_tie rfl ⟨rfl, rfl⟩ (by kernel_rfl) rfl
    (fun f fn hf jA => by
      obtain rfl : f = 8 := Option.some.inj ((show Tryz.prog.funcNamed "partsong/partkeep.WorldOwn" = some 8 by kernel_rfl).symm.trans hf) |>.symm
      obtain rfl : fn = Tryz.f8 := (Option.some.inj (Tryz.func8.symm.trans jA)).symm
      exact ⟨by kernel_rfl, fun j t ht => by
        have h : (Tryz.f8.params.toList.all fun t => !Tryz.prog.wantsStandIn t) = true := by kernel_rfl
        have := List.all_eq_true.1 h t (List.mem_of_getElem? (i := j) (by simpa using ht))
        exact (show Tryz.prog.wantsStandIn t = false by simpa using this)⟩)
    (by kernel_rfl)
#print axioms worldOwn_proved
end Go.Proofs.YtijlnmgondibnaaGreatDoor
