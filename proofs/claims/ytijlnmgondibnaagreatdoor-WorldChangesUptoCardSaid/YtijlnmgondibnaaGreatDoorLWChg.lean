/- WorldChanges returns true whatever its arguments, and its arguments read as before, where what it reads is of bulk at most 1048576: the card. No other condition. -/
import Derived.Test.YtijlnmgondibnaaGreatDoorCards
import Derived.Test.YtijlnmgondibnaaGreatDoorTie
import Derived.Test.YtijlnmgondibnaaGreatDoorJ1
import Derived.Test.YtijlnmgondibnaaGreatDoorJ3
import Derived.Lay
import Derived.SevenTiedAt
set_option linter.unusedVariables false
set_option linter.unusedSimpArgs false
set_option linter.unusedSectionVars false
namespace Go.Proofs.YtijlnmgondibnaaGreatDoor
open Go.Ex Go.ChangeShapes Go.WideShapes Go.ChangeAt Go.RowKit
set_option maxRecDepth 100000
mutual
theorem ubd {H : Type} : ∀ d : DataW H, Rows.uptoBulk d = K4 d
  | .lit l => by cases l <;> simp [Rows.uptoBulk, K4]
  | .nil => by simp [Rows.uptoBulk, K4]
  | .ptr d => by simp [Rows.uptoBulk, K4, ubd d]
  | .slice a b => by simp [Rows.uptoBulk, K4, BL a, BL b]
  | .agg a => by simp [Rows.uptoBulk, K4, BL a]
  | .iface _ d => by simp [Rows.uptoBulk, K4, ubd d]
  | .map e => by simp [Rows.uptoBulk, K4, To e]
  | .held _ => by simp [Rows.uptoBulk, K4]
theorem BL {H : Type} : ∀ l : List (DataW H), Rows.uptoBulkAll l = V1 l
  | [] => by simp [Rows.uptoBulkAll, V1]
  | d :: r => by simp [Rows.uptoBulkAll, V1, ubd d, BL r]
theorem To {H : Type} : ∀ l : List (Lit × DataW H), Rows.uptoBulkEntries l = CL l
  | [] => by simp [Rows.uptoBulkEntries, CL]
  | x :: r => by simp [Rows.uptoBulkEntries, CL, YW x, To r]
theorem YW {H : Type} : ∀ x : Lit × DataW H, Rows.uptoBulkEntry x = KZ x
  | (l, d) => by cases l <;> simp [Rows.uptoBulkEntry, KZ, ubd d]
end
theorem a9P (os : Os) (args : Array Value) : laidMetH Tryz.prog Rows.worldChangesUptoRow.laid ((World.laidAll Tryz.prog os Rows.worldChangesUptoRow.laid).forCall (fun _ _ => 0) ⟨#[], args, []⟩).memory := by
  unfold laidMetH
  rw [show (Rows.worldChangesUptoRow.laid.filter fun x => x.2.handleName?.isSome) = [] by rfl]
  exact laidMet_laidAll args (by kernel_rfl) (by kernel_rfl)
theorem a9O (os : Os) (H : Type) (enc : TypeId × Value → H) : ∃ (w : World) (tape : Tape) (i : Input), w.os = os ∧ (w.forCall tape i).Shaped Tryz.prog ∧ i.vars = [] ∧ Input.okWide Tryz.prog (w.forCall tape i) .any w.heap.size 7 i ∧
    (((Rows.OpenSpec.upto Rows.worldChangesSpec).pre enc Tryz.prog Tryz.f7 Rows.worldChangesUptoRow.domain false (w.forCall tape i).memory i.args ∧ laidMetH Tryz.prog Rows.worldChangesUptoRow.laid (w.forCall tape i).memory) ∧ sizedMet enc Tryz.prog Tryz.f7 (Rows.OpenSpec.upto Rows.worldChangesSpec) false (w.forCall tape i).memory i.args) ∧
    (({} : Assume).holds Tryz.prog (lone (Frame.enter Tryz.prog 7 i.args .normal) [] (w.forCall tape i))) :=
  ⟨World.laidAll Tryz.prog os Rows.worldChangesUptoRow.laid, fun _ _ => 0, ⟨#[], #[.int .i64 0, .slice none 0 0], []⟩, World.laidAll_os _ _ _, World.shaped_of_ZipB (by kernel_rfl) (by kernel_rfl), rfl,
    (Input.okWide_of_okWideB (base := (World.laidAll Tryz.prog os Rows.worldChangesUptoRow.laid).heap.size) (by kernel_rfl)).2,
    ⟨⟨(OpenSpec.pre_some rfl _ _ _ _).2 ⟨[.lit (.int .i64 0), .nil], [], [], DataW.Whole_of_whole (fuel := 8) (x := ([.lit (.int .i64 0), .nil], [], [])) (by kernel_rfl), rfl, by kernel_rfl⟩, a9P os _⟩, sizedMet_of_sizedB (fuel := 8) (by kernel_rfl)⟩, by
    simp only [Assume.holds]
    exact ⟨by simp, by simp, fun _ => Modest.zero, by simp, by simp⟩⟩
theorem a7o (os : Os) (started : os.Started) (H : Type) (enc : TypeId × Value → H) (F : Stop.Interp) :
    ReturnsInHanded {} Tryz.checked os 7 .any (fun w args => ((Rows.OpenSpec.upto Rows.worldChangesSpec).pre enc Tryz.prog Tryz.f7 Rows.worldChangesUptoRow.domain false w args ∧ laidMetH Tryz.prog Rows.worldChangesUptoRow.laid w) ∧ sizedMet enc Tryz.prog Tryz.f7 (Rows.OpenSpec.upto Rows.worldChangesSpec) false w args)
      (((Rows.OpenSpec.upto Rows.worldChangesSpec).at F).post enc Tryz.prog Tryz.f7 false true false false) := by
  refine ZN (C := Tryz.checked) (s := (Rows.OpenSpec.upto Rows.worldChangesSpec)) (k := Rows.uptoSmall) rfl (us := [d9, .d0 false vU]) (tb := 4) (Y := fun w _ => laidMetH Tryz.prog Rows.worldChangesUptoRow.laid w) (fun _ _ _ hh h => h.of_heap hh) own started (by kernel_rfl) Tryz.func7
    (a9O os H enc) (fun ds h => BL ds ▸ of_decide_eq_true h) laid (by kernel_rfl) rfl ?_ rfl Tryz.underlying4 a7q (fun W _ cg h => Xm cg h rfl (by simp [Rows.worldChangesUptoRow]))
  intro ds tH
  match ds, tH with
  | [_, _], _ => rfl
theorem b2r : (Rows.worldChangesUptoRow.wf (OpenSpec.ofChange (Rows.OpenSpec.upto Rows.worldChangesSpec).bare) && Tryz.f7.params.all (Tryz.prog.readableRec ·) && namedTie Tryz.prog Rows.worldChangesUptoRow.named (Rows.OpenSpec.upto Rows.worldChangesSpec).bare.vars) = true := by kernel_rfl
theorem b2q : (mapsRowed Tryz.prog) = true := by kernel_rfl
theorem b2p : ((Rows.worldChangesUptoRow.stops == []) && (Tryz.prog.stops == []) && (Rows.worldChangesUptoRow.knobs == []) && (Tryz.prog.stopKnobs == [])) = true := by kernel_rfl
theorem b2o : ((Rows.worldChangesUptoRow.inPlace == Tryz.prog.inPlace 7) && (Rows.worldChangesUptoRow.unfollowed == Tryz.prog.unfollowed 7)) = true := by kernel_rfl
theorem b2n : ((Rows.worldChangesUptoRow.recurses == Tryz.prog.recurses 7) && (Rows.worldChangesUptoRow.named == Tryz.prog.varsNamed 7)) = true := by kernel_rfl
theorem b2m : ((Rows.worldChangesUptoRow.maps == (Tryz.f7.params.toList ++ (Rows.OpenSpec.upto Rows.worldChangesSpec).bare.plain.varTypes Tryz.prog).any (Tryz.prog.mapsRec ·)) && (Rows.worldChangesUptoRow.ifaces == (Tryz.f7.params.toList ++ (Rows.OpenSpec.upto Rows.worldChangesSpec).bare.plain.varTypes Tryz.prog).any (Tryz.prog.ifacesRec ·)) && (Rows.worldChangesUptoRow.mapsOut == Tryz.prog.mapsAmong Tryz.f7.resultTypes.toList) && (Rows.worldChangesUptoRow.loops == (Tryz.f7.params.toList ++ (Rows.OpenSpec.upto Rows.worldChangesSpec).bare.plain.varTypes Tryz.prog).any (Tryz.prog.loopsFrom ·)) && (Rows.worldChangesUptoRow.wideKeys == (Tryz.f7.params.toList ++ (Rows.OpenSpec.upto Rows.worldChangesSpec).bare.plain.varTypes Tryz.prog ++ Tryz.f7.resultTypes.toList).any (Tryz.prog.wideKeysFrom ·))) = true := by kernel_rfl
theorem b2l : ((Rows.OpenSpec.upto Rows.worldChangesSpec).bare.vars.all (Tryz.prog.varReadable ·) && Tryz.f7.resultTypes.all (fun t => Tryz.prog.readableRec t && decide (t < Tryz.prog.types.size)) && (Rows.worldChangesUptoRow.ifacesOut == Tryz.f7.resultTypes.toList.any (Tryz.prog.ifacesRec ·)) && (Rows.worldChangesUptoRow.loopsOut == Tryz.f7.resultTypes.toList.any (Tryz.prog.loopsFrom ·))) = true := by kernel_rfl
theorem b2k : ((Rows.worldChangesUptoRow.plainKeys == Tryz.prog.plainKeys) && Rows.worldChangesUptoRow.shortTexts.isNone) = true := by kernel_rfl
theorem b2j : (Tryz.prog.stopsHeard && Tryz.prog.mayEnter) = true := by kernel_rfl
theorem b2i : ((Rows.worldChangesUptoRow.lifted == Tryz.prog.liftsFinal)) = true := by kernel_rfl
theorem b2h : ((Tryz.prog.make == some Rows.worldChangesUptoRow.make)) = true := by kernel_rfl
theorem b2g : ((Rows.worldChangesUptoRow.kinds == (if Rows.worldChangesUptoRow.domain.isEmpty then [] else Tryz.f7.params.toList.map fun t => match Tryz.prog.underlying t with | some (.int k) => some k | _ => none)) && (Rows.worldChangesUptoRow.pinned == Rows.worldChangesUptoRow.pinnedBy) && (Rows.worldChangesUptoRow.veiled == (Tryz.f7.params.toList ++ (Rows.OpenSpec.upto Rows.worldChangesSpec).bare.plain.varTypes Tryz.prog ++ Tryz.f7.resultTypes.toList).any (Tryz.prog.veiledRec ·)) && Rows.worldChangesUptoRow.veiledFits Tryz.prog Tryz.f7.params.toList (Tryz.f7.params.toList ++ (Rows.OpenSpec.upto Rows.worldChangesSpec).bare.plain.varTypes Tryz.prog ++ Tryz.f7.resultTypes.toList)) = true := by kernel_rfl
theorem a7p : joinedFacts Tryz.prog 7 Tryz.f7 (Rows.OpenSpec.upto Rows.worldChangesSpec).bare Rows.worldChangesUptoRow = true := by
  unfold joinedFacts
  simp only [Bool.and_eq_true]
  have ha := b2r
  simp only [Bool.and_eq_true] at ha
  obtain ⟨⟨c1, c4⟩, c5⟩ := ha
  have c3 := b2q
  have hd := b2p
  simp only [Bool.and_eq_true] at hd
  obtain ⟨⟨⟨c6, c7⟩, c8⟩, c9⟩ := hd
  have he := b2o
  simp only [Bool.and_eq_true] at he
  obtain ⟨c10, c11⟩ := he
  have hg := b2n
  simp only [Bool.and_eq_true] at hg
  obtain ⟨c12, c13⟩ := hg
  have hh := b2m
  simp only [Bool.and_eq_true] at hh
  obtain ⟨⟨⟨⟨c14, c15⟩, c16⟩, c17⟩, c18⟩ := hh
  have hi := b2l
  simp only [Bool.and_eq_true] at hi
  obtain ⟨⟨⟨c19, c20⟩, c21⟩, c22⟩ := hi
  have hj := b2k
  simp only [Bool.and_eq_true] at hj
  obtain ⟨c23, c24⟩ := hj
  have hk := b2j
  simp only [Bool.and_eq_true] at hk
  obtain ⟨c25, c26⟩ := hk
  have c27 := b2i
  have c28 := b2h
  have hn := b2g
  simp only [Bool.and_eq_true] at hn
  obtain ⟨⟨⟨c29, c30⟩, c31⟩, c32⟩ := hn
  exact ⟨⟨⟨⟨⟨⟨⟨⟨⟨⟨⟨⟨⟨⟨⟨⟨⟨⟨⟨⟨⟨⟨⟨⟨⟨⟨⟨⟨⟨⟨⟨c1, laid⟩, c3⟩, c4⟩, c5⟩, c6⟩, c7⟩, c8⟩, c9⟩, c10⟩, c11⟩, c12⟩, c13⟩, c14⟩, c15⟩, c16⟩, c17⟩, c18⟩, c19⟩, c20⟩, c21⟩, c22⟩, c23⟩, c24⟩, c25⟩, c26⟩, c27⟩, c28⟩, c29⟩, c30⟩, c31⟩, c32⟩

theorem a9b : Rows.worldChangesUptoRow.holds Tryz.pinned (Rows.OpenSpec.upto Rows.worldChangesSpec) :=
  OpenClaim.holds_of_cond 7 Tryz.f7 rfl rfl rfl rfl rfl rfl rfl ⟨rfl, rfl, rfl, rfl, rfl⟩ rfl rfl rfl rfl rfl (by kernel_rfl) Tryz.func7 a7p
    (of_decide_eq_true (by kernel_rfl)) (by unfold Func.isWrapper; first | (rw [if_pos (by decide +kernel)]; kernel_rfl) | (rw [if_neg (by decide +kernel)]; exact ⟨rfl, rfl⟩))
    (fun os started H enc _ F => a7o os started H enc F)
theorem worldChanges_proved : Rows.WorldChangesUptoCardSaid :=
  Claim7.holds_tied_plain_at .later [] [.data, .data, .data, .data, .sentinel, .sentinel, .pinned] true (true, "c9434ef6de60f9d582221c556ace6c0af2080188a2f80eb4dc6e3732ead1fd29") true
    a9b (fun _ h => by cases h) (by kernel_rfl) (fun _ h => by cases h) worldChangesUpto_row_tie rfl ⟨rfl, rfl⟩ (by kernel_rfl) rfl
    (fun f fn hf jF => by
      obtain rfl : f = 7 := Option.some.inj ((show Tryz.prog.funcNamed "partsong/partkeep.WorldChanges" = some 7 by kernel_rfl).symm.trans hf) |>.symm
      obtain rfl : fn = Tryz.f7 := (Option.some.inj (Tryz.func7.symm.trans jF)).symm
      exact ⟨by kernel_rfl, fun j t ht => by
        have h : (Tryz.f7.params.toList.all fun t => !Tryz.prog.wantsStandIn t) = true := by kernel_rfl
        have := List.all_eq_true.1 h t (List.mem_of_getElem? (i := j) (by simpa using ht))
        exact (show Tryz.prog.wantsStandIn t = false by simpa using this)⟩)
    (by kernel_rfl)
#print axioms worldChanges_proved
end Go.Proofs.YtijlnmgondibnaaGreatDoor
