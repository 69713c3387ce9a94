/- WorldLine returns true whatever its arguments, and its arguments read as before, where what it reads is of bulk at most 1048576: the card. No other condition. -/
import Derived.Test.YtijlnmgondibnaaGreatDoorCards
import Derived.Test.YtijlnmgondibnaaGreatDoorTie
import Derived.Test.YtijlnmgondibnaaGreatDoorJ1
import Derived.Test.YtijlnmgondibnaaGreatDoorJ3
import Derived.Lay
import Derived.SevenTiedAt
set_option linter.unusedVariables false
set_option linter.unusedSimpArgs false
set_option linter.unusedSectionVars false
namespace Go.Proofs.YtijlnmgondibnaaGreatDoor
open Go.Ex Go.ChangeShapes Go.WideShapes Go.ChangeAt Go.RowKit
set_option maxRecDepth 100000
mutual
theorem ubd {H : Type} : ∀ d : DataW H, Rows.uptoBulk d = J4 d
  | .lit l => by cases l <;> simp [Rows.uptoBulk, J4]
  | .nil => by simp [Rows.uptoBulk, J4]
  | .ptr d => by simp [Rows.uptoBulk, J4, ubd d]
  | .slice a b => by simp [Rows.uptoBulk, J4, Bc a, Bc b]
  | .agg a => by simp [Rows.uptoBulk, J4, Bc a]
  | .iface _ d => by simp [Rows.uptoBulk, J4, ubd d]
  | .map e => by simp [Rows.uptoBulk, J4, RV e]
  | .held _ => by simp [Rows.uptoBulk, J4]
theorem Bc {H : Type} : ∀ l : List (DataW H), Rows.uptoBulkAll l = T3 l
  | [] => by simp [Rows.uptoBulkAll, T3]
  | d :: r => by simp [Rows.uptoBulkAll, T3, ubd d, Bc r]
theorem RV {H : Type} : ∀ l : List (Lit × DataW H), Rows.uptoBulkEntries l = Ca l
  | [] => by simp [Rows.uptoBulkEntries, Ca]
  | x :: r => by simp [Rows.uptoBulkEntries, Ca, Yp x, RV r]
theorem Yp {H : Type} : ∀ x : Lit × DataW H, Rows.uptoBulkEntry x = JF x
  | (l, d) => by cases l <;> simp [Rows.uptoBulkEntry, JF, ubd d]
end
theorem b3U (os : Os) (args : Array Value) : laidMetH Tryz.prog Rows.worldLineUptoRow.laid ((World.laidAll Tryz.prog os Rows.worldLineUptoRow.laid).forCall (fun _ _ => 0) ⟨#[], args, []⟩).memory := by
  unfold laidMetH
  rw [show (Rows.worldLineUptoRow.laid.filter fun x => x.2.handleName?.isSome) = [] by rfl]
  exact laidMet_laidAll args (by kernel_rfl) (by kernel_rfl)
theorem b3T (os : Os) (H : Type) (enc : TypeId × Value → H) : ∃ (w : World) (tape : Tape) (i : Input), w.os = os ∧ (w.forCall tape i).Shaped Tryz.prog ∧ i.vars = [] ∧ Input.okWide Tryz.prog (w.forCall tape i) .any w.heap.size 6 i ∧
    (((Rows.OpenSpec.upto Rows.worldLineSpec).pre enc Tryz.prog Tryz.f6 Rows.worldLineUptoRow.domain false (w.forCall tape i).memory i.args ∧ laidMetH Tryz.prog Rows.worldLineUptoRow.laid (w.forCall tape i).memory) ∧ sizedMet enc Tryz.prog Tryz.f6 (Rows.OpenSpec.upto Rows.worldLineSpec) false (w.forCall tape i).memory i.args) ∧
    (({} : Assume).holds Tryz.prog (lone (Frame.enter Tryz.prog 6 i.args .normal) [] (w.forCall tape i))) :=
  ⟨World.laidAll Tryz.prog os Rows.worldLineUptoRow.laid, fun _ _ => 0, ⟨#[], #[.int .i64 0, .slice none 0 0], []⟩, World.laidAll_os _ _ _, World.shaped_of_ZipB (by kernel_rfl) (by kernel_rfl), rfl,
    (Input.okWide_of_okWideB (base := (World.laidAll Tryz.prog os Rows.worldLineUptoRow.laid).heap.size) (by kernel_rfl)).2,
    ⟨⟨(OpenSpec.pre_some rfl _ _ _ _).2 ⟨[.lit (.int .i64 0), .nil], [], [], DataW.Whole_of_whole (fuel := 8) (x := ([.lit (.int .i64 0), .nil], [], [])) (by kernel_rfl), rfl, by kernel_rfl⟩, b3U os _⟩, sizedMet_of_sizedB (fuel := 8) (by kernel_rfl)⟩, by
    simp only [Assume.holds]
    exact ⟨by simp, by simp, fun _ => Modest.zero, by simp, by simp⟩⟩
theorem a9a (os : Os) (started : os.Started) (H : Type) (enc : TypeId × Value → H) (F : Stop.Interp) :
    ReturnsInHanded {} Tryz.checked os 6 .any (fun w args => ((Rows.OpenSpec.upto Rows.worldLineSpec).pre enc Tryz.prog Tryz.f6 Rows.worldLineUptoRow.domain false w args ∧ laidMetH Tryz.prog Rows.worldLineUptoRow.laid w) ∧ sizedMet enc Tryz.prog Tryz.f6 (Rows.OpenSpec.upto Rows.worldLineSpec) false w args)
      (((Rows.OpenSpec.upto Rows.worldLineSpec).at F).post enc Tryz.prog Tryz.f6 false true false false) := by
  refine YR (C := Tryz.checked) (s := (Rows.OpenSpec.upto Rows.worldLineSpec)) (k := Rows.uptoSmall) rfl (us := [d9, .d0 false vr]) (tb := 4) (Y := fun w _ => laidMetH Tryz.prog Rows.worldLineUptoRow.laid w) (fun _ _ _ hh h => h.of_heap hh) own started (by kernel_rfl) Tryz.func6
    (b3T os H enc) (fun ds h => Bc ds ▸ of_decide_eq_true h) laid (by kernel_rfl) rfl ?_ rfl Tryz.underlying4 a9E (fun W _ cj h => VO cj h rfl (by simp [Rows.worldLineUptoRow]))
  intro ds tc
  match ds, tc with
  | [_, _], _ => rfl
theorem b7j : (Rows.worldLineUptoRow.wf (OpenSpec.ofChange (Rows.OpenSpec.upto Rows.worldLineSpec).bare) && Tryz.f6.params.all (Tryz.prog.readableRec ·) && namedTie Tryz.prog Rows.worldLineUptoRow.named (Rows.OpenSpec.upto Rows.worldLineSpec).bare.vars) = true := by kernel_rfl
theorem b7i : (mapsRowed Tryz.prog) = true := by kernel_rfl
theorem b7h : ((Rows.worldLineUptoRow.stops == []) && (Tryz.prog.stops == []) && (Rows.worldLineUptoRow.knobs == []) && (Tryz.prog.stopKnobs == [])) = true := by kernel_rfl
theorem b7g : ((Rows.worldLineUptoRow.inPlace == Tryz.prog.inPlace 6) && (Rows.worldLineUptoRow.unfollowed == Tryz.prog.unfollowed 6)) = true := by kernel_rfl
theorem b7f : ((Rows.worldLineUptoRow.recurses == Tryz.prog.recurses 6) && (Rows.worldLineUptoRow.named == Tryz.prog.varsNamed 6)) = true := by kernel_rfl
theorem b7e : ((Rows.worldLineUptoRow.maps == (Tryz.f6.params.toList ++ (Rows.OpenSpec.upto Rows.worldLineSpec).bare.plain.varTypes Tryz.prog).any (Tryz.prog.mapsRec ·)) && (Rows.worldLineUptoRow.ifaces == (Tryz.f6.params.toList ++ (Rows.OpenSpec.upto Rows.worldLineSpec).bare.plain.varTypes Tryz.prog).any (Tryz.prog.ifacesRec ·)) && (Rows.worldLineUptoRow.mapsOut == Tryz.prog.mapsAmong Tryz.f6.resultTypes.toList) && (Rows.worldLineUptoRow.loops == (Tryz.f6.params.toList ++ (Rows.OpenSpec.upto Rows.worldLineSpec).bare.plain.varTypes Tryz.prog).any (Tryz.prog.loopsFrom ·)) && (Rows.worldLineUptoRow.wideKeys == (Tryz.f6.params.toList ++ (Rows.OpenSpec.upto Rows.worldLineSpec).bare.plain.varTypes Tryz.prog ++ Tryz.f6.resultTypes.toList).any (Tryz.prog.wideKeysFrom ·))) = true := by kernel_rfl
theorem b7d : ((Rows.OpenSpec.upto Rows.worldLineSpec).bare.vars.all (Tryz.prog.varReadable ·) && Tryz.f6.resultTypes.all (fun t => Tryz.prog.readableRec t && decide (t < Tryz.prog.types.size)) && (Rows.worldLineUptoRow.ifacesOut == Tryz.f6.resultTypes.toList.any (Tryz.prog.ifacesRec ·)) && (Rows.worldLineUptoRow.loopsOut == Tryz.f6.resultTypes.toList.any (Tryz.prog.loopsFrom ·))) = true := by kernel_rfl
theorem b7c : ((Rows.worldLineUptoRow.plainKeys == Tryz.prog.plainKeys) && Rows.worldLineUptoRow.shortTexts.isNone) = true := by kernel_rfl
theorem b7b : (Tryz.prog.stopsHeard && Tryz.prog.mayEnter) = true := by kernel_rfl
theorem b7a : ((Rows.worldLineUptoRow.lifted == Tryz.prog.liftsFinal)) = true := by kernel_rfl
theorem b69 : ((Tryz.prog.make == some Rows.worldLineUptoRow.make)) = true := by kernel_rfl
theorem b68 : ((Rows.worldLineUptoRow.kinds == (if Rows.worldLineUptoRow.domain.isEmpty then [] else Tryz.f6.params.toList.map fun t => match Tryz.prog.underlying t with | some (.int k) => some k | _ => none)) && (Rows.worldLineUptoRow.pinned == Rows.worldLineUptoRow.pinnedBy) && (Rows.worldLineUptoRow.veiled == (Tryz.f6.params.toList ++ (Rows.OpenSpec.upto Rows.worldLineSpec).bare.plain.varTypes Tryz.prog ++ Tryz.f6.resultTypes.toList).any (Tryz.prog.veiledRec ·)) && Rows.worldLineUptoRow.veiledFits Tryz.prog Tryz.f6.params.toList (Tryz.f6.params.toList ++ (Rows.OpenSpec.upto Rows.worldLineSpec).bare.plain.varTypes Tryz.prog ++ Tryz.f6.resultTypes.toList)) = true := by kernel_rfl
theorem a9b : joinedFacts Tryz.prog 6 Tryz.f6 (Rows.OpenSpec.upto Rows.worldLineSpec).bare Rows.worldLineUptoRow = true := by
  unfold joinedFacts
  simp only [Bool.and_eq_true]
  have ha := b7j
  simp only [Bool.and_eq_true] at ha
  obtain ⟨⟨c1, c4⟩, c5⟩ := ha
  have c3 := b7i
  have hd := b7h
  simp only [Bool.and_eq_true] at hd
  obtain ⟨⟨⟨c6, c7⟩, c8⟩, c9⟩ := hd
  have he := b7g
  simp only [Bool.and_eq_true] at he
  obtain ⟨ZS, ZR⟩ := he
  have hg := b7f
  simp only [Bool.and_eq_true] at hg
  obtain ⟨ZQ, ZP⟩ := hg
  have hh := b7e
  simp only [Bool.and_eq_true] at hh
  obtain ⟨⟨⟨⟨ZO, ZN⟩, ZM⟩, ZL⟩, ZK⟩ := hh
  have hi := b7d
  simp only [Bool.and_eq_true] at hi
  obtain ⟨⟨⟨ZJ, Zj⟩, Zi⟩, Zh⟩ := hi
  have hj := b7c
  simp only [Bool.and_eq_true] at hj
  obtain ⟨Zg, Zf⟩ := hj
  have hk := b7b
  simp only [Bool.and_eq_true] at hk
  obtain ⟨Ze, Zd⟩ := hk
  have Zc := b7a
  have Zb := b69
  have hn := b68
  simp only [Bool.and_eq_true] at hn
  obtain ⟨⟨⟨Za, Ys⟩, Yr⟩, Yq⟩ := hn
  exact ⟨⟨⟨⟨⟨⟨⟨⟨⟨⟨⟨⟨⟨⟨⟨⟨⟨⟨⟨⟨⟨⟨⟨⟨⟨⟨⟨⟨⟨⟨⟨c1, laid⟩, c3⟩, c4⟩, c5⟩, c6⟩, c7⟩, c8⟩, c9⟩, ZS⟩, ZR⟩, ZQ⟩, ZP⟩, ZO⟩, ZN⟩, ZM⟩, ZL⟩, ZK⟩, ZJ⟩, Zj⟩, Zi⟩, Zh⟩, Zg⟩, Zf⟩, Ze⟩, Zd⟩, Zc⟩, Zb⟩, Za⟩, Ys⟩, Yr⟩, Yq⟩

theorem b1r : Rows.worldLineUptoRow.holds Tryz.pinned (Rows.OpenSpec.upto Rows.worldLineSpec) :=
  OpenClaim.holds_of_cond 6 Tryz.f6 rfl rfl rfl rfl rfl rfl rfl ⟨rfl, rfl, rfl, rfl, rfl⟩ rfl rfl rfl rfl rfl (by kernel_rfl) Tryz.func6 a9b
    (of_decide_eq_true (by kernel_rfl)) (by unfold Func.isWrapper; first | (rw [if_pos (by decide +kernel)]; kernel_rfl) | (rw [if_neg (by decide +kernel)]; exact ⟨rfl, rfl⟩))
    (fun os started H enc _ F => a9a os started H enc F)
theorem worldLine_proved : Rows.WorldLineUptoCardSaid :=
  Claim7.holds_tied_plain_at .later [] [.data, .data, .data, .sentinel, .sentinel] true (true, "c9434ef6de60f9d582221c556ace6c0af2080188a2f80eb4dc6e3732ead1fd29") true
    b1r (fun _ h => by cases h) (by kernel_rfl) (fun _ h => by cases h) worldLineUpto_row_tie rfl ⟨rfl, rfl⟩ (by kernel_rfl) rfl
    (fun f fn hf jA => by
      obtain rfl : f = 6 := Option.some.inj ((show Tryz.prog.funcNamed "partsong/partkeep.WorldLine" = some 6 by kernel_rfl).symm.trans hf) |>.symm
      obtain rfl : fn = Tryz.f6 := (Option.some.inj (Tryz.func6.symm.trans jA)).symm
      exact ⟨by kernel_rfl, fun j t ht => by
        have h : (Tryz.f6.params.toList.all fun t => !Tryz.prog.wantsStandIn t) = true := by kernel_rfl
        have := List.all_eq_true.1 h t (List.mem_of_getElem? (i := j) (by simpa using ht))
        exact (show Tryz.prog.wantsStandIn t = false by simpa using this)⟩)
    (by kernel_rfl)
#print axioms worldLine_proved
end Go.Proofs.YtijlnmgondibnaaGreatDoor
