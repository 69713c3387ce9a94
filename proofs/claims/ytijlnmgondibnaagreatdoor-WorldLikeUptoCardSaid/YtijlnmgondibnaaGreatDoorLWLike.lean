/- WorldLike returns true whatever its arguments, and its arguments read as before, where what it reads is of bulk at most 1048576: the card. No other condition. -/
import Derived.Test.YtijlnmgondibnaaGreatDoorCards
import Derived.Test.YtijlnmgondibnaaGreatDoorTie
import Derived.Test.YtijlnmgondibnaaGreatDoorJ1
import Derived.Test.YtijlnmgondibnaaGreatDoorJ3
import Derived.Lay
import Derived.SevenTiedAt
set_option linter.unusedVariables false
set_option linter.unusedSimpArgs false
set_option linter.unusedSectionVars false
namespace Go.Proofs.YtijlnmgondibnaaGreatDoor
open Go.Ex Go.ChangeShapes Go.WideShapes Go.ChangeAt Go.RowKit
set_option maxRecDepth 100000
mutual
theorem ubd {H : Type} : ∀ d : DataW H, Rows.uptoBulk d = J5 d
  | .lit l => by cases l <;> simp [Rows.uptoBulk, J5]
  | .nil => by simp [Rows.uptoBulk, J5]
  | .ptr d => by simp [Rows.uptoBulk, J5, ubd d]
  | .slice a b => by simp [Rows.uptoBulk, J5, AD a, AD b]
  | .agg a => by simp [Rows.uptoBulk, J5, AD a]
  | .iface _ d => by simp [Rows.uptoBulk, J5, ubd d]
  | .map e => by simp [Rows.uptoBulk, J5, QO e]
  | .held _ => by simp [Rows.uptoBulk, J5]
theorem AD {H : Type} : ∀ l : List (DataW H), Rows.uptoBulkAll l = S4 l
  | [] => by simp [Rows.uptoBulkAll, S4]
  | d :: r => by simp [Rows.uptoBulkAll, S4, ubd d, AD r]
theorem QO {H : Type} : ∀ l : List (Lit × DataW H), Rows.uptoBulkEntries l = Bw l
  | [] => by simp [Rows.uptoBulkEntries, Bw]
  | x :: r => by simp [Rows.uptoBulkEntries, Bw, We x, QO r]
theorem We {H : Type} : ∀ x : Lit × DataW H, Rows.uptoBulkEntry x = IQ x
  | (l, d) => by cases l <;> simp [Rows.uptoBulkEntry, IQ, ubd d]
end
theorem b3v (os : Os) (args : Array Value) : laidMetH Tryz.prog Rows.worldLikeUptoRow.laid ((World.laidAll Tryz.prog os Rows.worldLikeUptoRow.laid).forCall (fun _ _ => 0) ⟨#[], args, []⟩).memory := by
  unfold laidMetH
  rw [show (Rows.worldLikeUptoRow.laid.filter fun x => x.2.handleName?.isSome) = [] by rfl]
  exact laidMet_laidAll args (by kernel_rfl) (by kernel_rfl)
theorem b3u (os : Os) (H : Type) (enc : TypeId × Value → H) : ∃ (w : World) (tape : Tape) (i : Input), w.os = os ∧ (w.forCall tape i).Shaped Tryz.prog ∧ i.vars = [] ∧ Input.okWide Tryz.prog (w.forCall tape i) .any w.heap.size 4 i ∧
    (((Rows.OpenSpec.upto Rows.worldLikeSpec).pre enc Tryz.prog Tryz.f4 Rows.worldLikeUptoRow.domain false (w.forCall tape i).memory i.args ∧ laidMetH Tryz.prog Rows.worldLikeUptoRow.laid (w.forCall tape i).memory) ∧ sizedMet enc Tryz.prog Tryz.f4 (Rows.OpenSpec.upto Rows.worldLikeSpec) false (w.forCall tape i).memory i.args) ∧
    (({} : Assume).holds Tryz.prog (lone (Frame.enter Tryz.prog 4 i.args .normal) [] (w.forCall tape i))) :=
  ⟨World.laidAll Tryz.prog os Rows.worldLikeUptoRow.laid, fun _ _ => 0, ⟨#[], #[.int .i64 0, .slice none 0 0], []⟩, World.laidAll_os _ _ _, World.shaped_of_ZipB (by kernel_rfl) (by kernel_rfl), rfl,
    (Input.okWide_of_okWideB (base := (World.laidAll Tryz.prog os Rows.worldLikeUptoRow.laid).heap.size) (by kernel_rfl)).2,
    ⟨⟨(OpenSpec.pre_some rfl _ _ _ _).2 ⟨[.lit (.int .i64 0), .nil], [], [], DataW.Whole_of_whole (fuel := 8) (x := ([.lit (.int .i64 0), .nil], [], [])) (by kernel_rfl), rfl, by kernel_rfl⟩, b3v os _⟩, sizedMet_of_sizedB (fuel := 8) (by kernel_rfl)⟩, by
    simp only [Assume.holds]
    exact ⟨by simp, by simp, fun _ => Modest.zero, by simp, by simp⟩⟩
theorem a8U (os : Os) (started : os.Started) (H : Type) (enc : TypeId × Value → H) (F : Stop.Interp) :
    ReturnsInHanded {} Tryz.checked os 4 .any (fun w args => ((Rows.OpenSpec.upto Rows.worldLikeSpec).pre enc Tryz.prog Tryz.f4 Rows.worldLikeUptoRow.domain false w args ∧ laidMetH Tryz.prog Rows.worldLikeUptoRow.laid w) ∧ sizedMet enc Tryz.prog Tryz.f4 (Rows.OpenSpec.upto Rows.worldLikeSpec) false w args)
      (((Rows.OpenSpec.upto Rows.worldLikeSpec).at F).post enc Tryz.prog Tryz.f4 false true false false) := by
  refine XU (C := Tryz.checked) (s := (Rows.OpenSpec.upto Rows.worldLikeSpec)) (k := Rows.uptoSmall) rfl (us := [e8, .d0 false va]) (tb := 4) (Y := fun w _ => laidMetH Tryz.prog Rows.worldLikeUptoRow.laid w) (fun _ _ _ hh h => h.of_heap hh) own started (by kernel_rfl) Tryz.func4
    (b3u os H enc) (fun ds h => AD ds ▸ of_decide_eq_true h) laid (by kernel_rfl) rfl ?_ rfl Tryz.underlying4 a9r (fun W _ ch h => Ux ch h rfl (by simp [Rows.worldLikeUptoRow]))
  intro ds sV
  match ds, sV with
  | [_, _], _ => rfl
theorem b6M : (Rows.worldLikeUptoRow.wf (OpenSpec.ofChange (Rows.OpenSpec.upto Rows.worldLikeSpec).bare) && Tryz.f4.params.all (Tryz.prog.readableRec ·) && namedTie Tryz.prog Rows.worldLikeUptoRow.named (Rows.OpenSpec.upto Rows.worldLikeSpec).bare.vars) = true := by kernel_rfl
theorem b6L : (mapsRowed Tryz.prog) = true := by kernel_rfl
theorem b6K : ((Rows.worldLikeUptoRow.stops == []) && (Tryz.prog.stops == []) && (Rows.worldLikeUptoRow.knobs == []) && (Tryz.prog.stopKnobs == [])) = true := by kernel_rfl
theorem b6J : ((Rows.worldLikeUptoRow.inPlace == Tryz.prog.inPlace 4) && (Rows.worldLikeUptoRow.unfollowed == Tryz.prog.unfollowed 4)) = true := by kernel_rfl
theorem b6I : ((Rows.worldLikeUptoRow.recurses == Tryz.prog.recurses 4) && (Rows.worldLikeUptoRow.named == Tryz.prog.varsNamed 4)) = true := by kernel_rfl
theorem b6H : ((Rows.worldLikeUptoRow.maps == (Tryz.f4.params.toList ++ (Rows.OpenSpec.upto Rows.worldLikeSpec).bare.plain.varTypes Tryz.prog).any (Tryz.prog.mapsRec ·)) && (Rows.worldLikeUptoRow.ifaces == (Tryz.f4.params.toList ++ (Rows.OpenSpec.upto Rows.worldLikeSpec).bare.plain.varTypes Tryz.prog).any (Tryz.prog.ifacesRec ·)) && (Rows.worldLikeUptoRow.mapsOut == Tryz.prog.mapsAmong Tryz.f4.resultTypes.toList) && (Rows.worldLikeUptoRow.loops == (Tryz.f4.params.toList ++ (Rows.OpenSpec.upto Rows.worldLikeSpec).bare.plain.varTypes Tryz.prog).any (Tryz.prog.loopsFrom ·)) && (Rows.worldLikeUptoRow.wideKeys == (Tryz.f4.params.toList ++ (Rows.OpenSpec.upto Rows.worldLikeSpec).bare.plain.varTypes Tryz.prog ++ Tryz.f4.resultTypes.toList).any (Tryz.prog.wideKeysFrom ·))) = true := by kernel_rfl
theorem b6G : ((Rows.OpenSpec.upto Rows.worldLikeSpec).bare.vars.all (Tryz.prog.varReadable ·) && Tryz.f4.resultTypes.all (fun t => Tryz.prog.readableRec t && decide (t < Tryz.prog.types.size)) && (Rows.worldLikeUptoRow.ifacesOut == Tryz.f4.resultTypes.toList.any (Tryz.prog.ifacesRec ·)) && (Rows.worldLikeUptoRow.loopsOut == Tryz.f4.resultTypes.toList.any (Tryz.prog.loopsFrom ·))) = true := by kernel_rfl
theorem b6F : ((Rows.worldLikeUptoRow.plainKeys == Tryz.prog.plainKeys) && Rows.worldLikeUptoRow.shortTexts.isNone) = true := by kernel_rfl
theorem b6E : (Tryz.prog.stopsHeard && Tryz.prog.mayEnter) = true := by kernel_rfl
theorem b6D : ((Rows.worldLikeUptoRow.lifted == Tryz.prog.liftsFinal)) = true := by kernel_rfl
theorem b6C : ((Tryz.prog.make == some Rows.worldLikeUptoRow.make)) = true := by kernel_rfl
theorem b6B : ((Rows.worldLikeUptoRow.kinds == (if Rows.worldLikeUptoRow.domain.isEmpty then [] else Tryz.f4.params.toList.map fun t => match Tryz.prog.underlying t with | some (.int k) => some k | _ => none)) && (Rows.worldLikeUptoRow.pinned == Rows.worldLikeUptoRow.pinnedBy) && (Rows.worldLikeUptoRow.veiled == (Tryz.f4.params.toList ++ (Rows.OpenSpec.upto Rows.worldLikeSpec).bare.plain.varTypes Tryz.prog ++ Tryz.f4.resultTypes.toList).any (Tryz.prog.veiledRec ·)) && Rows.worldLikeUptoRow.veiledFits Tryz.prog Tryz.f4.params.toList (Tryz.f4.params.toList ++ (Rows.OpenSpec.upto Rows.worldLikeSpec).bare.plain.varTypes Tryz.prog ++ Tryz.f4.resultTypes.toList)) = true := by kernel_rfl
theorem a8V : joinedFacts Tryz.prog 4 Tryz.f4 (Rows.OpenSpec.upto Rows.worldLikeSpec).bare Rows.worldLikeUptoRow = true := by
  unfold joinedFacts
  simp only [Bool.and_eq_true]
  have ha := b6M
  simp only [Bool.and_eq_true] at ha
  obtain ⟨⟨c1, c4⟩, c5⟩ := ha
  have c3 := b6L
  have hd := b6K
  simp only [Bool.and_eq_true] at hd
  obtain ⟨⟨⟨c6, c7⟩, c8⟩, c9⟩ := hd
  have he := b6J
  simp only [Bool.and_eq_true] at he
  obtain ⟨Yr, Yq⟩ := he
  have hg := b6I
  simp only [Bool.and_eq_true] at hg
  obtain ⟨Yp, Yo⟩ := hg
  have hh := b6H
  simp only [Bool.and_eq_true] at hh
  obtain ⟨⟨⟨⟨Yn, Ym⟩, Yl⟩, Yk⟩, Yj⟩ := hh
  have hi := b6G
  simp only [Bool.and_eq_true] at hi
  obtain ⟨⟨⟨Yi, XE⟩, XD⟩, XC⟩ := hi
  have hj := b6F
  simp only [Bool.and_eq_true] at hj
  obtain ⟨XB, XA⟩ := hj
  have hk := b6E
  simp only [Bool.and_eq_true] at hk
  obtain ⟨Xz, Xy⟩ := hk
  have Xx := b6D
  have Xw := b6C
  have hn := b6B
  simp only [Bool.and_eq_true] at hn
  obtain ⟨⟨⟨Xv, WL⟩, WK⟩, WJ⟩ := hn
  exact ⟨⟨⟨⟨⟨⟨⟨⟨⟨⟨⟨⟨⟨⟨⟨⟨⟨⟨⟨⟨⟨⟨⟨⟨⟨⟨⟨⟨⟨⟨⟨c1, laid⟩, c3⟩, c4⟩, c5⟩, c6⟩, c7⟩, c8⟩, c9⟩, Yr⟩, Yq⟩, Yp⟩, Yo⟩, Yn⟩, Ym⟩, Yl⟩, Yk⟩, Yj⟩, Yi⟩, XE⟩, XD⟩, XC⟩, XB⟩, XA⟩, Xz⟩, Xy⟩, Xx⟩, Xw⟩, Xv⟩, WL⟩, WK⟩, WJ⟩

theorem b07 : Rows.worldLikeUptoRow.holds Tryz.pinned (Rows.OpenSpec.upto Rows.worldLikeSpec) :=
  OpenClaim.holds_of_cond 4 Tryz.f4 rfl rfl rfl rfl rfl rfl rfl ⟨rfl, rfl, rfl, rfl, rfl⟩ rfl rfl rfl rfl rfl (by kernel_rfl) Tryz.func4 a8V
    (of_decide_eq_true (by kernel_rfl)) (by unfold Func.isWrapper; first | (rw [if_pos (by decide +kernel)]; kernel_rfl) | (rw [if_neg (by decide +kernel)]; exact ⟨rfl, rfl⟩))
    (fun os started H enc _ F => a8U os started H enc F)
theorem worldLike_proved : Rows.WorldLikeUptoCardSaid :=
  Claim7.holds_tied_plain_at .later [] [.data, .data, .data, .sentinel, .sentinel] true (true, "c9434ef6de60f9d582221c556ace6c0af2080188a2f80eb4dc6e3732ead1fd29") true
    b07 (fun _ h => by cases h) (by kernel_rfl) (fun _ h => by cases h) worldLikeUpto_row_tie rfl ⟨rfl, rfl⟩ (by kernel_rfl) rfl
    (fun f fn hf jy => by
      obtain rfl : f = 4 := Option.some.inj ((show Tryz.prog.funcNamed "partsong/partkeep.WorldLike" = some 4 by kernel_rfl).symm.trans hf) |>.symm
      obtain rfl : fn = Tryz.f4 := (Option.some.inj (Tryz.func4.symm.trans jy)).symm
      exact ⟨by kernel_rfl, fun j t ht => by
        have h : (Tryz.f4.params.toList.all fun t => !Tryz.prog.wantsStandIn t) = true := by kernel_rfl
        have := List.all_eq_true.1 h t (List.mem_of_getElem? (i := j) (by simpa using ht))
        exact (show Tryz.prog.wantsStandIn t = false by simpa using this)⟩)
    (by kernel_rfl)
#print axioms worldLike_proved
end Go.Proofs.YtijlnmgondibnaaGreatDoor
