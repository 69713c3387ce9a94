/- TopFront returns true whatever its arguments, and its arguments read as before, where what it reads is of bulk at most 1048576: the card. No other condition. -/
import Derived.Test.YtijlnmgondibnaaGreatDoorCards
import Derived.Test.YtijlnmgondibnaaGreatDoorTie
import Derived.Test.YtijlnmgondibnaaGreatDoorJ1
import Derived.Test.YtijlnmgondibnaaGreatDoorJ3
import Derived.Lay
import Derived.SevenTiedAt
set_option linter.unusedVariables false
set_option linter.unusedSimpArgs false
set_option linter.unusedSectionVars false
namespace Go.Proofs.YtijlnmgondibnaaGreatDoor
open Go.Ex Go.ChangeShapes Go.WideShapes Go.ChangeAt Go.RowKit
set_option maxRecDepth 100000
mutual
theorem ubd {H : Type} : ∀ d : DataW H, Rows.uptoBulk d = I4 d
  | .lit l => by cases l <;> simp [Rows.uptoBulk, I4]
  | .nil => by simp [Rows.uptoBulk, I4]
  | .ptr d => by simp [Rows.uptoBulk, I4, ubd d]
  | .slice a b => by simp [Rows.uptoBulk, I4, a6j a, a6j b]
  | .agg a => by simp [Rows.uptoBulk, I4, a6j a]
  | .iface _ d => by simp [Rows.uptoBulk, I4, ubd d]
  | .map e => by simp [Rows.uptoBulk, I4, a9m e]
  | .held _ => by simp [Rows.uptoBulk, I4]
theorem a6j {H : Type} : ∀ l : List (DataW H), Rows.uptoBulkAll l = Q8 l
  | [] => by simp [Rows.uptoBulkAll, Q8]
  | d :: r => by simp [Rows.uptoBulkAll, Q8, ubd d, a6j r]
theorem a9m {H : Type} : ∀ l : List (Lit × DataW H), Rows.uptoBulkEntries l = a0Q l
  | [] => by simp [Rows.uptoBulkEntries, a0Q]
  | x :: r => by simp [Rows.uptoBulkEntries, a0Q, c2U x, a9m r]
theorem c2U {H : Type} : ∀ x : Lit × DataW H, Rows.uptoBulkEntry x = a5M x
  | (l, d) => by cases l <;> simp [Rows.uptoBulkEntry, a5M, ubd d]
end
theorem b3E (os : Os) (args : Array Value) : laidMetH Tryz.prog Rows.topFrontUptoRow.laid ((World.laidAll Tryz.prog os Rows.topFrontUptoRow.laid).forCall (fun _ _ => 0) ⟨#[], args, []⟩).memory := by
  unfold laidMetH
  rw [show (Rows.topFrontUptoRow.laid.filter fun x => x.2.handleName?.isSome) = [] by rfl]
  exact laidMet_laidAll args (by kernel_rfl) (by kernel_rfl)
theorem b3D (os : Os) (H : Type) (enc : TypeId × Value → H) : ∃ (w : World) (tape : Tape) (i : Input), w.os = os ∧ (w.forCall tape i).Shaped Tryz.prog ∧ i.vars = [] ∧ Input.okWide Tryz.prog (w.forCall tape i) .any w.heap.size 11 i ∧
    (((Rows.OpenSpec.upto Rows.topFrontSpec).pre enc Tryz.prog Tryz.f11 Rows.topFrontUptoRow.domain false (w.forCall tape i).memory i.args ∧ laidMetH Tryz.prog Rows.topFrontUptoRow.laid (w.forCall tape i).memory) ∧ sizedMet enc Tryz.prog Tryz.f11 (Rows.OpenSpec.upto Rows.topFrontSpec) false (w.forCall tape i).memory i.args) ∧
    (({} : Assume).holds Tryz.prog (lone (Frame.enter Tryz.prog 11 i.args .normal) [] (w.forCall tape i))) :=
  ⟨World.laidAll Tryz.prog os Rows.topFrontUptoRow.laid, fun _ _ => 0, ⟨#[], #[.int .i64 0, .slice none 0 0], []⟩, World.laidAll_os _ _ _, World.shaped_of_ZipB (by kernel_rfl) (by kernel_rfl), rfl,
    (Input.okWide_of_okWideB (base := (World.laidAll Tryz.prog os Rows.topFrontUptoRow.laid).heap.size) (by kernel_rfl)).2,
    ⟨⟨(OpenSpec.pre_some rfl _ _ _ _).2 ⟨[.lit (.int .i64 0), .nil], [], [], DataW.Whole_of_whole (fuel := 8) (x := ([.lit (.int .i64 0), .nil], [], [])) (by kernel_rfl), rfl, by kernel_rfl⟩, b3E os _⟩, sizedMet_of_sizedB (fuel := 8) (by kernel_rfl)⟩, by
    simp only [Assume.holds]
    exact ⟨by simp, by simp, fun _ => Modest.zero, by simp, by simp⟩⟩
theorem a9o (os : Os) (started : os.Started) (H : Type) (enc : TypeId × Value → H) (F : Stop.Interp) :
    ReturnsInHanded {} Tryz.checked os 11 .any (fun w args => ((Rows.OpenSpec.upto Rows.topFrontSpec).pre enc Tryz.prog Tryz.f11 Rows.topFrontUptoRow.domain false w args ∧ laidMetH Tryz.prog Rows.topFrontUptoRow.laid w) ∧ sizedMet enc Tryz.prog Tryz.f11 (Rows.OpenSpec.upto Rows.topFrontSpec) false w args)
      (((Rows.OpenSpec.upto Rows.topFrontSpec).at F).post enc Tryz.prog Tryz.f11 false true false false) := by
  refine c1A (C := Tryz.checked) (s := (Rows.OpenSpec.upto Rows.topFrontSpec)) (k := Rows.uptoSmall) rfl (us := [e8, .d0 false a1W]) (tb := 4) (Y := fun w _ => laidMetH Tryz.prog Rows.topFrontUptoRow.laid w) (fun _ _ _ hh h => h.of_heap hh) own started (by kernel_rfl) Tryz.func11
    (b3D os H enc) (fun ds h => a6j ds ▸ of_decide_eq_true h) laid (by kernel_rfl) rfl ?_ rfl Tryz.underlying4 b0c (fun W _ bT h => c5P bT h rfl (by simp [Rows.topFrontUptoRow]))
  intro ds rA
  match ds, rA with
  | [_, _], _ => rfl
theorem b8z : (Rows.topFrontUptoRow.wf (OpenSpec.ofChange (Rows.OpenSpec.upto Rows.topFrontSpec).bare) && Tryz.f11.params.all (Tryz.prog.readableRec ·) && namedTie Tryz.prog Rows.topFrontUptoRow.named (Rows.OpenSpec.upto Rows.topFrontSpec).bare.vars) = true := by kernel_rfl
theorem b8y : (mapsRowed Tryz.prog) = true := by kernel_rfl
theorem b8x : ((Rows.topFrontUptoRow.stops == []) && (Tryz.prog.stops == []) && (Rows.topFrontUptoRow.knobs == []) && (Tryz.prog.stopKnobs == [])) = true := by kernel_rfl
theorem b8w : ((Rows.topFrontUptoRow.inPlace == Tryz.prog.inPlace 11) && (Rows.topFrontUptoRow.unfollowed == Tryz.prog.unfollowed 11)) = true := by kernel_rfl
theorem b8v : ((Rows.topFrontUptoRow.recurses == Tryz.prog.recurses 11) && (Rows.topFrontUptoRow.named == Tryz.prog.varsNamed 11)) = true := by kernel_rfl
theorem b8u : ((Rows.topFrontUptoRow.maps == (Tryz.f11.params.toList ++ (Rows.OpenSpec.upto Rows.topFrontSpec).bare.plain.varTypes Tryz.prog).any (Tryz.prog.mapsRec ·)) && (Rows.topFrontUptoRow.ifaces == (Tryz.f11.params.toList ++ (Rows.OpenSpec.upto Rows.topFrontSpec).bare.plain.varTypes Tryz.prog).any (Tryz.prog.ifacesRec ·)) && (Rows.topFrontUptoRow.mapsOut == Tryz.prog.mapsAmong Tryz.f11.resultTypes.toList) && (Rows.topFrontUptoRow.loops == (Tryz.f11.params.toList ++ (Rows.OpenSpec.upto Rows.topFrontSpec).bare.plain.varTypes Tryz.prog).any (Tryz.prog.loopsFrom ·)) && (Rows.topFrontUptoRow.wideKeys == (Tryz.f11.params.toList ++ (Rows.OpenSpec.upto Rows.topFrontSpec).bare.plain.varTypes Tryz.prog ++ Tryz.f11.resultTypes.toList).any (Tryz.prog.wideKeysFrom ·))) = true := by kernel_rfl
theorem b8t : ((Rows.OpenSpec.upto Rows.topFrontSpec).bare.vars.all (Tryz.prog.varReadable ·) && Tryz.f11.resultTypes.all (fun t => Tryz.prog.readableRec t && decide (t < Tryz.prog.types.size)) && (Rows.topFrontUptoRow.ifacesOut == Tryz.f11.resultTypes.toList.any (Tryz.prog.ifacesRec ·)) && (Rows.topFrontUptoRow.loopsOut == Tryz.f11.resultTypes.toList.any (Tryz.prog.loopsFrom ·))) = true := by kernel_rfl
theorem b8s : ((Rows.topFrontUptoRow.plainKeys == Tryz.prog.plainKeys) && Rows.topFrontUptoRow.shortTexts.isNone) = true := by kernel_rfl
theorem b8r : (Tryz.prog.stopsHeard && Tryz.prog.mayEnter) = true := by kernel_rfl
theorem b8q : ((Rows.topFrontUptoRow.lifted == Tryz.prog.liftsFinal)) = true := by kernel_rfl
theorem b8p : ((Tryz.prog.make == some Rows.topFrontUptoRow.make)) = true := by kernel_rfl
theorem b8o : ((Rows.topFrontUptoRow.kinds == (if Rows.topFrontUptoRow.domain.isEmpty then [] else Tryz.f11.params.toList.map fun t => match Tryz.prog.underlying t with | some (.int k) => some k | _ => none)) && (Rows.topFrontUptoRow.pinned == Rows.topFrontUptoRow.pinnedBy) && (Rows.topFrontUptoRow.veiled == (Tryz.f11.params.toList ++ (Rows.OpenSpec.upto Rows.topFrontSpec).bare.plain.varTypes Tryz.prog ++ Tryz.f11.resultTypes.toList).any (Tryz.prog.veiledRec ·)) && Rows.topFrontUptoRow.veiledFits Tryz.prog Tryz.f11.params.toList (Tryz.f11.params.toList ++ (Rows.OpenSpec.upto Rows.topFrontSpec).bare.plain.varTypes Tryz.prog ++ Tryz.f11.resultTypes.toList)) = true := by kernel_rfl
theorem a9p : joinedFacts Tryz.prog 11 Tryz.f11 (Rows.OpenSpec.upto Rows.topFrontSpec).bare Rows.topFrontUptoRow = true := by
  unfold joinedFacts
  simp only [Bool.and_eq_true]
  have ha := b8z
  simp only [Bool.and_eq_true] at ha
  obtain ⟨⟨c1, c4⟩, c5⟩ := ha
  have c3 := b8y
  have hd := b8x
  simp only [Bool.and_eq_true] at hd
  obtain ⟨⟨⟨c6, c7⟩, c8⟩, c9⟩ := hd
  have he := b8w
  simp only [Bool.and_eq_true] at he
  obtain ⟨c10, c11⟩ := he
  have hg := b8v
  simp only [Bool.and_eq_true] at hg
  obtain ⟨c12, c13⟩ := hg
  have hh := b8u
  simp only [Bool.and_eq_true] at hh
  obtain ⟨⟨⟨⟨c14, c15⟩, c16⟩, c17⟩, c18⟩ := hh
  have hi := b8t
  simp only [Bool.and_eq_true] at hi
  obtain ⟨⟨⟨c19, c20⟩, c21⟩, c22⟩ := hi
  have hj := b8s
  simp only [Bool.and_eq_true] at hj
  obtain ⟨c23, c24⟩ := hj
  have hk := b8r
  simp only [Bool.and_eq_true] at hk
  obtain ⟨c25, c26⟩ := hk
  have c27 := b8q
  have c28 := b8p
  have hn := b8o
  simp only [Bool.and_eq_true] at hn
  obtain ⟨⟨⟨c29, c30⟩, c31⟩, c32⟩ := hn
  exact ⟨⟨⟨⟨⟨⟨⟨⟨⟨⟨⟨⟨⟨⟨⟨⟨⟨⟨⟨⟨⟨⟨⟨⟨⟨⟨⟨⟨⟨⟨⟨c1, laid⟩, c3⟩, c4⟩, c5⟩, c6⟩, c7⟩, c8⟩, c9⟩, c10⟩, c11⟩, c12⟩, c13⟩, c14⟩, c15⟩, c16⟩, c17⟩, c18⟩, c19⟩, c20⟩, c21⟩, c22⟩, c23⟩, c24⟩, c25⟩, c26⟩, c27⟩, c28⟩, c29⟩, c30⟩, c31⟩, c32⟩

theorem b2P : Rows.topFrontUptoRow.holds Tryz.pinned (Rows.OpenSpec.upto Rows.topFrontSpec) :=
  OpenClaim.holds_of_cond 11 Tryz.f11 rfl rfl rfl rfl rfl rfl rfl ⟨rfl, rfl, rfl, rfl, rfl⟩ rfl rfl rfl rfl rfl (by kernel_rfl) Tryz.func11 a9p
    (of_decide_eq_true (by kernel_rfl)) (by unfold Func.isWrapper; first | (rw [if_pos (by decide +kernel)]; kernel_rfl) | (rw [if_neg (by decide +kernel)]; exact ⟨rfl, rfl⟩))
    (fun os started H enc _ F => a9o os started H enc F)
theorem topFront_proved : Rows.TopFrontUptoCardSaid :=
  Claim7.holds_tied_plain_at .later [] [.data, .data, .data, .data, .sentinel, .sentinel, .pinned] true (true, "c9434ef6de60f9d582221c556ace6c0af2080188a2f80eb4dc6e3732ead1fd29") true
    b2P (fun _ h => by cases h) (by kernel_rfl) (fun _ h => by cases h) topFrontUpto_row_tie rfl ⟨rfl, rfl⟩ (by kernel_rfl) rfl
    (fun f fn hf iP => by
      obtain rfl : f = 11 := Option.some.inj ((show Tryz.prog.funcNamed "partsong/parttop.TopFront" = some 11 by kernel_rfl).symm.trans hf) |>.symm
      obtain rfl : fn = Tryz.f11 := (Option.some.inj (Tryz.func11.symm.trans iP)).symm
      exact ⟨by kernel_rfl, fun j t ht => by
        have h : (Tryz.f11.params.toList.all fun t => !Tryz.prog.wantsStandIn t) = true := by kernel_rfl
        have := List.all_eq_true.1 h t (List.mem_of_getElem? (i := j) (by simpa using ht))
        exact (show Tryz.prog.wantsStandIn t = false by simpa using this)⟩)
    (by kernel_rfl)
#print axioms topFront_proved
end Go.Proofs.YtijlnmgondibnaaGreatDoor
