/- PairsOwn returns true whatever its arguments, and its arguments read as before, where what it reads is of bulk at most 1048576. No other condition. -/
import Derived.Test.YtekbamiaenbhjaaRows
import Derived.Test.YtekbamiaenbhjaaOwnPc
namespace Go.Proofs.Ytekbamiaenbhjaa
open Go.Ex Go.ChangeShapes Go.WideShapes Go.ChangeAt Go.RowKit
set_option maxRecDepth 100000

mutual
theorem ub {H : Type} : ∀ d : DataW H, Rows.uptoBulk d = H8 d
  | .lit l => by cases l <;> simp [Rows.uptoBulk, H8]
  | .nil => by simp [Rows.uptoBulk, H8]
  | .ptr d => by simp [Rows.uptoBulk, H8, ub d]
  | .slice a b => by simp [Rows.uptoBulk, H8, a7w a, a7w b]
  | .agg a => by simp [Rows.uptoBulk, H8, a7w a]
  | .iface _ d => by simp [Rows.uptoBulk, H8, ub d]
  | .map e => by simp [Rows.uptoBulk, H8, a9u e]
  | .held _ => by simp [Rows.uptoBulk, H8]
theorem a7w {H : Type} : ∀ l : List (DataW H), Rows.uptoBulkAll l = P8 l
  | [] => by simp [Rows.uptoBulkAll, P8]
  | d :: r => by simp [Rows.uptoBulkAll, P8, ub d, a7w r]
theorem a9u {H : Type} : ∀ l : List (Lit × DataW H), Rows.uptoBulkEntries l = a0l l
  | [] => by simp [Rows.uptoBulkEntries, a0l]
  | x :: r => by simp [Rows.uptoBulkEntries, a0l, b9R x, a9u r]
theorem b9R {H : Type} : ∀ x : Lit × DataW H, Rows.uptoBulkEntry x = a4G x
  | (l, d) => by cases l <;> simp [Rows.uptoBulkEntry, a4G, ub d]
end

theorem a7P (os : Os) (started : os.Started) (H : Type) (enc : TypeId × Value → H) (F : Stop.Interp) :
    ReturnsInHanded {} Try.checked os 12 .any ((Rows.OpenSpec.upto Rows.pairsOwnSpec).pre6 enc Try.prog Try.f12 Rows.pairsOwnUptoRow.domain false) (((Rows.OpenSpec.upto Rows.pairsOwnSpec).at F).post enc Try.prog Try.f12 false true false false) := by
  refine b8F (C := Try.checked) (s := Rows.OpenSpec.upto Rows.pairsOwnSpec) (k := Rows.uptoSmall) rfl (us := [Pos]) (tb := 4) own started (by kernel_rfl) Try.func12
    (OpenSpec.witness (enc := enc) (C := Try.checked) (s := Rows.OpenSpec.upto Rows.pairsOwnSpec) (k := Rows.uptoSmall) rfl false ⟨#[], #[.agg #[.int .i64 0, .slice none 0 0]], []⟩ 8 (by kernel_rfl) (by kernel_rfl) (by kernel_rfl)
      (x := ([.agg [.lit (.int .i64 0), .nil]], [], [])) (by kernel_rfl) rfl (by kernel_rfl))
    (fun ds h => a7w ds ▸ of_decide_eq_true h) laid (by kernel_rfl) rfl ?_ rfl Try.underlying4 a8l
  intro ds hds
  match ds, hds with
  | [_], _ => rfl

theorem b5k : (Rows.pairsOwnUptoRow.wf (OpenSpec.ofChange (Rows.OpenSpec.upto Rows.pairsOwnSpec).bare) && Try.f12.params.all (Try.prog.readableRec ·) && namedTie Try.prog Rows.pairsOwnUptoRow.named (Rows.OpenSpec.upto Rows.pairsOwnSpec).bare.vars) = true := by kernel_rfl
theorem b5j : (mapsRowed Try.prog) = true := by kernel_rfl
theorem b5i : ((Rows.pairsOwnUptoRow.stops == []) && (Try.prog.stops == []) && (Rows.pairsOwnUptoRow.knobs == []) && (Try.prog.stopKnobs == [])) = true := by kernel_rfl
theorem b5h : ((Rows.pairsOwnUptoRow.inPlace == Try.prog.inPlace 12) && (Rows.pairsOwnUptoRow.unfollowed == Try.prog.unfollowed 12)) = true := by kernel_rfl
theorem b5g : ((Rows.pairsOwnUptoRow.recurses == Try.prog.recurses 12) && (Rows.pairsOwnUptoRow.named == Try.prog.varsNamed 12)) = true := by kernel_rfl
theorem b5f : ((Rows.pairsOwnUptoRow.maps == (Try.f12.params.toList ++ (Rows.OpenSpec.upto Rows.pairsOwnSpec).bare.plain.varTypes Try.prog).any (Try.prog.mapsRec ·)) && (Rows.pairsOwnUptoRow.ifaces == (Try.f12.params.toList ++ (Rows.OpenSpec.upto Rows.pairsOwnSpec).bare.plain.varTypes Try.prog).any (Try.prog.ifacesRec ·)) && (Rows.pairsOwnUptoRow.mapsOut == Try.prog.mapsAmong Try.f12.resultTypes.toList) && (Rows.pairsOwnUptoRow.loops == (Try.f12.params.toList ++ (Rows.OpenSpec.upto Rows.pairsOwnSpec).bare.plain.varTypes Try.prog).any (Try.prog.loopsFrom ·)) && (Rows.pairsOwnUptoRow.wideKeys == (Try.f12.params.toList ++ (Rows.OpenSpec.upto Rows.pairsOwnSpec).bare.plain.varTypes Try.prog ++ Try.f12.resultTypes.toList).any (Try.prog.wideKeysFrom ·))) = true := by kernel_rfl
theorem b5e : ((Rows.OpenSpec.upto Rows.pairsOwnSpec).bare.vars.all (Try.prog.varReadable ·) && Try.f12.resultTypes.all (fun t => Try.prog.readableRec t && decide (t < Try.prog.types.size)) && (Rows.pairsOwnUptoRow.ifacesOut == Try.f12.resultTypes.toList.any (Try.prog.ifacesRec ·)) && (Rows.pairsOwnUptoRow.loopsOut == Try.f12.resultTypes.toList.any (Try.prog.loopsFrom ·))) = true := by kernel_rfl
theorem b5d : ((Rows.pairsOwnUptoRow.plainKeys == Try.prog.plainKeys) && Rows.pairsOwnUptoRow.shortTexts.isNone) = true := by kernel_rfl
theorem b5c : (Try.prog.stopsHeard && Try.prog.mayEnter) = true := by kernel_rfl
theorem b5b : ((Rows.pairsOwnUptoRow.lifted == Try.prog.liftsFinal)) = true := by kernel_rfl
theorem b5a : ((Try.prog.make == some Rows.pairsOwnUptoRow.make)) = true := by kernel_rfl
theorem b49 : ((Rows.pairsOwnUptoRow.kinds == (if Rows.pairsOwnUptoRow.domain.isEmpty then [] else Try.f12.params.toList.map fun t => match Try.prog.underlying t with | some (.int k) => some k | _ => none)) && (Rows.pairsOwnUptoRow.pinned == Rows.pairsOwnUptoRow.pinnedBy) && (Rows.pairsOwnUptoRow.veiled == (Try.f12.params.toList ++ (Rows.OpenSpec.upto Rows.pairsOwnSpec).bare.plain.varTypes Try.prog ++ Try.f12.resultTypes.toList).any (Try.prog.veiledRec ·)) && Rows.pairsOwnUptoRow.veiledFits Try.prog Try.f12.params.toList (Try.f12.params.toList ++ (Rows.OpenSpec.upto Rows.pairsOwnSpec).bare.plain.varTypes Try.prog ++ Try.f12.resultTypes.toList)) = true := by kernel_rfl
theorem a7Q : joinedFacts Try.prog 12 Try.f12 (Rows.OpenSpec.upto Rows.pairsOwnSpec).bare Rows.pairsOwnUptoRow = true := by
  unfold joinedFacts
  simp only [Bool.and_eq_true]
  have ha := b5k
  simp only [Bool.and_eq_true] at ha
  obtain ⟨⟨c1, c4⟩, c5⟩ := ha
  have c3 := b5j
  have hd := b5i
  simp only [Bool.and_eq_true] at hd
  obtain ⟨⟨⟨c6, c7⟩, c8⟩, c9⟩ := hd
  have he := b5h
  simp only [Bool.and_eq_true] at he
  obtain ⟨c10, c11⟩ := he
  have hg := b5g
  simp only [Bool.and_eq_true] at hg
  obtain ⟨c12, c13⟩ := hg
  have hh := b5f
  simp only [Bool.and_eq_true] at hh
  obtain ⟨⟨⟨⟨c14, c15⟩, c16⟩, c17⟩, c18⟩ := hh
  have hi := b5e
  simp only [Bool.and_eq_true] at hi
  obtain ⟨⟨⟨c19, c20⟩, c21⟩, c22⟩ := hi
  have hj := b5d
  simp only [Bool.and_eq_true] at hj
  obtain ⟨c23, c24⟩ := hj
  have hk := b5c
  simp only [Bool.and_eq_true] at hk
  obtain ⟨c25, c26⟩ := hk
  have c27 := b5b
  have c28 := b5a
  have hn := b49
  simp only [Bool.and_eq_true] at hn
  obtain ⟨⟨⟨c29, c30⟩, c31⟩, c32⟩ := hn
  exact ⟨⟨⟨⟨⟨⟨⟨⟨⟨⟨⟨⟨⟨⟨⟨⟨⟨⟨⟨⟨⟨⟨⟨⟨⟨⟨⟨⟨⟨⟨⟨c1, laid⟩, c3⟩, c4⟩, c5⟩, c6⟩, c7⟩, c8⟩, c9⟩, c10⟩, c11⟩, c12⟩, c13⟩, c14⟩, c15⟩, c16⟩, c17⟩, c18⟩, c19⟩, c20⟩, c21⟩, c22⟩, c23⟩, c24⟩, c25⟩, c26⟩, c27⟩, c28⟩, c29⟩, c30⟩, c31⟩, c32⟩

theorem b0v : Rows.pairsOwnUptoRow.holds Try.pinned (Rows.OpenSpec.upto Rows.pairsOwnSpec) :=
  OpenClaim.holds_of_cond 12 Try.f12 rfl rfl rfl rfl rfl rfl rfl ⟨rfl, rfl, rfl, rfl, rfl⟩ rfl rfl rfl rfl rfl (by kernel_rfl) Try.func12 a7Q
    (of_decide_eq_true (by kernel_rfl)) (by unfold Func.isWrapper; first | (rw [if_pos (by decide +kernel)]; kernel_rfl) | (rw [if_neg (by decide +kernel)]; exact ⟨rfl, rfl⟩))
    (fun os started H enc _ F => a7P os started H enc F)

theorem pairsOwn_proved : Rows.PairsOwnUptoSaid := b0v
#print axioms pairsOwn_proved
end Go.Proofs.Ytekbamiaenbhjaa
