/- StampTotal returns true whatever its arguments, and its arguments read as before. No other condition. -/
import Derived.Test.YtekbamiaenbhjaaRows
import Derived.Test.YtekbamiaenbhjaaStK
namespace Go.Proofs.Ytekbamiaenbhjaa
open Go.Ex Go.ChangeShapes Go.WideShapes Go.ChangeAt Go.RowKit
set_option maxRecDepth 100000

theorem a6f (os : Os) (started : os.Started) (H : Type) (enc : TypeId × Value → H) :
    ReturnsInHanded {} Try.checked os 7 .any (Rows.stampTotalSpec.pre6 enc Try.prog Try.f7 Rows.stampTotalRow.domain false) (Rows.stampTotalSpec.post enc Try.prog Try.f7 false true false false) := by
  refine b5D (C := Try.checked) (us := [Es]) (tb := 4) own started (by kernel_rfl) Try.func7
    (ChangeSpec.witness6 (enc := enc) (C := Try.checked) false ⟨#[], #[.slice none 0 0], []⟩ 8 (by kernel_rfl) (by kernel_rfl) (by kernel_rfl) (by kernel_rfl))
    laid (by kernel_rfl) rfl ?_ rfl Try.underlying4 a6h
  intro ds hds
  match ds, hds with
  | [_], _ => rfl

theorem b0k : (Rows.stampTotalRow.wf (OpenSpec.ofChange Rows.stampTotalSpec) && Try.f7.params.all (Try.prog.readableRec ·) && namedTie Try.prog Rows.stampTotalRow.named Rows.stampTotalSpec.vars) = true := by kernel_rfl
theorem b0j : (mapsRowed Try.prog) = true := by kernel_rfl
theorem b0i : ((Rows.stampTotalRow.stops == []) && (Try.prog.stops == []) && (Rows.stampTotalRow.knobs == []) && (Try.prog.stopKnobs == [])) = true := by kernel_rfl
theorem b0h : ((Rows.stampTotalRow.inPlace == Try.prog.inPlace 7) && (Rows.stampTotalRow.unfollowed == Try.prog.unfollowed 7)) = true := by kernel_rfl
theorem b0g : ((Rows.stampTotalRow.recurses == Try.prog.recurses 7) && (Rows.stampTotalRow.named == Try.prog.varsNamed 7)) = true := by kernel_rfl
theorem b0f : ((Rows.stampTotalRow.maps == (Try.f7.params.toList ++ Rows.stampTotalSpec.plain.varTypes Try.prog).any (Try.prog.mapsRec ·)) && (Rows.stampTotalRow.ifaces == (Try.f7.params.toList ++ Rows.stampTotalSpec.plain.varTypes Try.prog).any (Try.prog.ifacesRec ·)) && (Rows.stampTotalRow.mapsOut == Try.prog.mapsAmong Try.f7.resultTypes.toList) && (Rows.stampTotalRow.loops == (Try.f7.params.toList ++ Rows.stampTotalSpec.plain.varTypes Try.prog).any (Try.prog.loopsFrom ·)) && (Rows.stampTotalRow.wideKeys == (Try.f7.params.toList ++ Rows.stampTotalSpec.plain.varTypes Try.prog ++ Try.f7.resultTypes.toList).any (Try.prog.wideKeysFrom ·))) = true := by kernel_rfl
theorem b0e : (Rows.stampTotalSpec.vars.all (Try.prog.varReadable ·) && Try.f7.resultTypes.all (fun t => Try.prog.readableRec t && decide (t < Try.prog.types.size)) && (Rows.stampTotalRow.ifacesOut == Try.f7.resultTypes.toList.any (Try.prog.ifacesRec ·)) && (Rows.stampTotalRow.loopsOut == Try.f7.resultTypes.toList.any (Try.prog.loopsFrom ·))) = true := by kernel_rfl
theorem b0d : ((Rows.stampTotalRow.plainKeys == Try.prog.plainKeys) && Rows.stampTotalRow.shortTexts.isNone) = true := by kernel_rfl
theorem b0c : (Try.prog.stopsHeard && Try.prog.mayEnter) = true := by kernel_rfl
theorem b0b : ((Rows.stampTotalRow.lifted == Try.prog.liftsFinal)) = true := by kernel_rfl
theorem b0a : ((Try.prog.make == some Rows.stampTotalRow.make)) = true := by kernel_rfl
theorem a99 : ((Rows.stampTotalRow.kinds == (if Rows.stampTotalRow.domain.isEmpty then [] else Try.f7.params.toList.map fun t => match Try.prog.underlying t with | some (.int k) => some k | _ => none)) && (Rows.stampTotalRow.pinned == Rows.stampTotalRow.pinnedBy) && (Rows.stampTotalRow.veiled == (Try.f7.params.toList ++ Rows.stampTotalSpec.plain.varTypes Try.prog ++ Try.f7.resultTypes.toList).any (Try.prog.veiledRec ·)) && Rows.stampTotalRow.veiledFits Try.prog Try.f7.params.toList (Try.f7.params.toList ++ Rows.stampTotalSpec.plain.varTypes Try.prog ++ Try.f7.resultTypes.toList)) = true := by kernel_rfl
theorem a6g : joinedFacts Try.prog 7 Try.f7 Rows.stampTotalSpec Rows.stampTotalRow = true := by
  unfold joinedFacts
  simp only [Bool.and_eq_true]
  have ha := b0k
  simp only [Bool.and_eq_true] at ha
  obtain ⟨⟨c1, c4⟩, c5⟩ := ha
  have c3 := b0j
  have hd := b0i
  simp only [Bool.and_eq_true] at hd
  obtain ⟨⟨⟨c6, c7⟩, c8⟩, c9⟩ := hd
  have he := b0h
  simp only [Bool.and_eq_true] at he
  obtain ⟨c10, c11⟩ := he
  have hg := b0g
  simp only [Bool.and_eq_true] at hg
  obtain ⟨c12, c13⟩ := hg
  have hh := b0f
  simp only [Bool.and_eq_true] at hh
  obtain ⟨⟨⟨⟨c14, c15⟩, c16⟩, c17⟩, c18⟩ := hh
  have hi := b0e
  simp only [Bool.and_eq_true] at hi
  obtain ⟨⟨⟨c19, c20⟩, c21⟩, c22⟩ := hi
  have hj := b0d
  simp only [Bool.and_eq_true] at hj
  obtain ⟨c23, c24⟩ := hj
  have hk := b0c
  simp only [Bool.and_eq_true] at hk
  obtain ⟨c25, c26⟩ := hk
  have c27 := b0b
  have c28 := b0a
  have hn := a99
  simp only [Bool.and_eq_true] at hn
  obtain ⟨⟨⟨c29, c30⟩, c31⟩, c32⟩ := hn
  exact ⟨⟨⟨⟨⟨⟨⟨⟨⟨⟨⟨⟨⟨⟨⟨⟨⟨⟨⟨⟨⟨⟨⟨⟨⟨⟨⟨⟨⟨⟨⟨c1, laid⟩, c3⟩, c4⟩, c5⟩, c6⟩, c7⟩, c8⟩, c9⟩, c10⟩, c11⟩, c12⟩, c13⟩, c14⟩, c15⟩, c16⟩, c17⟩, c18⟩, c19⟩, c20⟩, c21⟩, c22⟩, c23⟩, c24⟩, c25⟩, c26⟩, c27⟩, c28⟩, c29⟩, c30⟩, c31⟩, c32⟩

theorem a7t : Rows.stampTotalRow.holds Try.pinned (OpenSpec.ofChange Rows.stampTotalSpec) :=
  OpenClaim.holds_of_wide 7 Try.f7 rfl rfl rfl rfl rfl rfl rfl ⟨rfl, rfl, rfl, rfl, rfl⟩ rfl rfl rfl rfl rfl (by kernel_rfl) Try.func7 a6g
    (of_decide_eq_true (by kernel_rfl)) (by unfold Func.isWrapper; first | (rw [if_pos (by decide +kernel)]; kernel_rfl) | (rw [if_neg (by decide +kernel)]; exact ⟨rfl, rfl⟩))
    (fun os started H enc _ => a6f os started H enc)

theorem stampTotal_proved : Rows.StampTotalSaid := a7t
#print axioms stampTotal_proved
end Go.Proofs.Ytekbamiaenbhjaa
