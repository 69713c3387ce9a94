/- TopOrder returns true whatever its arguments, and its arguments read as before. No other condition. -/
import Derived.Test.YtekbamiaenbhjaaRows
import Derived.Test.YtekbamiaenbhjaaTopO
namespace Go.Proofs.Ytekbamiaenbhjaa
open Go.Ex Go.ChangeShapes Go.WideShapes Go.ChangeAt Go.RowKit
set_option maxRecDepth 100000

theorem a89 (os : Os) (started : os.Started) (H : Type) (enc : TypeId × Value → H) :
    ReturnsInHanded {} Try.checked os 5 .any (Rows.topOrderSpec.pre6 enc Try.prog Try.f5 Rows.topOrderRow.domain false) (Rows.topOrderSpec.post enc Try.prog Try.f5 false true false false) := by
  refine b9E (C := Try.checked) (us := [Es]) (tb := 4) own started (by kernel_rfl) Try.func5
    (ChangeSpec.witness6 (enc := enc) (C := Try.checked) false ⟨#[], #[.slice none 0 0], []⟩ 8 (by kernel_rfl) (by kernel_rfl) (by kernel_rfl) (by kernel_rfl))
    laid (by kernel_rfl) rfl ?_ rfl Try.underlying4 a9T
  intro ds hds
  match ds, hds with
  | [_], _ => rfl

theorem b60 : (Rows.topOrderRow.wf (OpenSpec.ofChange Rows.topOrderSpec) && Try.f5.params.all (Try.prog.readableRec ·) && namedTie Try.prog Rows.topOrderRow.named Rows.topOrderSpec.vars) = true := by kernel_rfl
theorem b6Z : (mapsRowed Try.prog) = true := by kernel_rfl
theorem b6Y : ((Rows.topOrderRow.stops == []) && (Try.prog.stops == []) && (Rows.topOrderRow.knobs == []) && (Try.prog.stopKnobs == [])) = true := by kernel_rfl
theorem b6X : ((Rows.topOrderRow.inPlace == Try.prog.inPlace 5) && (Rows.topOrderRow.unfollowed == Try.prog.unfollowed 5)) = true := by kernel_rfl
theorem b6W : ((Rows.topOrderRow.recurses == Try.prog.recurses 5) && (Rows.topOrderRow.named == Try.prog.varsNamed 5)) = true := by kernel_rfl
theorem b6V : ((Rows.topOrderRow.maps == (Try.f5.params.toList ++ Rows.topOrderSpec.plain.varTypes Try.prog).any (Try.prog.mapsRec ·)) && (Rows.topOrderRow.ifaces == (Try.f5.params.toList ++ Rows.topOrderSpec.plain.varTypes Try.prog).any (Try.prog.ifacesRec ·)) && (Rows.topOrderRow.mapsOut == Try.prog.mapsAmong Try.f5.resultTypes.toList) && (Rows.topOrderRow.loops == (Try.f5.params.toList ++ Rows.topOrderSpec.plain.varTypes Try.prog).any (Try.prog.loopsFrom ·)) && (Rows.topOrderRow.wideKeys == (Try.f5.params.toList ++ Rows.topOrderSpec.plain.varTypes Try.prog ++ Try.f5.resultTypes.toList).any (Try.prog.wideKeysFrom ·))) = true := by kernel_rfl
theorem b6U : (Rows.topOrderSpec.vars.all (Try.prog.varReadable ·) && Try.f5.resultTypes.all (fun t => Try.prog.readableRec t && decide (t < Try.prog.types.size)) && (Rows.topOrderRow.ifacesOut == Try.f5.resultTypes.toList.any (Try.prog.ifacesRec ·)) && (Rows.topOrderRow.loopsOut == Try.f5.resultTypes.toList.any (Try.prog.loopsFrom ·))) = true := by kernel_rfl
theorem b6T : ((Rows.topOrderRow.plainKeys == Try.prog.plainKeys) && Rows.topOrderRow.shortTexts.isNone) = true := by kernel_rfl
theorem b6S : (Try.prog.stopsHeard && Try.prog.mayEnter) = true := by kernel_rfl
theorem b6R : ((Rows.topOrderRow.lifted == Try.prog.liftsFinal)) = true := by kernel_rfl
theorem b6Q : ((Try.prog.make == some Rows.topOrderRow.make)) = true := by kernel_rfl
theorem b6P : ((Rows.topOrderRow.kinds == (if Rows.topOrderRow.domain.isEmpty then [] else Try.f5.params.toList.map fun t => match Try.prog.underlying t with | some (.int k) => some k | _ => none)) && (Rows.topOrderRow.pinned == Rows.topOrderRow.pinnedBy) && (Rows.topOrderRow.veiled == (Try.f5.params.toList ++ Rows.topOrderSpec.plain.varTypes Try.prog ++ Try.f5.resultTypes.toList).any (Try.prog.veiledRec ·)) && Rows.topOrderRow.veiledFits Try.prog Try.f5.params.toList (Try.f5.params.toList ++ Rows.topOrderSpec.plain.varTypes Try.prog ++ Try.f5.resultTypes.toList)) = true := by kernel_rfl
theorem a9a : joinedFacts Try.prog 5 Try.f5 Rows.topOrderSpec Rows.topOrderRow = true := by
  unfold joinedFacts
  simp only [Bool.and_eq_true]
  have ha := b60
  simp only [Bool.and_eq_true] at ha
  obtain ⟨⟨c1, c4⟩, c5⟩ := ha
  have c3 := b6Z
  have hd := b6Y
  simp only [Bool.and_eq_true] at hd
  obtain ⟨⟨⟨c6, c7⟩, c8⟩, c9⟩ := hd
  have he := b6X
  simp only [Bool.and_eq_true] at he
  obtain ⟨c10, c11⟩ := he
  have hg := b6W
  simp only [Bool.and_eq_true] at hg
  obtain ⟨c12, c13⟩ := hg
  have hh := b6V
  simp only [Bool.and_eq_true] at hh
  obtain ⟨⟨⟨⟨c14, c15⟩, c16⟩, c17⟩, c18⟩ := hh
  have hi := b6U
  simp only [Bool.and_eq_true] at hi
  obtain ⟨⟨⟨c19, c20⟩, c21⟩, c22⟩ := hi
  have hj := b6T
  simp only [Bool.and_eq_true] at hj
  obtain ⟨c23, c24⟩ := hj
  have hk := b6S
  simp only [Bool.and_eq_true] at hk
  obtain ⟨c25, c26⟩ := hk
  have c27 := b6R
  have c28 := b6Q
  have hn := b6P
  simp only [Bool.and_eq_true] at hn
  obtain ⟨⟨⟨c29, c30⟩, c31⟩, c32⟩ := hn
  exact ⟨⟨⟨⟨⟨⟨⟨⟨⟨⟨⟨⟨⟨⟨⟨⟨⟨⟨⟨⟨⟨⟨⟨⟨⟨⟨⟨⟨⟨⟨⟨c1, laid⟩, c3⟩, c4⟩, c5⟩, c6⟩, c7⟩, c8⟩, c9⟩, c10⟩, c11⟩, c12⟩, c13⟩, c14⟩, c15⟩, c16⟩, c17⟩, c18⟩, c19⟩, c20⟩, c21⟩, c22⟩, c23⟩, c24⟩, c25⟩, c26⟩, c27⟩, c28⟩, c29⟩, c30⟩, c31⟩, c32⟩

theorem b2a : Rows.topOrderRow.holds Try.pinned (OpenSpec.ofChange Rows.topOrderSpec) :=
  OpenClaim.holds_of_wide 5 Try.f5 rfl rfl rfl rfl rfl rfl rfl ⟨rfl, rfl, rfl, rfl, rfl⟩ rfl rfl rfl rfl rfl (by kernel_rfl) Try.func5 a9a
    (of_decide_eq_true (by kernel_rfl)) (by unfold Func.isWrapper; first | (rw [if_pos (by decide +kernel)]; kernel_rfl) | (rw [if_neg (by decide +kernel)]; exact ⟨rfl, rfl⟩))
    (fun os started H enc _ => a89 os started H enc)

theorem topOrder_proved : Rows.TopOrderSaid := b2a
#print axioms topOrder_proved
end Go.Proofs.Ytekbamiaenbhjaa
