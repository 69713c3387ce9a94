/- FlushSame returns true whatever its arguments, and its arguments read as before. No other condition. -/
import Derived.Test.YtekbamiaenbhjaaRows
import Derived.Test.YtekbamiaenbhjaaFluW
namespace Go.Proofs.Ytekbamiaenbhjaa
open Go.Ex Go.ChangeShapes Go.WideShapes Go.ChangeAt Go.RowKit
set_option maxRecDepth 100000

theorem a6j (os : Os) (started : os.Started) (H : Type) (enc : TypeId × Value → H) :
    ReturnsInHanded {} Try.checked os 10 .any (Rows.flushSameSpec.pre6 enc Try.prog Try.f10 Rows.flushSameRow.domain false) (Rows.flushSameSpec.post enc Try.prog Try.f10 false true false false) := by
  refine b4B (C := Try.checked) (us := [a39, U8]) (tb := 4) own started (by kernel_rfl) Try.func10
    (ChangeSpec.witness6 (enc := enc) (C := Try.checked) false ⟨#[], #[.agg #[.int .i64 0, .int .u8 0, .int .u8 0, .slice none 0 0, .slice none 0 0, .slice none 0 0, .slice none 0 0, .slice none 0 0, .slice none 0 0], .int .u8 0], []⟩ 8 (by kernel_rfl) (by kernel_rfl) (by kernel_rfl) (by kernel_rfl))
    laid (by kernel_rfl) rfl ?_ rfl Try.underlying4 a6q
  intro ds hds
  match ds, hds with
  | [_, _], _ => rfl

theorem b1k : (Rows.flushSameRow.wf (OpenSpec.ofChange Rows.flushSameSpec) && Try.f10.params.all (Try.prog.readableRec ·) && namedTie Try.prog Rows.flushSameRow.named Rows.flushSameSpec.vars) = true := by kernel_rfl
theorem b1j : (mapsRowed Try.prog) = true := by kernel_rfl
theorem b1i : ((Rows.flushSameRow.stops == []) && (Try.prog.stops == []) && (Rows.flushSameRow.knobs == []) && (Try.prog.stopKnobs == [])) = true := by kernel_rfl
theorem b1h : ((Rows.flushSameRow.inPlace == Try.prog.inPlace 10) && (Rows.flushSameRow.unfollowed == Try.prog.unfollowed 10)) = true := by kernel_rfl
theorem b1g : ((Rows.flushSameRow.recurses == Try.prog.recurses 10) && (Rows.flushSameRow.named == Try.prog.varsNamed 10)) = true := by kernel_rfl
theorem b1f : ((Rows.flushSameRow.maps == (Try.f10.params.toList ++ Rows.flushSameSpec.plain.varTypes Try.prog).any (Try.prog.mapsRec ·)) && (Rows.flushSameRow.ifaces == (Try.f10.params.toList ++ Rows.flushSameSpec.plain.varTypes Try.prog).any (Try.prog.ifacesRec ·)) && (Rows.flushSameRow.mapsOut == Try.prog.mapsAmong Try.f10.resultTypes.toList) && (Rows.flushSameRow.loops == (Try.f10.params.toList ++ Rows.flushSameSpec.plain.varTypes Try.prog).any (Try.prog.loopsFrom ·)) && (Rows.flushSameRow.wideKeys == (Try.f10.params.toList ++ Rows.flushSameSpec.plain.varTypes Try.prog ++ Try.f10.resultTypes.toList).any (Try.prog.wideKeysFrom ·))) = true := by kernel_rfl
theorem b1e : (Rows.flushSameSpec.vars.all (Try.prog.varReadable ·) && Try.f10.resultTypes.all (fun t => Try.prog.readableRec t && decide (t < Try.prog.types.size)) && (Rows.flushSameRow.ifacesOut == Try.f10.resultTypes.toList.any (Try.prog.ifacesRec ·)) && (Rows.flushSameRow.loopsOut == Try.f10.resultTypes.toList.any (Try.prog.loopsFrom ·))) = true := by kernel_rfl
theorem b1d : ((Rows.flushSameRow.plainKeys == Try.prog.plainKeys) && Rows.flushSameRow.shortTexts.isNone) = true := by kernel_rfl
theorem b1c : (Try.prog.stopsHeard && Try.prog.mayEnter) = true := by kernel_rfl
theorem b1b : ((Rows.flushSameRow.lifted == Try.prog.liftsFinal)) = true := by kernel_rfl
theorem b1a : ((Try.prog.make == some Rows.flushSameRow.make)) = true := by kernel_rfl
theorem b09 : ((Rows.flushSameRow.kinds == (if Rows.flushSameRow.domain.isEmpty then [] else Try.f10.params.toList.map fun t => match Try.prog.underlying t with | some (.int k) => some k | _ => none)) && (Rows.flushSameRow.pinned == Rows.flushSameRow.pinnedBy) && (Rows.flushSameRow.veiled == (Try.f10.params.toList ++ Rows.flushSameSpec.plain.varTypes Try.prog ++ Try.f10.resultTypes.toList).any (Try.prog.veiledRec ·)) && Rows.flushSameRow.veiledFits Try.prog Try.f10.params.toList (Try.f10.params.toList ++ Rows.flushSameSpec.plain.varTypes Try.prog ++ Try.f10.resultTypes.toList)) = true := by kernel_rfl
theorem a6k : joinedFacts Try.prog 10 Try.f10 Rows.flushSameSpec Rows.flushSameRow = true := by
  unfold joinedFacts
  simp only [Bool.and_eq_true]
  have ha := b1k
  simp only [Bool.and_eq_true] at ha
  obtain ⟨⟨c1, c4⟩, c5⟩ := ha
  have c3 := b1j
  have hd := b1i
  simp only [Bool.and_eq_true] at hd
  obtain ⟨⟨⟨c6, c7⟩, c8⟩, c9⟩ := hd
  have he := b1h
  simp only [Bool.and_eq_true] at he
  obtain ⟨c10, c11⟩ := he
  have hg := b1g
  simp only [Bool.and_eq_true] at hg
  obtain ⟨c12, c13⟩ := hg
  have hh := b1f
  simp only [Bool.and_eq_true] at hh
  obtain ⟨⟨⟨⟨c14, c15⟩, c16⟩, c17⟩, c18⟩ := hh
  have hi := b1e
  simp only [Bool.and_eq_true] at hi
  obtain ⟨⟨⟨c19, c20⟩, c21⟩, c22⟩ := hi
  have hj := b1d
  simp only [Bool.and_eq_true] at hj
  obtain ⟨c23, c24⟩ := hj
  have hk := b1c
  simp only [Bool.and_eq_true] at hk
  obtain ⟨c25, c26⟩ := hk
  have c27 := b1b
  have c28 := b1a
  have hn := b09
  simp only [Bool.and_eq_true] at hn
  obtain ⟨⟨⟨c29, c30⟩, c31⟩, c32⟩ := hn
  exact ⟨⟨⟨⟨⟨⟨⟨⟨⟨⟨⟨⟨⟨⟨⟨⟨⟨⟨⟨⟨⟨⟨⟨⟨⟨⟨⟨⟨⟨⟨⟨c1, laid⟩, c3⟩, c4⟩, c5⟩, c6⟩, c7⟩, c8⟩, c9⟩, c10⟩, c11⟩, c12⟩, c13⟩, c14⟩, c15⟩, c16⟩, c17⟩, c18⟩, c19⟩, c20⟩, c21⟩, c22⟩, c23⟩, c24⟩, c25⟩, c26⟩, c27⟩, c28⟩, c29⟩, c30⟩, c31⟩, c32⟩

theorem a7L : Rows.flushSameRow.holds Try.pinned (OpenSpec.ofChange Rows.flushSameSpec) :=
  OpenClaim.holds_of_wide 10 Try.f10 rfl rfl rfl rfl rfl rfl rfl ⟨rfl, rfl, rfl, rfl, rfl⟩ rfl rfl rfl rfl rfl (by kernel_rfl) Try.func10 a6k
    (of_decide_eq_true (by kernel_rfl)) (by unfold Func.isWrapper; first | (rw [if_pos (by decide +kernel)]; kernel_rfl) | (rw [if_neg (by decide +kernel)]; exact ⟨rfl, rfl⟩))
    (fun os started H enc _ => a6j os started H enc)

theorem flushSame_proved : Rows.FlushSameSaid := a7L
#print axioms flushSame_proved
end Go.Proofs.Ytekbamiaenbhjaa
