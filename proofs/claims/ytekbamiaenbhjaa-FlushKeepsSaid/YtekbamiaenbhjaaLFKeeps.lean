/- FlushKeeps returns true whatever its arguments, and its arguments read as before. No other condition. -/
import Derived.Test.YtekbamiaenbhjaaRows
import Derived.Test.YtekbamiaenbhjaaFluB
namespace Go.Proofs.Ytekbamiaenbhjaa
open Go.Ex Go.ChangeShapes Go.WideShapes Go.ChangeAt Go.RowKit
set_option maxRecDepth 100000

theorem flushKeeps_lifted (os : Os) (started : os.Started) (H : Type) (enc : TypeId × Value → H) :
    ReturnsInHanded {} Try.checked os 3 .any (Rows.flushKeepsSpec.pre6 enc Try.prog Try.f3 Rows.flushKeepsRow.domain false) (Rows.flushKeepsSpec.post enc Try.prog Try.f3 false true false false) := by
  refine law_holds (C := Try.checked) (us := [Flush, I64, I64]) (tb := 4) own started (by kernel_rfl) Try.func3
    (ChangeSpec.witness6 (enc := enc) (C := Try.checked) false ⟨#[], #[.agg #[.int .i64 0, .int .u8 0, .int .u8 0, .slice none 0 0, .slice none 0 0, .slice none 0 0, .slice none 0 0, .slice none 0 0, .slice none 0 0], .int .i64 0, .int .i64 0], []⟩ 8 (by kernel_rfl) (by kernel_rfl) (by kernel_rfl) (by kernel_rfl))
    laid (by kernel_rfl) rfl ?_ rfl Try.underlying4 cFlushKeeps_valid
  intro ds hds
  match ds, hds with
  | [_, _, _], _ => rfl

theorem flushKeeps_a : (Rows.flushKeepsRow.wf (OpenSpec.ofChange Rows.flushKeepsSpec) && Try.f3.params.all (Try.prog.readableRec ·) && namedTie Try.prog Rows.flushKeepsRow.named Rows.flushKeepsSpec.vars) = true := by kernel_rfl
theorem flushKeeps_b : (mapsRowed Try.prog) = true := by kernel_rfl
theorem flushKeeps_d : ((Rows.flushKeepsRow.stops == []) && (Try.prog.stops == []) && (Rows.flushKeepsRow.knobs == []) && (Try.prog.stopKnobs == [])) = true := by kernel_rfl
theorem flushKeeps_e : ((Rows.flushKeepsRow.inPlace == Try.prog.inPlace 3) && (Rows.flushKeepsRow.unfollowed == Try.prog.unfollowed 3)) = true := by kernel_rfl
theorem flushKeeps_g : ((Rows.flushKeepsRow.recurses == Try.prog.recurses 3) && (Rows.flushKeepsRow.named == Try.prog.varsNamed 3)) = true := by kernel_rfl
theorem flushKeeps_h : ((Rows.flushKeepsRow.maps == (Try.f3.params.toList ++ Rows.flushKeepsSpec.plain.varTypes Try.prog).any (Try.prog.mapsRec ·)) && (Rows.flushKeepsRow.ifaces == (Try.f3.params.toList ++ Rows.flushKeepsSpec.plain.varTypes Try.prog).any (Try.prog.ifacesRec ·)) && (Rows.flushKeepsRow.mapsOut == Try.prog.mapsAmong Try.f3.resultTypes.toList) && (Rows.flushKeepsRow.loops == (Try.f3.params.toList ++ Rows.flushKeepsSpec.plain.varTypes Try.prog).any (Try.prog.loopsFrom ·)) && (Rows.flushKeepsRow.wideKeys == (Try.f3.params.toList ++ Rows.flushKeepsSpec.plain.varTypes Try.prog ++ Try.f3.resultTypes.toList).any (Try.prog.wideKeysFrom ·))) = true := by kernel_rfl
theorem flushKeeps_i : (Rows.flushKeepsSpec.vars.all (Try.prog.varReadable ·) && Try.f3.resultTypes.all (fun t => Try.prog.readableRec t && decide (t < Try.prog.types.size)) && (Rows.flushKeepsRow.ifacesOut == Try.f3.resultTypes.toList.any (Try.prog.ifacesRec ·)) && (Rows.flushKeepsRow.loopsOut == Try.f3.resultTypes.toList.any (Try.prog.loopsFrom ·))) = true := by kernel_rfl
theorem flushKeeps_j : ((Rows.flushKeepsRow.plainKeys == Try.prog.plainKeys) && Rows.flushKeepsRow.shortTexts.isNone) = true := by kernel_rfl
theorem flushKeeps_k : (Try.prog.stopsHeard && Try.prog.mayEnter) = true := by kernel_rfl
theorem flushKeeps_l : ((Rows.flushKeepsRow.lifted == Try.prog.liftsFinal)) = true := by kernel_rfl
theorem flushKeeps_m : ((Try.prog.make == some Rows.flushKeepsRow.make)) = true := by kernel_rfl
theorem flushKeeps_n : ((Rows.flushKeepsRow.kinds == (if Rows.flushKeepsRow.domain.isEmpty then [] else Try.f3.params.toList.map fun t => match Try.prog.underlying t with | some (.int k) => some k | _ => none)) && (Rows.flushKeepsRow.pinned == Rows.flushKeepsRow.pinnedBy) && (Rows.flushKeepsRow.veiled == (Try.f3.params.toList ++ Rows.flushKeepsSpec.plain.varTypes Try.prog ++ Try.f3.resultTypes.toList).any (Try.prog.veiledRec ·)) && Rows.flushKeepsRow.veiledFits Try.prog Try.f3.params.toList (Try.f3.params.toList ++ Rows.flushKeepsSpec.plain.varTypes Try.prog ++ Try.f3.resultTypes.toList)) = true := by kernel_rfl
theorem flushKeeps_closed : joinedFacts Try.prog 3 Try.f3 Rows.flushKeepsSpec Rows.flushKeepsRow = true := by
  unfold joinedFacts
  simp only [Bool.and_eq_true]
  have ha := flushKeeps_a
  simp only [Bool.and_eq_true] at ha
  obtain ⟨⟨c1, c4⟩, c5⟩ := ha
  have c3 := flushKeeps_b
  have hd := flushKeeps_d
  simp only [Bool.and_eq_true] at hd
  obtain ⟨⟨⟨c6, c7⟩, c8⟩, c9⟩ := hd
  have he := flushKeeps_e
  simp only [Bool.and_eq_true] at he
  obtain ⟨c10, c11⟩ := he
  have hg := flushKeeps_g
  simp only [Bool.and_eq_true] at hg
  obtain ⟨c12, c13⟩ := hg
  have hh := flushKeeps_h
  simp only [Bool.and_eq_true] at hh
  obtain ⟨⟨⟨⟨c14, c15⟩, c16⟩, c17⟩, c18⟩ := hh
  have hi := flushKeeps_i
  simp only [Bool.and_eq_true] at hi
  obtain ⟨⟨⟨c19, c20⟩, c21⟩, c22⟩ := hi
  have hj := flushKeeps_j
  simp only [Bool.and_eq_true] at hj
  obtain ⟨c23, c24⟩ := hj
  have hk := flushKeeps_k
  simp only [Bool.and_eq_true] at hk
  obtain ⟨c25, c26⟩ := hk
  have c27 := flushKeeps_l
  have c28 := flushKeeps_m
  have hn := flushKeeps_n
  simp only [Bool.and_eq_true] at hn
  obtain ⟨⟨⟨c29, c30⟩, c31⟩, c32⟩ := hn
  exact ⟨⟨⟨⟨⟨⟨⟨⟨⟨⟨⟨⟨⟨⟨⟨⟨⟨⟨⟨⟨⟨⟨⟨⟨⟨⟨⟨⟨⟨⟨⟨c1, laid⟩, c3⟩, c4⟩, c5⟩, c6⟩, c7⟩, c8⟩, c9⟩, c10⟩, c11⟩, c12⟩, c13⟩, c14⟩, c15⟩, c16⟩, c17⟩, c18⟩, c19⟩, c20⟩, c21⟩, c22⟩, c23⟩, c24⟩, c25⟩, c26⟩, c27⟩, c28⟩, c29⟩, c30⟩, c31⟩, c32⟩

theorem flushKeeps_over : Rows.flushKeepsRow.holds Try.pinned (OpenSpec.ofChange Rows.flushKeepsSpec) :=
  OpenClaim.holds_of_wide 3 Try.f3 rfl rfl rfl rfl rfl rfl rfl ⟨rfl, rfl, rfl, rfl, rfl⟩ rfl rfl rfl rfl rfl (by kernel_rfl) Try.func3 flushKeeps_closed
    (of_decide_eq_true (by kernel_rfl)) (by unfold Func.isWrapper; first | (rw [if_pos (by decide +kernel)]; kernel_rfl) | (rw [if_neg (by decide +kernel)]; exact ⟨rfl, rfl⟩))
    (fun os started H enc _ => flushKeeps_lifted os started H enc)

theorem flushKeeps_proved : Rows.FlushKeepsSaid := flushKeeps_over
#print axioms flushKeeps_proved
end Go.Proofs.Ytekbamiaenbhjaa
