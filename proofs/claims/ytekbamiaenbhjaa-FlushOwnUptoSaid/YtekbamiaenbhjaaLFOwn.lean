/- FlushOwn returns true whatever its arguments, and its arguments read as before, where what it reads is of bulk at most 1048576. No other condition. -/
import Derived.Test.YtekbamiaenbhjaaRows
import Derived.Test.YtekbamiaenbhjaaOwnF
namespace Go.Proofs.Ytekbamiaenbhjaa
open Go.Ex Go.ChangeShapes Go.WideShapes Go.ChangeAt Go.RowKit
set_option maxRecDepth 100000

mutual
theorem ub {H : Type} : ∀ d : DataW H, Rows.uptoBulk d = bulkW d
  | .lit l => by cases l <;> simp [Rows.uptoBulk, bulkW]
  | .nil => by simp [Rows.uptoBulk, bulkW]
  | .ptr d => by simp [Rows.uptoBulk, bulkW, ub d]
  | .slice a b => by simp [Rows.uptoBulk, bulkW, ubAll a, ubAll b]
  | .agg a => by simp [Rows.uptoBulk, bulkW, ubAll a]
  | .iface _ d => by simp [Rows.uptoBulk, bulkW, ub d]
  | .map e => by simp [Rows.uptoBulk, bulkW, ubEntries e]
  | .held _ => by simp [Rows.uptoBulk, bulkW]
theorem ubAll {H : Type} : ∀ l : List (DataW H), Rows.uptoBulkAll l = bulkWAll l
  | [] => by simp [Rows.uptoBulkAll, bulkWAll]
  | d :: r => by simp [Rows.uptoBulkAll, bulkWAll, ub d, ubAll r]
theorem ubEntries {H : Type} : ∀ l : List (Lit × DataW H), Rows.uptoBulkEntries l = bulkWEntries l
  | [] => by simp [Rows.uptoBulkEntries, bulkWEntries]
  | x :: r => by simp [Rows.uptoBulkEntries, bulkWEntries, ubEntry x, ubEntries r]
theorem ubEntry {H : Type} : ∀ x : Lit × DataW H, Rows.uptoBulkEntry x = bulkWEntry x
  | (l, d) => by cases l <;> simp [Rows.uptoBulkEntry, bulkWEntry, ub d]
end

theorem flushOwn_lifted (os : Os) (started : os.Started) (H : Type) (enc : TypeId × Value → H) (F : Stop.Interp) :
    ReturnsInHanded {} Try.checked os 4 .any ((Rows.OpenSpec.upto Rows.flushOwnSpec).pre6 enc Try.prog Try.f4 Rows.flushOwnUptoRow.domain false) (((Rows.OpenSpec.upto Rows.flushOwnSpec).at F).post enc Try.prog Try.f4 false true false false) := by
  refine law_upto (C := Try.checked) (s := Rows.OpenSpec.upto Rows.flushOwnSpec) (k := Rows.uptoSmall) rfl (us := [Flush, I64, I64]) (tb := 4) own started (by kernel_rfl) Try.func4
    (OpenSpec.witness (enc := enc) (C := Try.checked) (s := Rows.OpenSpec.upto Rows.flushOwnSpec) (k := Rows.uptoSmall) rfl false ⟨#[], #[.agg #[.int .i64 0, .int .u8 0, .int .u8 0, .slice none 0 0, .slice none 0 0, .slice none 0 0, .slice none 0 0, .slice none 0 0, .slice none 0 0], .int .i64 0, .int .i64 0], []⟩ 8 (by kernel_rfl) (by kernel_rfl) (by kernel_rfl)
      (x := ([.agg [.agg [.lit (.int .i64 0), .lit (.int .u8 0)], .lit (.int .u8 0), .agg [.nil, .nil, .nil, .nil, .nil, .nil]], .lit (.int .i64 0), .lit (.int .i64 0)], [], [])) (by kernel_rfl) rfl (by kernel_rfl))
    (fun ds h => ubAll ds ▸ of_decide_eq_true h) laid (by kernel_rfl) rfl ?_ rfl Try.underlying4 cFlushOwn_valid
  intro ds hds
  match ds, hds with
  | [_, _, _], _ => rfl

theorem flushOwn_a : (Rows.flushOwnUptoRow.wf (OpenSpec.ofChange (Rows.OpenSpec.upto Rows.flushOwnSpec).bare) && Try.f4.params.all (Try.prog.readableRec ·) && namedTie Try.prog Rows.flushOwnUptoRow.named (Rows.OpenSpec.upto Rows.flushOwnSpec).bare.vars) = true := by kernel_rfl
theorem flushOwn_b : (mapsRowed Try.prog) = true := by kernel_rfl
theorem flushOwn_d : ((Rows.flushOwnUptoRow.stops == []) && (Try.prog.stops == []) && (Rows.flushOwnUptoRow.knobs == []) && (Try.prog.stopKnobs == [])) = true := by kernel_rfl
theorem flushOwn_e : ((Rows.flushOwnUptoRow.inPlace == Try.prog.inPlace 4) && (Rows.flushOwnUptoRow.unfollowed == Try.prog.unfollowed 4)) = true := by kernel_rfl
theorem flushOwn_g : ((Rows.flushOwnUptoRow.recurses == Try.prog.recurses 4) && (Rows.flushOwnUptoRow.named == Try.prog.varsNamed 4)) = true := by kernel_rfl
theorem flushOwn_h : ((Rows.flushOwnUptoRow.maps == (Try.f4.params.toList ++ (Rows.OpenSpec.upto Rows.flushOwnSpec).bare.plain.varTypes Try.prog).any (Try.prog.mapsRec ·)) && (Rows.flushOwnUptoRow.ifaces == (Try.f4.params.toList ++ (Rows.OpenSpec.upto Rows.flushOwnSpec).bare.plain.varTypes Try.prog).any (Try.prog.ifacesRec ·)) && (Rows.flushOwnUptoRow.mapsOut == Try.prog.mapsAmong Try.f4.resultTypes.toList) && (Rows.flushOwnUptoRow.loops == (Try.f4.params.toList ++ (Rows.OpenSpec.upto Rows.flushOwnSpec).bare.plain.varTypes Try.prog).any (Try.prog.loopsFrom ·)) && (Rows.flushOwnUptoRow.wideKeys == (Try.f4.params.toList ++ (Rows.OpenSpec.upto Rows.flushOwnSpec).bare.plain.varTypes Try.prog ++ Try.f4.resultTypes.toList).any (Try.prog.wideKeysFrom ·))) = true := by kernel_rfl
theorem flushOwn_i : ((Rows.OpenSpec.upto Rows.flushOwnSpec).bare.vars.all (Try.prog.varReadable ·) && Try.f4.resultTypes.all (fun t => Try.prog.readableRec t && decide (t < Try.prog.types.size)) && (Rows.flushOwnUptoRow.ifacesOut == Try.f4.resultTypes.toList.any (Try.prog.ifacesRec ·)) && (Rows.flushOwnUptoRow.loopsOut == Try.f4.resultTypes.toList.any (Try.prog.loopsFrom ·))) = true := by kernel_rfl
theorem flushOwn_j : ((Rows.flushOwnUptoRow.plainKeys == Try.prog.plainKeys) && Rows.flushOwnUptoRow.shortTexts.isNone) = true := by kernel_rfl
theorem flushOwn_k : (Try.prog.stopsHeard && Try.prog.mayEnter) = true := by kernel_rfl
theorem flushOwn_l : ((Rows.flushOwnUptoRow.lifted == Try.prog.liftsFinal)) = true := by kernel_rfl
theorem flushOwn_m : ((Try.prog.make == some Rows.flushOwnUptoRow.make)) = true := by kernel_rfl
theorem flushOwn_n : ((Rows.flushOwnUptoRow.kinds == (if Rows.flushOwnUptoRow.domain.isEmpty then [] else Try.f4.params.toList.map fun t => match Try.prog.underlying t with | some (.int k) => some k | _ => none)) && (Rows.flushOwnUptoRow.pinned == Rows.flushOwnUptoRow.pinnedBy) && (Rows.flushOwnUptoRow.veiled == (Try.f4.params.toList ++ (Rows.OpenSpec.upto Rows.flushOwnSpec).bare.plain.varTypes Try.prog ++ Try.f4.resultTypes.toList).any (Try.prog.veiledRec ·)) && Rows.flushOwnUptoRow.veiledFits Try.prog Try.f4.params.toList (Try.f4.params.toList ++ (Rows.OpenSpec.upto Rows.flushOwnSpec).bare.plain.varTypes Try.prog ++ Try.f4.resultTypes.toList)) = true := by kernel_rfl
theorem flushOwn_closed : joinedFacts Try.prog 4 Try.f4 (Rows.OpenSpec.upto Rows.flushOwnSpec).bare Rows.flushOwnUptoRow = true := by
  unfold joinedFacts
  simp only [Bool.and_eq_true]
  have ha := flushOwn_a
  simp only [Bool.and_eq_true] at ha
  obtain ⟨⟨c1, c4⟩, c5⟩ := ha
  have c3 := flushOwn_b
  have hd := flushOwn_d
  simp only [Bool.and_eq_true] at hd
  obtain ⟨⟨⟨c6, c7⟩, c8⟩, c9⟩ := hd
  have he := flushOwn_e
  simp only [Bool.and_eq_true] at he
  obtain ⟨c10, c11⟩ := he
  have hg := flushOwn_g
  simp only [Bool.and_eq_true] at hg
  obtain ⟨c12, c13⟩ := hg
  have hh := flushOwn_h
  simp only [Bool.and_eq_true] at hh
  obtain ⟨⟨⟨⟨c14, c15⟩, c16⟩, c17⟩, c18⟩ := hh
  have hi := flushOwn_i
  simp only [Bool.and_eq_true] at hi
  obtain ⟨⟨⟨c19, c20⟩, c21⟩, c22⟩ := hi
  have hj := flushOwn_j
  simp only [Bool.and_eq_true] at hj
  obtain ⟨c23, c24⟩ := hj
  have hk := flushOwn_k
  simp only [Bool.and_eq_true] at hk
  obtain ⟨c25, c26⟩ := hk
  have c27 := flushOwn_l
  have c28 := flushOwn_m
  have hn := flushOwn_n
  simp only [Bool.and_eq_true] at hn
  obtain ⟨⟨⟨c29, c30⟩, c31⟩, c32⟩ := hn
  exact ⟨⟨⟨⟨⟨⟨⟨⟨⟨⟨⟨⟨⟨⟨⟨⟨⟨⟨⟨⟨⟨⟨⟨⟨⟨⟨⟨⟨⟨⟨⟨c1, laid⟩, c3⟩, c4⟩, c5⟩, c6⟩, c7⟩, c8⟩, c9⟩, c10⟩, c11⟩, c12⟩, c13⟩, c14⟩, c15⟩, c16⟩, c17⟩, c18⟩, c19⟩, c20⟩, c21⟩, c22⟩, c23⟩, c24⟩, c25⟩, c26⟩, c27⟩, c28⟩, c29⟩, c30⟩, c31⟩, c32⟩

theorem flushOwn_over : Rows.flushOwnUptoRow.holds Try.pinned (Rows.OpenSpec.upto Rows.flushOwnSpec) :=
  OpenClaim.holds_of_cond 4 Try.f4 rfl rfl rfl rfl rfl rfl rfl ⟨rfl, rfl, rfl, rfl, rfl⟩ rfl rfl rfl rfl rfl (by kernel_rfl) Try.func4 flushOwn_closed
    (of_decide_eq_true (by kernel_rfl)) (by unfold Func.isWrapper; first | (rw [if_pos (by decide +kernel)]; kernel_rfl) | (rw [if_neg (by decide +kernel)]; exact ⟨rfl, rfl⟩))
    (fun os started H enc _ F => flushOwn_lifted os started H enc F)

theorem flushOwn_proved : Rows.FlushOwnUptoSaid := flushOwn_over
#print axioms flushOwn_proved
end Go.Proofs.Ytekbamiaenbhjaa
