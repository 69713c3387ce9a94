/- DoorsOwn returns true whatever its arguments, and its arguments read as before, where what it reads is of bulk at most 1048576. No other condition. -/
import Derived.Test.YtekbamiaenbhjaaRows
import Derived.Test.YtekbamiaenbhjaaOwnJ
namespace Go.Proofs.Ytekbamiaenbhjaa
open Go.Ex Go.ChangeShapes Go.WideShapes Go.ChangeAt Go.RowKit
set_option maxRecDepth 100000

mutual
theorem ub {H : Type} : ∀ d : DataW H, Rows.uptoBulk d = G2 d
  | .lit l => by cases l <;> simp [Rows.uptoBulk, G2]
  | .nil => by simp [Rows.uptoBulk, G2]
  | .ptr d => by simp [Rows.uptoBulk, G2, ub d]
  | .slice a b => by simp [Rows.uptoBulk, G2, a57 a, a57 b]
  | .agg a => by simp [Rows.uptoBulk, G2, a57 a]
  | .iface _ d => by simp [Rows.uptoBulk, G2, ub d]
  | .map e => by simp [Rows.uptoBulk, G2, a75 e]
  | .held _ => by simp [Rows.uptoBulk, G2]
theorem a57 {H : Type} : ∀ l : List (DataW H), Rows.uptoBulkAll l = L5 l
  | [] => by simp [Rows.uptoBulkAll, L5]
  | d :: r => by simp [Rows.uptoBulkAll, L5, ub d, a57 r]
theorem a75 {H : Type} : ∀ l : List (Lit × DataW H), Rows.uptoBulkEntries l = X7 l
  | [] => by simp [Rows.uptoBulkEntries, X7]
  | x :: r => by simp [Rows.uptoBulkEntries, X7, b66 x, a75 r]
theorem b66 {H : Type} : ∀ x : Lit × DataW H, Rows.uptoBulkEntry x = a3H x
  | (l, d) => by cases l <;> simp [Rows.uptoBulkEntry, a3H, ub d]
end

theorem a6F (os : Os) (started : os.Started) (H : Type) (enc : TypeId × Value → H) (F : Stop.Interp) :
    ReturnsInHanded {} Try.checked os 6 .any ((Rows.OpenSpec.upto Rows.doorsOwnSpec).pre6 enc Try.prog Try.f6 Rows.doorsOwnUptoRow.domain false) (((Rows.OpenSpec.upto Rows.doorsOwnSpec).at F).post enc Try.prog Try.f6 false true false false) := by
  refine b50 (C := Try.checked) (s := Rows.OpenSpec.upto Rows.doorsOwnSpec) (k := Rows.uptoSmall) rfl (us := [a0K, a2k, A7, A7]) (tb := 4) own started (by kernel_rfl) Try.func6
    (OpenSpec.witness (enc := enc) (C := Try.checked) (s := Rows.OpenSpec.upto Rows.doorsOwnSpec) (k := Rows.uptoSmall) rfl false ⟨#[], #[.agg #[.slice none 0 0, .slice none 0 0], .agg #[.slice none 0 0, .slice none 0 0], .int .i64 0, .int .i64 0], []⟩ 8 (by kernel_rfl) (by kernel_rfl) (by kernel_rfl)
      (x := ([.agg [.nil, .nil], .agg [.nil, .nil], .lit (.int .i64 0), .lit (.int .i64 0)], [], [])) (by kernel_rfl) rfl (by kernel_rfl))
    (fun ds h => a57 ds ▸ of_decide_eq_true h) laid (by kernel_rfl) rfl ?_ rfl Try.underlying4 a6M
  intro ds hds
  match ds, hds with
  | [_, _, _, _], _ => rfl

theorem b3L : (Rows.doorsOwnUptoRow.wf (OpenSpec.ofChange (Rows.OpenSpec.upto Rows.doorsOwnSpec).bare) && Try.f6.params.all (Try.prog.readableRec ·) && namedTie Try.prog Rows.doorsOwnUptoRow.named (Rows.OpenSpec.upto Rows.doorsOwnSpec).bare.vars) = true := by kernel_rfl
theorem b3K : (mapsRowed Try.prog) = true := by kernel_rfl
theorem b3J : ((Rows.doorsOwnUptoRow.stops == []) && (Try.prog.stops == []) && (Rows.doorsOwnUptoRow.knobs == []) && (Try.prog.stopKnobs == [])) = true := by kernel_rfl
theorem b3I : ((Rows.doorsOwnUptoRow.inPlace == Try.prog.inPlace 6) && (Rows.doorsOwnUptoRow.unfollowed == Try.prog.unfollowed 6)) = true := by kernel_rfl
theorem b3H : ((Rows.doorsOwnUptoRow.recurses == Try.prog.recurses 6) && (Rows.doorsOwnUptoRow.named == Try.prog.varsNamed 6)) = true := by kernel_rfl
theorem b3G : ((Rows.doorsOwnUptoRow.maps == (Try.f6.params.toList ++ (Rows.OpenSpec.upto Rows.doorsOwnSpec).bare.plain.varTypes Try.prog).any (Try.prog.mapsRec ·)) && (Rows.doorsOwnUptoRow.ifaces == (Try.f6.params.toList ++ (Rows.OpenSpec.upto Rows.doorsOwnSpec).bare.plain.varTypes Try.prog).any (Try.prog.ifacesRec ·)) && (Rows.doorsOwnUptoRow.mapsOut == Try.prog.mapsAmong Try.f6.resultTypes.toList) && (Rows.doorsOwnUptoRow.loops == (Try.f6.params.toList ++ (Rows.OpenSpec.upto Rows.doorsOwnSpec).bare.plain.varTypes Try.prog).any (Try.prog.loopsFrom ·)) && (Rows.doorsOwnUptoRow.wideKeys == (Try.f6.params.toList ++ (Rows.OpenSpec.upto Rows.doorsOwnSpec).bare.plain.varTypes Try.prog ++ Try.f6.resultTypes.toList).any (Try.prog.wideKeysFrom ·))) = true := by kernel_rfl
theorem b3F : ((Rows.OpenSpec.upto Rows.doorsOwnSpec).bare.vars.all (Try.prog.varReadable ·) && Try.f6.resultTypes.all (fun t => Try.prog.readableRec t && decide (t < Try.prog.types.size)) && (Rows.doorsOwnUptoRow.ifacesOut == Try.f6.resultTypes.toList.any (Try.prog.ifacesRec ·)) && (Rows.doorsOwnUptoRow.loopsOut == Try.f6.resultTypes.toList.any (Try.prog.loopsFrom ·))) = true := by kernel_rfl
theorem b3E : ((Rows.doorsOwnUptoRow.plainKeys == Try.prog.plainKeys) && Rows.doorsOwnUptoRow.shortTexts.isNone) = true := by kernel_rfl
theorem b3D : (Try.prog.stopsHeard && Try.prog.mayEnter) = true := by kernel_rfl
theorem b3C : ((Rows.doorsOwnUptoRow.lifted == Try.prog.liftsFinal)) = true := by kernel_rfl
theorem b3B : ((Try.prog.make == some Rows.doorsOwnUptoRow.make)) = true := by kernel_rfl
theorem b3A : ((Rows.doorsOwnUptoRow.kinds == (if Rows.doorsOwnUptoRow.domain.isEmpty then [] else Try.f6.params.toList.map fun t => match Try.prog.underlying t with | some (.int k) => some k | _ => none)) && (Rows.doorsOwnUptoRow.pinned == Rows.doorsOwnUptoRow.pinnedBy) && (Rows.doorsOwnUptoRow.veiled == (Try.f6.params.toList ++ (Rows.OpenSpec.upto Rows.doorsOwnSpec).bare.plain.varTypes Try.prog ++ Try.f6.resultTypes.toList).any (Try.prog.veiledRec ·)) && Rows.doorsOwnUptoRow.veiledFits Try.prog Try.f6.params.toList (Try.f6.params.toList ++ (Rows.OpenSpec.upto Rows.doorsOwnSpec).bare.plain.varTypes Try.prog ++ Try.f6.resultTypes.toList)) = true := by kernel_rfl
theorem a6G : joinedFacts Try.prog 6 Try.f6 (Rows.OpenSpec.upto Rows.doorsOwnSpec).bare Rows.doorsOwnUptoRow = true := by
  unfold joinedFacts
  simp only [Bool.and_eq_true]
  have ha := b3L
  simp only [Bool.and_eq_true] at ha
  obtain ⟨⟨c1, c4⟩, c5⟩ := ha
  have c3 := b3K
  have hd := b3J
  simp only [Bool.and_eq_true] at hd
  obtain ⟨⟨⟨c6, c7⟩, c8⟩, c9⟩ := hd
  have he := b3I
  simp only [Bool.and_eq_true] at he
  obtain ⟨c10, c11⟩ := he
  have hg := b3H
  simp only [Bool.and_eq_true] at hg
  obtain ⟨c12, c13⟩ := hg
  have hh := b3G
  simp only [Bool.and_eq_true] at hh
  obtain ⟨⟨⟨⟨c14, c15⟩, c16⟩, c17⟩, c18⟩ := hh
  have hi := b3F
  simp only [Bool.and_eq_true] at hi
  obtain ⟨⟨⟨c19, c20⟩, c21⟩, c22⟩ := hi
  have hj := b3E
  simp only [Bool.and_eq_true] at hj
  obtain ⟨c23, c24⟩ := hj
  have hk := b3D
  simp only [Bool.and_eq_true] at hk
  obtain ⟨c25, c26⟩ := hk
  have c27 := b3C
  have c28 := b3B
  have hn := b3A
  simp only [Bool.and_eq_true] at hn
  obtain ⟨⟨⟨c29, c30⟩, c31⟩, c32⟩ := hn
  exact ⟨⟨⟨⟨⟨⟨⟨⟨⟨⟨⟨⟨⟨⟨⟨⟨⟨⟨⟨⟨⟨⟨⟨⟨⟨⟨⟨⟨⟨⟨⟨c1, laid⟩, c3⟩, c4⟩, c5⟩, c6⟩, c7⟩, c8⟩, c9⟩, c10⟩, c11⟩, c12⟩, c13⟩, c14⟩, c15⟩, c16⟩, c17⟩, c18⟩, c19⟩, c20⟩, c21⟩, c22⟩, c23⟩, c24⟩, c25⟩, c26⟩, c27⟩, c28⟩, c29⟩, c30⟩, c31⟩, c32⟩

theorem a9a : Rows.doorsOwnUptoRow.holds Try.pinned (Rows.OpenSpec.upto Rows.doorsOwnSpec) :=
  OpenClaim.holds_of_cond 6 Try.f6 rfl rfl rfl rfl rfl rfl rfl ⟨rfl, rfl, rfl, rfl, rfl⟩ rfl rfl rfl rfl rfl (by kernel_rfl) Try.func6 a6G
    (of_decide_eq_true (by kernel_rfl)) (by unfold Func.isWrapper; first | (rw [if_pos (by decide +kernel)]; kernel_rfl) | (rw [if_neg (by decide +kernel)]; exact ⟨rfl, rfl⟩))
    (fun os started H enc _ F => a6F os started H enc F)

theorem doorsOwn_proved : Rows.DoorsOwnUptoSaid := a9a
#print axioms doorsOwn_proved
end Go.Proofs.Ytekbamiaenbhjaa
