/- SetsOwn returns true whatever its arguments, and its arguments read as before, where what it reads is of bulk at most 1048576. No other condition. -/
import Derived.Test.YtekbamiaenbhjaaRows
import Derived.Test.YtekbamiaenbhjaaOwnX
namespace Go.Proofs.Ytekbamiaenbhjaa
open Go.Ex Go.ChangeShapes Go.WideShapes Go.ChangeAt Go.RowKit
set_option maxRecDepth 100000

mutual
theorem ub {H : Type} : ∀ d : DataW H, Rows.uptoBulk d = G3 d
  | .lit l => by cases l <;> simp [Rows.uptoBulk, G3]
  | .nil => by simp [Rows.uptoBulk, G3]
  | .ptr d => by simp [Rows.uptoBulk, G3, ub d]
  | .slice a b => by simp [Rows.uptoBulk, G3, a7c a, a7c b]
  | .agg a => by simp [Rows.uptoBulk, G3, a7c a]
  | .iface _ d => by simp [Rows.uptoBulk, G3, ub d]
  | .map e => by simp [Rows.uptoBulk, G3, a85 e]
  | .held _ => by simp [Rows.uptoBulk, G3]
theorem a7c {H : Type} : ∀ l : List (DataW H), Rows.uptoBulkAll l = M9 l
  | [] => by simp [Rows.uptoBulkAll, M9]
  | d :: r => by simp [Rows.uptoBulkAll, M9, ub d, a7c r]
theorem a85 {H : Type} : ∀ l : List (Lit × DataW H), Rows.uptoBulkEntries l = Y7 l
  | [] => by simp [Rows.uptoBulkEntries, Y7]
  | x :: r => by simp [Rows.uptoBulkEntries, Y7, c1g x, a85 r]
theorem c1g {H : Type} : ∀ x : Lit × DataW H, Rows.uptoBulkEntry x = a4b x
  | (l, d) => by cases l <;> simp [Rows.uptoBulkEntry, a4b, ub d]
end

theorem a8b (os : Os) (started : os.Started) (H : Type) (enc : TypeId × Value → H) (F : Stop.Interp) :
    ReturnsInHanded {} Try.checked os 13 .any ((Rows.OpenSpec.upto Rows.setsOwnSpec).pre6 enc Try.prog Try.f13 Rows.setsOwnUptoRow.domain false) (((Rows.OpenSpec.upto Rows.setsOwnSpec).at F).post enc Try.prog Try.f13 false true false false) := by
  refine b9J (C := Try.checked) (s := Rows.OpenSpec.upto Rows.setsOwnSpec) (k := Rows.uptoSmall) rfl (us := [y8, .b7 false D3, .b7 false y8, U3, Act]) (tb := 4) own started (by kernel_rfl) Try.func13
    (OpenSpec.witness (enc := enc) (C := Try.checked) (s := Rows.OpenSpec.upto Rows.setsOwnSpec) (k := Rows.uptoSmall) rfl false ⟨#[], #[.int .i64 0, .slice none 0 0, .slice none 0 0, .agg #[.slice none 0 0, .slice none 0 0], .agg #[.int .i64 0, .int .i64 0, .int .i64 0, .string ⟨#[]⟩]], []⟩ 8 (by kernel_rfl) (by kernel_rfl) (by kernel_rfl)
      (x := ([.lit (.int .i64 0), .nil, .nil, .agg [.nil, .nil], .agg [.lit (.int .i64 0), .lit (.int .i64 0), .lit (.int .i64 0), .lit (.string [])]], [], [])) (by kernel_rfl) rfl (by kernel_rfl))
    (fun ds h => a7c ds ▸ of_decide_eq_true h) laid (by kernel_rfl) rfl ?_ rfl Try.underlying4 a8G
  intro ds hds
  match ds, hds with
  | [_, _, _, _, _], _ => rfl

theorem b71 : (Rows.setsOwnUptoRow.wf (OpenSpec.ofChange (Rows.OpenSpec.upto Rows.setsOwnSpec).bare) && Try.f13.params.all (Try.prog.readableRec ·) && namedTie Try.prog Rows.setsOwnUptoRow.named (Rows.OpenSpec.upto Rows.setsOwnSpec).bare.vars) = true := by kernel_rfl
theorem b70 : (mapsRowed Try.prog) = true := by kernel_rfl
theorem b7Z : ((Rows.setsOwnUptoRow.stops == []) && (Try.prog.stops == []) && (Rows.setsOwnUptoRow.knobs == []) && (Try.prog.stopKnobs == [])) = true := by kernel_rfl
theorem b7Y : ((Rows.setsOwnUptoRow.inPlace == Try.prog.inPlace 13) && (Rows.setsOwnUptoRow.unfollowed == Try.prog.unfollowed 13)) = true := by kernel_rfl
theorem b7X : ((Rows.setsOwnUptoRow.recurses == Try.prog.recurses 13) && (Rows.setsOwnUptoRow.named == Try.prog.varsNamed 13)) = true := by kernel_rfl
theorem b7W : ((Rows.setsOwnUptoRow.maps == (Try.f13.params.toList ++ (Rows.OpenSpec.upto Rows.setsOwnSpec).bare.plain.varTypes Try.prog).any (Try.prog.mapsRec ·)) && (Rows.setsOwnUptoRow.ifaces == (Try.f13.params.toList ++ (Rows.OpenSpec.upto Rows.setsOwnSpec).bare.plain.varTypes Try.prog).any (Try.prog.ifacesRec ·)) && (Rows.setsOwnUptoRow.mapsOut == Try.prog.mapsAmong Try.f13.resultTypes.toList) && (Rows.setsOwnUptoRow.loops == (Try.f13.params.toList ++ (Rows.OpenSpec.upto Rows.setsOwnSpec).bare.plain.varTypes Try.prog).any (Try.prog.loopsFrom ·)) && (Rows.setsOwnUptoRow.wideKeys == (Try.f13.params.toList ++ (Rows.OpenSpec.upto Rows.setsOwnSpec).bare.plain.varTypes Try.prog ++ Try.f13.resultTypes.toList).any (Try.prog.wideKeysFrom ·))) = true := by kernel_rfl
theorem b7V : ((Rows.OpenSpec.upto Rows.setsOwnSpec).bare.vars.all (Try.prog.varReadable ·) && Try.f13.resultTypes.all (fun t => Try.prog.readableRec t && decide (t < Try.prog.types.size)) && (Rows.setsOwnUptoRow.ifacesOut == Try.f13.resultTypes.toList.any (Try.prog.ifacesRec ·)) && (Rows.setsOwnUptoRow.loopsOut == Try.f13.resultTypes.toList.any (Try.prog.loopsFrom ·))) = true := by kernel_rfl
theorem b7U : ((Rows.setsOwnUptoRow.plainKeys == Try.prog.plainKeys) && Rows.setsOwnUptoRow.shortTexts.isNone) = true := by kernel_rfl
theorem b7T : (Try.prog.stopsHeard && Try.prog.mayEnter) = true := by kernel_rfl
theorem b7S : ((Rows.setsOwnUptoRow.lifted == Try.prog.liftsFinal)) = true := by kernel_rfl
theorem b7R : ((Try.prog.make == some Rows.setsOwnUptoRow.make)) = true := by kernel_rfl
theorem b7Q : ((Rows.setsOwnUptoRow.kinds == (if Rows.setsOwnUptoRow.domain.isEmpty then [] else Try.f13.params.toList.map fun t => match Try.prog.underlying t with | some (.int k) => some k | _ => none)) && (Rows.setsOwnUptoRow.pinned == Rows.setsOwnUptoRow.pinnedBy) && (Rows.setsOwnUptoRow.veiled == (Try.f13.params.toList ++ (Rows.OpenSpec.upto Rows.setsOwnSpec).bare.plain.varTypes Try.prog ++ Try.f13.resultTypes.toList).any (Try.prog.veiledRec ·)) && Rows.setsOwnUptoRow.veiledFits Try.prog Try.f13.params.toList (Try.f13.params.toList ++ (Rows.OpenSpec.upto Rows.setsOwnSpec).bare.plain.varTypes Try.prog ++ Try.f13.resultTypes.toList)) = true := by kernel_rfl
theorem a8c : joinedFacts Try.prog 13 Try.f13 (Rows.OpenSpec.upto Rows.setsOwnSpec).bare Rows.setsOwnUptoRow = true := by
  unfold joinedFacts
  simp only [Bool.and_eq_true]
  have ha := b71
  simp only [Bool.and_eq_true] at ha
  obtain ⟨⟨c1, c4⟩, c5⟩ := ha
  have c3 := b70
  have hd := b7Z
  simp only [Bool.and_eq_true] at hd
  obtain ⟨⟨⟨c6, c7⟩, c8⟩, c9⟩ := hd
  have he := b7Y
  simp only [Bool.and_eq_true] at he
  obtain ⟨c10, c11⟩ := he
  have hg := b7X
  simp only [Bool.and_eq_true] at hg
  obtain ⟨c12, c13⟩ := hg
  have hh := b7W
  simp only [Bool.and_eq_true] at hh
  obtain ⟨⟨⟨⟨c14, c15⟩, c16⟩, c17⟩, c18⟩ := hh
  have hi := b7V
  simp only [Bool.and_eq_true] at hi
  obtain ⟨⟨⟨c19, c20⟩, c21⟩, c22⟩ := hi
  have hj := b7U
  simp only [Bool.and_eq_true] at hj
  obtain ⟨c23, c24⟩ := hj
  have hk := b7T
  simp only [Bool.and_eq_true] at hk
  obtain ⟨c25, c26⟩ := hk
  have c27 := b7S
  have c28 := b7R
  have hn := b7Q
  simp only [Bool.and_eq_true] at hn
  obtain ⟨⟨⟨c29, c30⟩, c31⟩, c32⟩ := hn
  exact ⟨⟨⟨⟨⟨⟨⟨⟨⟨⟨⟨⟨⟨⟨⟨⟨⟨⟨⟨⟨⟨⟨⟨⟨⟨⟨⟨⟨⟨⟨⟨c1, laid⟩, c3⟩, c4⟩, c5⟩, c6⟩, c7⟩, c8⟩, c9⟩, c10⟩, c11⟩, c12⟩, c13⟩, c14⟩, c15⟩, c16⟩, c17⟩, c18⟩, c19⟩, c20⟩, c21⟩, c22⟩, c23⟩, c24⟩, c25⟩, c26⟩, c27⟩, c28⟩, c29⟩, c30⟩, c31⟩, c32⟩

theorem b0T : Rows.setsOwnUptoRow.holds Try.pinned (Rows.OpenSpec.upto Rows.setsOwnSpec) :=
  OpenClaim.holds_of_cond 13 Try.f13 rfl rfl rfl rfl rfl rfl rfl ⟨rfl, rfl, rfl, rfl, rfl⟩ rfl rfl rfl rfl rfl (by kernel_rfl) Try.func13 a8c
    (of_decide_eq_true (by kernel_rfl)) (by unfold Func.isWrapper; first | (rw [if_pos (by decide +kernel)]; kernel_rfl) | (rw [if_neg (by decide +kernel)]; exact ⟨rfl, rfl⟩))
    (fun os started H enc _ F => a8b os started H enc F)

theorem setsOwn_proved : Rows.SetsOwnUptoSaid := b0T
#print axioms setsOwn_proved
end Go.Proofs.Ytekbamiaenbhjaa
