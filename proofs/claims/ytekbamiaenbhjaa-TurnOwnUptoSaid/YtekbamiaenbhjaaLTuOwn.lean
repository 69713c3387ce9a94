/- TurnOwn returns true whatever its arguments, and its arguments read as before, where what it reads is of bulk at most 1048576. No other condition. -/
import Derived.Test.YtekbamiaenbhjaaRows
import Derived.Test.YtekbamiaenbhjaaTurnZ
namespace Go.Proofs.Ytekbamiaenbhjaa
open Go.Ex Go.ChangeShapes Go.WideShapes Go.ChangeAt Go.RowKit
set_option maxRecDepth 100000

mutual
theorem ub {H : Type} : ∀ d : DataW H, Rows.uptoBulk d = I1 d
  | .lit l => by cases l <;> simp [Rows.uptoBulk, I1]
  | .nil => by simp [Rows.uptoBulk, I1]
  | .ptr d => by simp [Rows.uptoBulk, I1, ub d]
  | .slice a b => by simp [Rows.uptoBulk, I1, a6T a, a6T b]
  | .agg a => by simp [Rows.uptoBulk, I1, a6T a]
  | .iface _ d => by simp [Rows.uptoBulk, I1, ub d]
  | .map e => by simp [Rows.uptoBulk, I1, a8E e]
  | .held _ => by simp [Rows.uptoBulk, I1]
theorem a6T {H : Type} : ∀ l : List (DataW H), Rows.uptoBulkAll l = N8 l
  | [] => by simp [Rows.uptoBulkAll, N8]
  | d :: r => by simp [Rows.uptoBulkAll, N8, ub d, a6T r]
theorem a8E {H : Type} : ∀ l : List (Lit × DataW H), Rows.uptoBulkEntries l = Z4 l
  | [] => by simp [Rows.uptoBulkEntries, Z4]
  | x :: r => by simp [Rows.uptoBulkEntries, Z4, b9E x, a8E r]
theorem b9E {H : Type} : ∀ x : Lit × DataW H, Rows.uptoBulkEntry x = a36 x
  | (l, d) => by cases l <;> simp [Rows.uptoBulkEntry, a36, ub d]
end

theorem a7P (os : Os) (started : os.Started) (H : Type) (enc : TypeId × Value → H) (F : Stop.Interp) :
    ReturnsInHanded {} Try.checked os 11 .any ((Rows.OpenSpec.upto Rows.turnOwnSpec).pre6 enc Try.prog Try.f11 Rows.turnOwnUptoRow.domain false) (((Rows.OpenSpec.upto Rows.turnOwnSpec).at F).post enc Try.prog Try.f11 false true false false) := by
  refine b8b (C := Try.checked) (s := Rows.OpenSpec.upto Rows.turnOwnSpec) (k := Rows.uptoSmall) rfl (us := [a2a, s6, a1x, a3b]) (tb := 4) own started (by kernel_rfl) Try.func11
    (OpenSpec.witness (enc := enc) (C := Try.checked) (s := Rows.OpenSpec.upto Rows.turnOwnSpec) (k := Rows.uptoSmall) rfl false ⟨#[], #[.agg #[.int .i64 0, .int .i64 0, .slice none 0 0], .int .i64 0, .agg #[.int .i64 0, .int .i64 0, .slice none 0 0, .slice none 0 0, .slice none 0 0], .agg #[.int .i64 0, .int .i64 0, .int .i64 0]], []⟩ 8 (by kernel_rfl) (by kernel_rfl) (by kernel_rfl)
      (x := ([.agg [.lit (.int .i64 0), .lit (.int .i64 0), .nil], .lit (.int .i64 0), .agg [.lit (.int .i64 0), .lit (.int .i64 0), .nil, .nil, .nil], .agg [.lit (.int .i64 0), .lit (.int .i64 0), .lit (.int .i64 0)]], [], [])) (by kernel_rfl) rfl (by kernel_rfl))
    (fun ds h => a6T ds ▸ of_decide_eq_true h) laid (by kernel_rfl) rfl ?_ rfl Try.underlying4 a8n
  intro ds hds
  match ds, hds with
  | [_, _, _, _], _ => rfl

theorem b6s : (Rows.turnOwnUptoRow.wf (OpenSpec.ofChange (Rows.OpenSpec.upto Rows.turnOwnSpec).bare) && Try.f11.params.all (Try.prog.readableRec ·) && namedTie Try.prog Rows.turnOwnUptoRow.named (Rows.OpenSpec.upto Rows.turnOwnSpec).bare.vars) = true := by kernel_rfl
theorem b6r : (mapsRowed Try.prog) = true := by kernel_rfl
theorem b6q : ((Rows.turnOwnUptoRow.stops == []) && (Try.prog.stops == []) && (Rows.turnOwnUptoRow.knobs == []) && (Try.prog.stopKnobs == [])) = true := by kernel_rfl
theorem b6p : ((Rows.turnOwnUptoRow.inPlace == Try.prog.inPlace 11) && (Rows.turnOwnUptoRow.unfollowed == Try.prog.unfollowed 11)) = true := by kernel_rfl
theorem b6o : ((Rows.turnOwnUptoRow.recurses == Try.prog.recurses 11) && (Rows.turnOwnUptoRow.named == Try.prog.varsNamed 11)) = true := by kernel_rfl
theorem b6n : ((Rows.turnOwnUptoRow.maps == (Try.f11.params.toList ++ (Rows.OpenSpec.upto Rows.turnOwnSpec).bare.plain.varTypes Try.prog).any (Try.prog.mapsRec ·)) && (Rows.turnOwnUptoRow.ifaces == (Try.f11.params.toList ++ (Rows.OpenSpec.upto Rows.turnOwnSpec).bare.plain.varTypes Try.prog).any (Try.prog.ifacesRec ·)) && (Rows.turnOwnUptoRow.mapsOut == Try.prog.mapsAmong Try.f11.resultTypes.toList) && (Rows.turnOwnUptoRow.loops == (Try.f11.params.toList ++ (Rows.OpenSpec.upto Rows.turnOwnSpec).bare.plain.varTypes Try.prog).any (Try.prog.loopsFrom ·)) && (Rows.turnOwnUptoRow.wideKeys == (Try.f11.params.toList ++ (Rows.OpenSpec.upto Rows.turnOwnSpec).bare.plain.varTypes Try.prog ++ Try.f11.resultTypes.toList).any (Try.prog.wideKeysFrom ·))) = true := by kernel_rfl
theorem b6m : ((Rows.OpenSpec.upto Rows.turnOwnSpec).bare.vars.all (Try.prog.varReadable ·) && Try.f11.resultTypes.all (fun t => Try.prog.readableRec t && decide (t < Try.prog.types.size)) && (Rows.turnOwnUptoRow.ifacesOut == Try.f11.resultTypes.toList.any (Try.prog.ifacesRec ·)) && (Rows.turnOwnUptoRow.loopsOut == Try.f11.resultTypes.toList.any (Try.prog.loopsFrom ·))) = true := by kernel_rfl
theorem b6l : ((Rows.turnOwnUptoRow.plainKeys == Try.prog.plainKeys) && Rows.turnOwnUptoRow.shortTexts.isNone) = true := by kernel_rfl
theorem b6k : (Try.prog.stopsHeard && Try.prog.mayEnter) = true := by kernel_rfl
theorem b6j : ((Rows.turnOwnUptoRow.lifted == Try.prog.liftsFinal)) = true := by kernel_rfl
theorem b6i : ((Try.prog.make == some Rows.turnOwnUptoRow.make)) = true := by kernel_rfl
theorem b6h : ((Rows.turnOwnUptoRow.kinds == (if Rows.turnOwnUptoRow.domain.isEmpty then [] else Try.f11.params.toList.map fun t => match Try.prog.underlying t with | some (.int k) => some k | _ => none)) && (Rows.turnOwnUptoRow.pinned == Rows.turnOwnUptoRow.pinnedBy) && (Rows.turnOwnUptoRow.veiled == (Try.f11.params.toList ++ (Rows.OpenSpec.upto Rows.turnOwnSpec).bare.plain.varTypes Try.prog ++ Try.f11.resultTypes.toList).any (Try.prog.veiledRec ·)) && Rows.turnOwnUptoRow.veiledFits Try.prog Try.f11.params.toList (Try.f11.params.toList ++ (Rows.OpenSpec.upto Rows.turnOwnSpec).bare.plain.varTypes Try.prog ++ Try.f11.resultTypes.toList)) = true := by kernel_rfl
theorem a7Q : joinedFacts Try.prog 11 Try.f11 (Rows.OpenSpec.upto Rows.turnOwnSpec).bare Rows.turnOwnUptoRow = true := by
  unfold joinedFacts
  simp only [Bool.and_eq_true]
  have ha := b6s
  simp only [Bool.and_eq_true] at ha
  obtain ⟨⟨c1, c4⟩, c5⟩ := ha
  have c3 := b6r
  have hd := b6q
  simp only [Bool.and_eq_true] at hd
  obtain ⟨⟨⟨c6, c7⟩, c8⟩, c9⟩ := hd
  have he := b6p
  simp only [Bool.and_eq_true] at he
  obtain ⟨c10, c11⟩ := he
  have hg := b6o
  simp only [Bool.and_eq_true] at hg
  obtain ⟨c12, c13⟩ := hg
  have hh := b6n
  simp only [Bool.and_eq_true] at hh
  obtain ⟨⟨⟨⟨c14, c15⟩, c16⟩, c17⟩, c18⟩ := hh
  have hi := b6m
  simp only [Bool.and_eq_true] at hi
  obtain ⟨⟨⟨c19, c20⟩, c21⟩, c22⟩ := hi
  have hj := b6l
  simp only [Bool.and_eq_true] at hj
  obtain ⟨c23, c24⟩ := hj
  have hk := b6k
  simp only [Bool.and_eq_true] at hk
  obtain ⟨c25, c26⟩ := hk
  have c27 := b6j
  have c28 := b6i
  have hn := b6h
  simp only [Bool.and_eq_true] at hn
  obtain ⟨⟨⟨c29, c30⟩, c31⟩, c32⟩ := hn
  exact ⟨⟨⟨⟨⟨⟨⟨⟨⟨⟨⟨⟨⟨⟨⟨⟨⟨⟨⟨⟨⟨⟨⟨⟨⟨⟨⟨⟨⟨⟨⟨c1, laid⟩, c3⟩, c4⟩, c5⟩, c6⟩, c7⟩, c8⟩, c9⟩, c10⟩, c11⟩, c12⟩, c13⟩, c14⟩, c15⟩, c16⟩, c17⟩, c18⟩, c19⟩, c20⟩, c21⟩, c22⟩, c23⟩, c24⟩, c25⟩, c26⟩, c27⟩, c28⟩, c29⟩, c30⟩, c31⟩, c32⟩

theorem b0j : Rows.turnOwnUptoRow.holds Try.pinned (Rows.OpenSpec.upto Rows.turnOwnSpec) :=
  OpenClaim.holds_of_cond 11 Try.f11 rfl rfl rfl rfl rfl rfl rfl ⟨rfl, rfl, rfl, rfl, rfl⟩ rfl rfl rfl rfl rfl (by kernel_rfl) Try.func11 a7Q
    (of_decide_eq_true (by kernel_rfl)) (by unfold Func.isWrapper; first | (rw [if_pos (by decide +kernel)]; kernel_rfl) | (rw [if_neg (by decide +kernel)]; exact ⟨rfl, rfl⟩))
    (fun os started H enc _ F => a7P os started H enc F)

theorem turnOwn_proved : Rows.TurnOwnUptoSaid := b0j
#print axioms turnOwn_proved
end Go.Proofs.Ytekbamiaenbhjaa
