/- LaneOwn returns true whatever its arguments, and its arguments read as before, where what it reads is of bulk at most 1048576. No other condition. -/
import Derived.Test.YtekbamiaenbhjaaRows
import Derived.Test.YtekbamiaenbhjaaOwnN
namespace Go.Proofs.Ytekbamiaenbhjaa
open Go.Ex Go.ChangeShapes Go.WideShapes Go.ChangeAt Go.RowKit
set_option maxRecDepth 100000

mutual
theorem ub {H : Type} : ∀ d : DataW H, Rows.uptoBulk d = I7 d
  | .lit l => by cases l <;> simp [Rows.uptoBulk, I7]
  | .nil => by simp [Rows.uptoBulk, I7]
  | .ptr d => by simp [Rows.uptoBulk, I7, ub d]
  | .slice a b => by simp [Rows.uptoBulk, I7, a7k a, a7k b]
  | .agg a => by simp [Rows.uptoBulk, I7, a7k a]
  | .iface _ d => by simp [Rows.uptoBulk, I7, ub d]
  | .map e => by simp [Rows.uptoBulk, I7, a9y e]
  | .held _ => by simp [Rows.uptoBulk, I7]
theorem a7k {H : Type} : ∀ l : List (DataW H), Rows.uptoBulkAll l = P5 l
  | [] => by simp [Rows.uptoBulkAll, P5]
  | d :: r => by simp [Rows.uptoBulkAll, P5, ub d, a7k r]
theorem a9y {H : Type} : ∀ l : List (Lit × DataW H), Rows.uptoBulkEntries l = a0p l
  | [] => by simp [Rows.uptoBulkEntries, a0p]
  | x :: r => by simp [Rows.uptoBulkEntries, a0p, c0a x, a9y r]
theorem c0a {H : Type} : ∀ x : Lit × DataW H, Rows.uptoBulkEntry x = a4k x
  | (l, d) => by cases l <;> simp [Rows.uptoBulkEntry, a4k, ub d]
end

theorem a8M (os : Os) (started : os.Started) (H : Type) (enc : TypeId × Value → H) (F : Stop.Interp) :
    ReturnsInHanded {} Try.checked os 8 .any ((Rows.OpenSpec.upto Rows.laneOwnSpec).pre6 enc Try.prog Try.f8 Rows.laneOwnUptoRow.domain false) (((Rows.OpenSpec.upto Rows.laneOwnSpec).at F).post enc Try.prog Try.f8 false true false false) := by
  refine b8K (C := Try.checked) (s := Rows.OpenSpec.upto Rows.laneOwnSpec) (k := Rows.uptoSmall) rfl (us := [a4t, ToT, a0L, .str, E7]) (tb := 4) own started (by kernel_rfl) Try.func8
    (OpenSpec.witness (enc := enc) (C := Try.checked) (s := Rows.OpenSpec.upto Rows.laneOwnSpec) (k := Rows.uptoSmall) rfl false ⟨#[], #[.agg #[.int .i64 0, .slice none 0 0], .agg #[.int .i64 0, .slice none 0 0], .agg #[.int .i64 0, .int .i64 0, .int .i64 0, .int .i64 0, .int .i64 0, .int .i64 0, .int .i64 0, .slice none 0 0], .string ⟨#[]⟩, .agg #[.int .i64 0, .int .i64 0, .int .i64 0, .int .i64 0, .int .i64 0, .int .i64 0, .int .i64 0, .string ⟨#[]⟩]], []⟩ 8 (by kernel_rfl) (by kernel_rfl) (by kernel_rfl)
      (x := ([.agg [.lit (.int .i64 0), .nil], .agg [.lit (.int .i64 0), .nil], .agg [.lit (.int .i64 0), .agg [.lit (.int .i64 0), .lit (.int .i64 0), .lit (.int .i64 0), .lit (.int .i64 0), .lit (.int .i64 0), .lit (.int .i64 0)], .nil], .lit (.string []), .agg [.lit (.int .i64 0), .agg [.lit (.int .i64 0), .lit (.int .i64 0), .lit (.int .i64 0), .lit (.int .i64 0), .lit (.int .i64 0), .lit (.int .i64 0)], .lit (.string [])]], [], [])) (by kernel_rfl) rfl (by kernel_rfl))
    (fun ds h => a7k ds ▸ of_decide_eq_true h) laid (by kernel_rfl) rfl ?_ rfl Try.underlying4 a85
  intro ds hds
  match ds, hds with
  | [_, _, _, _, _], _ => rfl

theorem b7m : (Rows.laneOwnUptoRow.wf (OpenSpec.ofChange (Rows.OpenSpec.upto Rows.laneOwnSpec).bare) && Try.f8.params.all (Try.prog.readableRec ·) && namedTie Try.prog Rows.laneOwnUptoRow.named (Rows.OpenSpec.upto Rows.laneOwnSpec).bare.vars) = true := by kernel_rfl
theorem b7l : (mapsRowed Try.prog) = true := by kernel_rfl
theorem b7k : ((Rows.laneOwnUptoRow.stops == []) && (Try.prog.stops == []) && (Rows.laneOwnUptoRow.knobs == []) && (Try.prog.stopKnobs == [])) = true := by kernel_rfl
theorem b7j : ((Rows.laneOwnUptoRow.inPlace == Try.prog.inPlace 8) && (Rows.laneOwnUptoRow.unfollowed == Try.prog.unfollowed 8)) = true := by kernel_rfl
theorem b7i : ((Rows.laneOwnUptoRow.recurses == Try.prog.recurses 8) && (Rows.laneOwnUptoRow.named == Try.prog.varsNamed 8)) = true := by kernel_rfl
theorem b7h : ((Rows.laneOwnUptoRow.maps == (Try.f8.params.toList ++ (Rows.OpenSpec.upto Rows.laneOwnSpec).bare.plain.varTypes Try.prog).any (Try.prog.mapsRec ·)) && (Rows.laneOwnUptoRow.ifaces == (Try.f8.params.toList ++ (Rows.OpenSpec.upto Rows.laneOwnSpec).bare.plain.varTypes Try.prog).any (Try.prog.ifacesRec ·)) && (Rows.laneOwnUptoRow.mapsOut == Try.prog.mapsAmong Try.f8.resultTypes.toList) && (Rows.laneOwnUptoRow.loops == (Try.f8.params.toList ++ (Rows.OpenSpec.upto Rows.laneOwnSpec).bare.plain.varTypes Try.prog).any (Try.prog.loopsFrom ·)) && (Rows.laneOwnUptoRow.wideKeys == (Try.f8.params.toList ++ (Rows.OpenSpec.upto Rows.laneOwnSpec).bare.plain.varTypes Try.prog ++ Try.f8.resultTypes.toList).any (Try.prog.wideKeysFrom ·))) = true := by kernel_rfl
theorem b7g : ((Rows.OpenSpec.upto Rows.laneOwnSpec).bare.vars.all (Try.prog.varReadable ·) && Try.f8.resultTypes.all (fun t => Try.prog.readableRec t && decide (t < Try.prog.types.size)) && (Rows.laneOwnUptoRow.ifacesOut == Try.f8.resultTypes.toList.any (Try.prog.ifacesRec ·)) && (Rows.laneOwnUptoRow.loopsOut == Try.f8.resultTypes.toList.any (Try.prog.loopsFrom ·))) = true := by kernel_rfl
theorem b7f : ((Rows.laneOwnUptoRow.plainKeys == Try.prog.plainKeys) && Rows.laneOwnUptoRow.shortTexts.isNone) = true := by kernel_rfl
theorem b7e : (Try.prog.stopsHeard && Try.prog.mayEnter) = true := by kernel_rfl
theorem b7d : ((Rows.laneOwnUptoRow.lifted == Try.prog.liftsFinal)) = true := by kernel_rfl
theorem b7c : ((Try.prog.make == some Rows.laneOwnUptoRow.make)) = true := by kernel_rfl
theorem b7b : ((Rows.laneOwnUptoRow.kinds == (if Rows.laneOwnUptoRow.domain.isEmpty then [] else Try.f8.params.toList.map fun t => match Try.prog.underlying t with | some (.int k) => some k | _ => none)) && (Rows.laneOwnUptoRow.pinned == Rows.laneOwnUptoRow.pinnedBy) && (Rows.laneOwnUptoRow.veiled == (Try.f8.params.toList ++ (Rows.OpenSpec.upto Rows.laneOwnSpec).bare.plain.varTypes Try.prog ++ Try.f8.resultTypes.toList).any (Try.prog.veiledRec ·)) && Rows.laneOwnUptoRow.veiledFits Try.prog Try.f8.params.toList (Try.f8.params.toList ++ (Rows.OpenSpec.upto Rows.laneOwnSpec).bare.plain.varTypes Try.prog ++ Try.f8.resultTypes.toList)) = true := by kernel_rfl
theorem a8N : joinedFacts Try.prog 8 Try.f8 (Rows.OpenSpec.upto Rows.laneOwnSpec).bare Rows.laneOwnUptoRow = true := by
  unfold joinedFacts
  simp only [Bool.and_eq_true]
  have ha := b7m
  simp only [Bool.and_eq_true] at ha
  obtain ⟨⟨c1, c4⟩, c5⟩ := ha
  have c3 := b7l
  have hd := b7k
  simp only [Bool.and_eq_true] at hd
  obtain ⟨⟨⟨c6, c7⟩, c8⟩, c9⟩ := hd
  have he := b7j
  simp only [Bool.and_eq_true] at he
  obtain ⟨c10, c11⟩ := he
  have hg := b7i
  simp only [Bool.and_eq_true] at hg
  obtain ⟨c12, c13⟩ := hg
  have hh := b7h
  simp only [Bool.and_eq_true] at hh
  obtain ⟨⟨⟨⟨c14, c15⟩, c16⟩, c17⟩, c18⟩ := hh
  have hi := b7g
  simp only [Bool.and_eq_true] at hi
  obtain ⟨⟨⟨c19, c20⟩, c21⟩, c22⟩ := hi
  have hj := b7f
  simp only [Bool.and_eq_true] at hj
  obtain ⟨c23, c24⟩ := hj
  have hk := b7e
  simp only [Bool.and_eq_true] at hk
  obtain ⟨c25, c26⟩ := hk
  have c27 := b7d
  have c28 := b7c
  have hn := b7b
  simp only [Bool.and_eq_true] at hn
  obtain ⟨⟨⟨c29, c30⟩, c31⟩, c32⟩ := hn
  exact ⟨⟨⟨⟨⟨⟨⟨⟨⟨⟨⟨⟨⟨⟨⟨⟨⟨⟨⟨⟨⟨⟨⟨⟨⟨⟨⟨⟨⟨⟨⟨c1, laid⟩, c3⟩, c4⟩, c5⟩, c6⟩, c7⟩, c8⟩, c9⟩, c10⟩, c11⟩, c12⟩, c13⟩, c14⟩, c15⟩, c16⟩, c17⟩, c18⟩, c19⟩, c20⟩, c21⟩, c22⟩, c23⟩, c24⟩, c25⟩, c26⟩, c27⟩, c28⟩, c29⟩, c30⟩, c31⟩, c32⟩

theorem b1r : Rows.laneOwnUptoRow.holds Try.pinned (Rows.OpenSpec.upto Rows.laneOwnSpec) :=
  OpenClaim.holds_of_cond 8 Try.f8 rfl rfl rfl rfl rfl rfl rfl ⟨rfl, rfl, rfl, rfl, rfl⟩ rfl rfl rfl rfl rfl (by kernel_rfl) Try.func8 a8N
    (of_decide_eq_true (by kernel_rfl)) (by unfold Func.isWrapper; first | (rw [if_pos (by decide +kernel)]; kernel_rfl) | (rw [if_neg (by decide +kernel)]; exact ⟨rfl, rfl⟩))
    (fun os started H enc _ F => a8M os started H enc F)

theorem laneOwn_proved : Rows.LaneOwnUptoSaid := b1r
#print axioms laneOwn_proved
end Go.Proofs.Ytekbamiaenbhjaa
