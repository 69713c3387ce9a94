/- TurnLine, where the list of beats is of bulk at most 1048576. -/
import Derived.Test.YtbcdpeogfghgcaaTurnM
namespace Go.Proofs.Ytbcdpeogfghgcaa
open Go.Ex
set_option maxRecDepth 100000
/-- one beat more: mine, and what was asked -/
def bl (p : Int) (st : List BeatD × List Int) (b : BeatD) : List BeatD × List Int :=
  if b.1 = 1 ∧ b.2.1 ≠ p then st else (st.1 ++ [b], if b.1 = 1 ∧ 0 ≤ b.2.2.1 ∧ b.2.2.1 < 30 ∧ b.2.2.1 ∉ st.2 then st.2 ++ [b.2.2.1] else st.2)
structure LineOk (k : Int) (p : Nat) (s : TurnD × List (List Int)) (ak : List Int) : Prop where
  inv : TInv k s
  all : s.1.2.2.2.1 ++ s.1.2.2.1.getD p [] = ak
  rest : ∀ q : Nat, q ≠ p → s.1.2.2.1.getD q [] = []
theorem LineOk.go {k : Int} {p : Nat} (hp : (p : Int) < k) {s : TurnD × List (List Int)} {ak : List Int} (h : LineOk k p s ak) {b : BeatD} (hb : b.1 = 1 → b.2.1 = p) :
    LineOk k p (tgo s b) (if b.1 = 1 ∧ 0 ≤ b.2.2.1 ∧ b.2.2.1 < 30 ∧ b.2.2.1 ∉ ak then ak ++ [b.2.2.1] else ak) := by
  have ok := h.inv.ok
  have hn := h.inv.num
  have hw := ok.want
  have hAp : (b.1 = 1 ∧ 0 ≤ b.2.2.1 ∧ b.2.2.1 < 30 ∧ b.2.2.1 ∉ ak) → (if b.1 = 1 ∧ 0 ≤ b.2.2.1 ∧ b.2.2.1 < 30 ∧ b.2.2.1 ∉ ak then ak ++ [b.2.2.1] else ak) = ak ++ [b.2.2.1] := fun h => if_pos h
  have hAn : ¬ (b.1 = 1 ∧ 0 ≤ b.2.2.1 ∧ b.2.2.1 < 30 ∧ b.2.2.1 ∉ ak) → (if b.1 = 1 ∧ 0 ≤ b.2.2.1 ∧ b.2.2.1 < 30 ∧ b.2.2.1 ∉ ak then ak ++ [b.2.2.1] else ak) = ak := fun h => if_neg h
  generalize (if b.1 = 1 ∧ 0 ≤ b.2.2.1 ∧ b.2.2.1 < 30 ∧ b.2.2.1 ∉ ak then ak ++ [b.2.2.1] else ak) = AK at *
  refine ⟨h.inv.go b, ?_, ?_⟩
  all_goals rw [tgo]
  · split
    · rename_i e
      rw [hAn]
      · exact h.all
      · rintro ⟨h1, h2, h3, h4⟩
        apply e
        have h0 := tcheck_iff.2 ok
        have hm := hb h1
        rw [← h.all, List.mem_append, not_or] at h4
        rw [tstep, if_neg (by rw [h0]; simp), if_neg (by rw [h1]; decide), if_neg (tnf (show inF b.2.1 0 (s.1.1 - 1) = true from inF_iff.2 ⟨by omega, by omega⟩)), if_neg (tnf (show tmsg b.2.2.1 = true from inF_iff.2 ⟨by omega, by omega⟩)), if_pos h1, if_neg h4.1, if_neg (by rw [hm]; exact h4.2)]
    · rename_i e
      obtain ⟨⟨h0, h1⟩, ⟨k1, h3, h4, h5, h6⟩ | ⟨k1, h3, h6⟩ | ⟨k1, h3, h6⟩⟩ := tstep_cases ok b (Decidable.not_not.1 e)
      · have hm := hb k1
        have h3 := inF_iff.1 h3
        have hnm : b.2.2.1 ∉ ak := by
          rw [← h.all, List.mem_append, not_or]
          exact ⟨h4, by rw [hm] at h5; exact h5⟩
        rw [hAp ⟨k1, by omega, by omega, hnm⟩, h6, ← h.all, List.append_assoc]
        show s.1.2.2.2.1 ++ (s.1.2.2.1.set b.2.1.toNat (s.1.2.2.1.getD b.2.1.toNat [] ++ [b.2.2.1])).getD p [] = _
        rw [getD_set (by omega), if_pos (by omega), hm]; rfl
      · rw [hAn (by rw [k1]; rintro ⟨h, _⟩; cases h), h6]
        show tlog (s.1.2.2.1.getD s.1.2.1.toNat []) s.1.2.2.2.1 ++ (tpass s.1).2.2.1.getD p [] = ak
        have hh := ok.has
        rw [ok.passLog, ← h.all]
        by_cases e2 : s.1.2.1.toNat = p
        · rw [← e2, tpass_own ok, List.append_nil]
        · rw [h.rest _ e2, List.append_nil, tpass_row (by omega), ok.passLog, h.rest _ e2, List.append_nil]
          congr 1
          refine List.filter_eq_self.2 (fun x hx => ?_)
          rw [decide_eq_false ((ok.rows (p := p) (by omega)).2.2.2 x hx)]; rfl
      · rw [hAn (by rw [k1]; rintro ⟨h, _⟩; cases h), h6]
        exact h.all
  · intro q hq
    split
    · exact h.rest q hq
    · rename_i e
      obtain ⟨⟨h0, h1⟩, ⟨k1, h3, h4, h5, h6⟩ | ⟨k1, h3, h6⟩ | ⟨k1, h3, h6⟩⟩ := tstep_cases ok b (Decidable.not_not.1 e)
      · have hm := hb k1
        rw [h6]
        show (s.1.2.2.1.set b.2.1.toNat (s.1.2.2.1.getD b.2.1.toNat [] ++ [b.2.2.1])).getD q [] = []
        rw [getD_set (by omega), if_neg (by omega)]; exact h.rest q hq
      · rw [h6]
        show (s.1.2.2.1.map _).getD q [] = []
        have := h.rest q hq
        by_cases hl : q < s.1.2.2.1.length
        · exact tpass_empty hl this
        · rw [List.getD_eq_getElem?_getD, List.getElem?_eq_none (by rw [List.length_map]; omega)]; rfl
      · rw [h6]; exact h.rest q hq
theorem LineOk.bl {k : Int} {p : Nat} (hp : (p : Int) < k) {mn : List BeatD} {ak : List Int} (h : LineOk k p (mn.foldl tgo (t0 k, List.replicate (mx k).toNat [])) ak) (b : BeatD) :
    LineOk k p ((bl p (mn, ak) b).1.foldl tgo (t0 k, List.replicate (mx k).toNat [])) (bl p (mn, ak) b).2 := by
  unfold Go.Proofs.Ytbcdpeogfghgcaa.bl
  split
  · exact h
  · rename_i e
    show LineOk k p ((mn ++ [b]).foldl tgo _) _
    rw [List.foldl_append]
    exact h.go hp (fun h1 => Decidable.not_not.1 (fun h2 => e ⟨h1, h2⟩))
theorem bl_len {p : Int} {mn : List BeatD} {ak : List Int} {i : Nat} (h1 : mn.length ≤ i) (h2 : ak.length ≤ i) (b : BeatD) : (bl p (mn, ak) b).1.length ≤ i + 1 ∧ (bl p (mn, ak) b).2.length ≤ i + 1 := by
  rw [bl]
  split
  · show mn.length ≤ i + 1 ∧ ak.length ≤ i + 1
    exact ⟨by omega, by omega⟩
  · refine ⟨by show (mn ++ [b]).length ≤ i + 1; rw [List.length_append, List.length_singleton]; omega, ?_⟩
    dsimp only
    split
    · rw [List.length_append, List.length_singleton]; omega
    · omega
theorem blkL_len {α : Type} {f : α → Nat} {c : Nat} (h : ∀ x, c ≤ f x) : ∀ l : List α, c * l.length ≤ bulkL f l
  | [] => by simp [bulkL]
  | x :: l => by have h1 := h x; have h2 := blkL_len h l; simp only [bulkL, List.length_cons, Nat.mul_add]; omega
def cTurnLine : Ctr := smallC [I64, .slc false Word]
noncomputable def ETurnLine : Env := { P := Try.prog, tt := tt, ctr := [(29, ctturns), (31, cfew), (30, ceqI), (21, ccontI)], res := [Go.ResultVar.tmp 4], rs := [Ty.bool], ps := [PK.v (Ty.int IntKind.i64), PK.v (Ty.slc false Word)], cuts := [(6, [(0, none), (1, none), (36, none), (37, none)]), (11, [(0, none), (1, none), (8, none), (9, some (Ty.slc true Word)), (10, some Is), (36, none), (37, none), (40, none), (41, none), (42, none)])], nt := 114 }
theorem ETurnLine_ok : EnvOk ETurnLine := envOk tt_ok ⟨ctturns_valid, cfew_valid, ceqI_valid, ccontI_valid, trivial⟩
theorem FTurnLine_ok : FnOk ETurnLine Try.f8 := ⟨rfl, rfl⟩
theorem ETurnLine_t (x0 : Int) (x1 : List (Int × Int × Int × Unit)) : exec ETurnLine 1000 [.code (bodyOf Try.prog 8)] (initSt cTurnLine.ps ((x0, x1, ()))) =
  .need ((1 : Int) ≤ (1000 : Int)) (.need (True) (.need (True) (.cut (loopAt (bodyOf Try.prog 8) 6).1 (loopAt (bodyOf Try.prog 8) 6).2 (St.mk [(0, AV.val (Ty.int IntKind.i64) (few x0)), (1, AV.val (Ty.slc false Word) x1), (36, AV.val (Ty.int IntKind.i64) (few x0)), (37, AV.val (Ty.int IntKind.i64) (0 : Int))] [])))) := by kernel_rfl
def ETurnLine_s6 (v0 : Int) (v1 : List (Int × Int × Int × Unit)) (v36 : Int) (v37 : Int) : St := St.mk [(0, AV.val (Ty.int IntKind.i64) v0), (1, AV.val (Ty.slc false Word) v1), (36, AV.val (Ty.int IntKind.i64) v36), (37, AV.val (Ty.int IntKind.i64) v37)] []
theorem ETurnLine_l6 (v0 : Int) (v1 : List (Int × Int × Int × Unit)) (v36 : Int) (v37 : Int) : exec ETurnLine 1000 (.code (loopAt (bodyOf Try.prog 8) 6).1 :: .inLoop (loopAt (bodyOf Try.prog 8) 6).1 :: (loopAt (bodyOf Try.prog 8) 6).2) (ETurnLine_s6 v0 v1 v36 v37) =
  cond (decide (v37 < v36)) (.cut (loopAt (bodyOf Try.prog 8) 11).1 (loopAt (bodyOf Try.prog 8) 11).2 (St.mk [(0, AV.val (Ty.int IntKind.i64) v0), (1, AV.val (Ty.slc false Word) v1), (8, AV.val (Ty.int IntKind.i64) v37), (9, AV.at_ 1000009 []), (10, AV.at_ 1000010 []), (36, AV.val (Ty.int IntKind.i64) v36), (37, AV.val (Ty.int IntKind.i64) v37), (40, AV.val (Ty.slc false Word) v1), (41, AV.val (Ty.int IntKind.i64) (↑(List.length v1) : Int)), (42, AV.val (Ty.int IntKind.i64) (0 : Int))] [(1000009, Ent.own (Ty.slc true Word) []), (1000010, Ent.own Is [])])) (.ret ((true, ()))) := by kernel_rfl
def ETurnLine_s11 (v0 : Int) (v1 : List (Int × Int × Int × Unit)) (v8 : Int) (v36 : Int) (v37 : Int) (v40 : List (Int × Int × Int × Unit)) (v41 : Int) (v42 : Int) (o1000009 : List (Int × Int × Int × Unit)) (o1000010 : List Int) : St := St.mk [(0, AV.val (Ty.int IntKind.i64) v0), (1, AV.val (Ty.slc false Word) v1), (8, AV.val (Ty.int IntKind.i64) v8), (9, AV.at_ 1000009 []), (10, AV.at_ 1000010 []), (36, AV.val (Ty.int IntKind.i64) v36), (37, AV.val (Ty.int IntKind.i64) v37), (40, AV.val (Ty.slc false Word) v40), (41, AV.val (Ty.int IntKind.i64) v41), (42, AV.val (Ty.int IntKind.i64) v42)] [(1000009, Ent.own (Ty.slc true Word) o1000009), (1000010, Ent.own Is o1000010)]
theorem ETurnLine_l11 (v0 : Int) (v1 : List (Int × Int × Int × Unit)) (v8 : Int) (v36 : Int) (v37 : Int) (v40 : List (Int × Int × Int × Unit)) (v41 : Int) (v42 : Int) (o1000009 : List (Int × Int × Int × Unit)) (o1000010 : List Int) : exec ETurnLine 1000 (.code (loopAt (bodyOf Try.prog 8) 11).1 :: .inLoop (loopAt (bodyOf Try.prog 8) 11).1 :: (loopAt (bodyOf Try.prog 8) 11).2) (ETurnLine_s11 v0 v1 v8 v36 v37 v40 v41 v42 o1000009 o1000010) =
  cond (decide (v42 < v41)) (.need ((0 : Int) ≤ v42 ∧ v42 < (↑(List.length v40) : Int)) (cond (decide (Prod.fst (List.getD v40 (Int.toNat v42) ((0 : Int), (0 : Int), (0 : Int), ())) = (1 : Int))) (cond (decide (Prod.fst (Prod.snd (List.getD v40 (Int.toNat v42) ((0 : Int), (0 : Int), (0 : Int), ()))) ≠ v8)) (.need (inK IntKind.i64 (v42 + (1 : Int))) (.cut (loopAt (bodyOf Try.prog 8) 11).1 (loopAt (bodyOf Try.prog 8) 11).2 (St.mk [(0, AV.val (Ty.int IntKind.i64) v0), (1, AV.val (Ty.slc false Word) v1), (8, AV.val (Ty.int IntKind.i64) v8), (9, AV.at_ 1000009 []), (10, AV.at_ 1000010 []), (36, AV.val (Ty.int IntKind.i64) v36), (37, AV.val (Ty.int IntKind.i64) v37), (40, AV.val (Ty.slc false Word) v40), (41, AV.val (Ty.int IntKind.i64) v41), (42, AV.val (Ty.int IntKind.i64) (v42 + (1 : Int)))] [(1000009, Ent.own (Ty.slc true Word) o1000009), (1000010, Ent.own Is o1000010)]))) (.need (List.length o1000009 + List.length (List.set [((0 : Int), (0 : Int), (0 : Int), ())] (Int.toNat (↑0 : Int)) (List.getD v40 (Int.toNat v42) ((0 : Int), (0 : Int), (0 : Int), ()))) ≤ 140737488355328 ∧ (List.length o1000009 + List.length (List.set [((0 : Int), (0 : Int), (0 : Int), ())] (Int.toNat (↑0 : Int)) (List.getD v40 (Int.toNat v42) ((0 : Int), (0 : Int), (0 : Int), ())))) * Ty.wb Word ≤ 140737488355328) (cond (decide (Prod.fst (List.getD v40 (Int.toNat v42) ((0 : Int), (0 : Int), (0 : Int), ())) = (1 : Int))) (cond (decide ((0 : Int) ≤ Prod.fst (Prod.snd (Prod.snd (List.getD v40 (Int.toNat v42) ((0 : Int), (0 : Int), (0 : Int), ())))))) (cond (decide (Prod.fst (Prod.snd (Prod.snd (List.getD v40 (Int.toNat v42) ((0 : Int), (0 : Int), (0 : Int), ())))) < (30 : Int))) (.need (True) (cond (!decide (Prod.fst (Prod.snd (Prod.snd (List.getD v40 (Int.toNat v42) ((0 : Int), (0 : Int), (0 : Int), ())))) ∈ o1000010)) (.need (List.length o1000010 + List.length (List.set [(0 : Int)] (Int.toNat (↑0 : Int)) (Prod.fst (Prod.snd (Prod.snd (List.getD v40 (Int.toNat v42) ((0 : Int), (0 : Int), (0 : Int), ())))))) ≤ 140737488355328 ∧ (List.length o1000010 + List.length (List.set [(0 : Int)] (Int.toNat (↑0 : Int)) (Prod.fst (Prod.snd (Prod.snd (List.getD v40 (Int.toNat v42) ((0 : Int), (0 : Int), (0 : Int), ()))))))) * Ty.wb (Ty.int IntKind.i64) ≤ 140737488355328) (.need (inK IntKind.i64 (v42 + (1 : Int))) (.cut (loopAt (bodyOf Try.prog 8) 11).1 (loopAt (bodyOf Try.prog 8) 11).2 (St.mk [(0, AV.val (Ty.int IntKind.i64) v0), (1, AV.val (Ty.slc false Word) v1), (8, AV.val (Ty.int IntKind.i64) v8), (9, AV.at_ 1000009 []), (10, AV.at_ 1000010 []), (36, AV.val (Ty.int IntKind.i64) v36), (37, AV.val (Ty.int IntKind.i64) v37), (40, AV.val (Ty.slc false Word) v40), (41, AV.val (Ty.int IntKind.i64) v41), (42, AV.val (Ty.int IntKind.i64) (v42 + (1 : Int)))] [(1000009, Ent.own (Ty.slc true Word) (o1000009 ++ List.set [((0 : Int), (0 : Int), (0 : Int), ())] (Int.toNat (↑0 : Int)) (List.getD v40 (Int.toNat v42) ((0 : Int), (0 : Int), (0 : Int), ())))), (1000010, Ent.own Is (o1000010 ++ List.set [(0 : Int)] (Int.toNat (↑0 : Int)) (Prod.fst (Prod.snd (Prod.snd (List.getD v40 (Int.toNat v42) ((0 : Int), (0 : Int), (0 : Int), ())))))))])))) (.need (inK IntKind.i64 (v42 + (1 : Int))) (.cut (loopAt (bodyOf Try.prog 8) 11).1 (loopAt (bodyOf Try.prog 8) 11).2 (St.mk [(0, AV.val (Ty.int IntKind.i64) v0), (1, AV.val (Ty.slc false Word) v1), (8, AV.val (Ty.int IntKind.i64) v8), (9, AV.at_ 1000009 []), (10, AV.at_ 1000010 []), (36, AV.val (Ty.int IntKind.i64) v36), (37, AV.val (Ty.int IntKind.i64) v37), (40, AV.val (Ty.slc false Word) v40), (41, AV.val (Ty.int IntKind.i64) v41), (42, AV.val (Ty.int IntKind.i64) (v42 + (1 : Int)))] [(1000009, Ent.own (Ty.slc true Word) (o1000009 ++ List.set [((0 : Int), (0 : Int), (0 : Int), ())] (Int.toNat (↑0 : Int)) (List.getD v40 (Int.toNat v42) ((0 : Int), (0 : Int), (0 : Int), ())))), (1000010, Ent.own Is o1000010)]))))) (.need (inK IntKind.i64 (v42 + (1 : Int))) (.cut (loopAt (bodyOf Try.prog 8) 11).1 (loopAt (bodyOf Try.prog 8) 11).2 (St.mk [(0, AV.val (Ty.int IntKind.i64) v0), (1, AV.val (Ty.slc false Word) v1), (8, AV.val (Ty.int IntKind.i64) v8), (9, AV.at_ 1000009 []), (10, AV.at_ 1000010 []), (36, AV.val (Ty.int IntKind.i64) v36), (37, AV.val (Ty.int IntKind.i64) v37), (40, AV.val (Ty.slc false Word) v40), (41, AV.val (Ty.int IntKind.i64) v41), (42, AV.val (Ty.int IntKind.i64) (v42 + (1 : Int)))] [(1000009, Ent.own (Ty.slc true Word) (o1000009 ++ List.set [((0 : Int), (0 : Int), (0 : Int), ())] (Int.toNat (↑0 : Int)) (List.getD v40 (Int.toNat v42) ((0 : Int), (0 : Int), (0 : Int), ())))), (1000010, Ent.own Is o1000010)])))) (.need (inK IntKind.i64 (v42 + (1 : Int))) (.cut (loopAt (bodyOf Try.prog 8) 11).1 (loopAt (bodyOf Try.prog 8) 11).2 (St.mk [(0, AV.val (Ty.int IntKind.i64) v0), (1, AV.val (Ty.slc false Word) v1), (8, AV.val (Ty.int IntKind.i64) v8), (9, AV.at_ 1000009 []), (10, AV.at_ 1000010 []), (36, AV.val (Ty.int IntKind.i64) v36), (37, AV.val (Ty.int IntKind.i64) v37), (40, AV.val (Ty.slc false Word) v40), (41, AV.val (Ty.int IntKind.i64) v41), (42, AV.val (Ty.int IntKind.i64) (v42 + (1 : Int)))] [(1000009, Ent.own (Ty.slc true Word) (o1000009 ++ List.set [((0 : Int), (0 : Int), (0 : Int), ())] (Int.toNat (↑0 : Int)) (List.getD v40 (Int.toNat v42) ((0 : Int), (0 : Int), (0 : Int), ())))), (1000010, Ent.own Is o1000010)])))) (.need (inK IntKind.i64 (v42 + (1 : Int))) (.cut (loopAt (bodyOf Try.prog 8) 11).1 (loopAt (bodyOf Try.prog 8) 11).2 (St.mk [(0, AV.val (Ty.int IntKind.i64) v0), (1, AV.val (Ty.slc false Word) v1), (8, AV.val (Ty.int IntKind.i64) v8), (9, AV.at_ 1000009 []), (10, AV.at_ 1000010 []), (36, AV.val (Ty.int IntKind.i64) v36), (37, AV.val (Ty.int IntKind.i64) v37), (40, AV.val (Ty.slc false Word) v40), (41, AV.val (Ty.int IntKind.i64) v41), (42, AV.val (Ty.int IntKind.i64) (v42 + (1 : Int)))] [(1000009, Ent.own (Ty.slc true Word) (o1000009 ++ List.set [((0 : Int), (0 : Int), (0 : Int), ())] (Int.toNat (↑0 : Int)) (List.getD v40 (Int.toNat v42) ((0 : Int), (0 : Int), (0 : Int), ())))), (1000010, Ent.own Is o1000010)])))))) (.need (List.length o1000009 + List.length (List.set [((0 : Int), (0 : Int), (0 : Int), ())] (Int.toNat (↑0 : Int)) (List.getD v40 (Int.toNat v42) ((0 : Int), (0 : Int), (0 : Int), ()))) ≤ 140737488355328 ∧ (List.length o1000009 + List.length (List.set [((0 : Int), (0 : Int), (0 : Int), ())] (Int.toNat (↑0 : Int)) (List.getD v40 (Int.toNat v42) ((0 : Int), (0 : Int), (0 : Int), ())))) * Ty.wb Word ≤ 140737488355328) (cond (decide (Prod.fst (List.getD v40 (Int.toNat v42) ((0 : Int), (0 : Int), (0 : Int), ())) = (1 : Int))) (cond (decide ((0 : Int) ≤ Prod.fst (Prod.snd (Prod.snd (List.getD v40 (Int.toNat v42) ((0 : Int), (0 : Int), (0 : Int), ())))))) (cond (decide (Prod.fst (Prod.snd (Prod.snd (List.getD v40 (Int.toNat v42) ((0 : Int), (0 : Int), (0 : Int), ())))) < (30 : Int))) (.need (True) (cond (!decide (Prod.fst (Prod.snd (Prod.snd (List.getD v40 (Int.toNat v42) ((0 : Int), (0 : Int), (0 : Int), ())))) ∈ o1000010)) (.need (List.length o1000010 + List.length (List.set [(0 : Int)] (Int.toNat (↑0 : Int)) (Prod.fst (Prod.snd (Prod.snd (List.getD v40 (Int.toNat v42) ((0 : Int), (0 : Int), (0 : Int), ())))))) ≤ 140737488355328 ∧ (List.length o1000010 + List.length (List.set [(0 : Int)] (Int.toNat (↑0 : Int)) (Prod.fst (Prod.snd (Prod.snd (List.getD v40 (Int.toNat v42) ((0 : Int), (0 : Int), (0 : Int), ()))))))) * Ty.wb (Ty.int IntKind.i64) ≤ 140737488355328) (.need (inK IntKind.i64 (v42 + (1 : Int))) (.cut (loopAt (bodyOf Try.prog 8) 11).1 (loopAt (bodyOf Try.prog 8) 11).2 (St.mk [(0, AV.val (Ty.int IntKind.i64) v0), (1, AV.val (Ty.slc false Word) v1), (8, AV.val (Ty.int IntKind.i64) v8), (9, AV.at_ 1000009 []), (10, AV.at_ 1000010 []), (36, AV.val (Ty.int IntKind.i64) v36), (37, AV.val (Ty.int IntKind.i64) v37), (40, AV.val (Ty.slc false Word) v40), (41, AV.val (Ty.int IntKind.i64) v41), (42, AV.val (Ty.int IntKind.i64) (v42 + (1 : Int)))] [(1000009, Ent.own (Ty.slc true Word) (o1000009 ++ List.set [((0 : Int), (0 : Int), (0 : Int), ())] (Int.toNat (↑0 : Int)) (List.getD v40 (Int.toNat v42) ((0 : Int), (0 : Int), (0 : Int), ())))), (1000010, Ent.own Is (o1000010 ++ List.set [(0 : Int)] (Int.toNat (↑0 : Int)) (Prod.fst (Prod.snd (Prod.snd (List.getD v40 (Int.toNat v42) ((0 : Int), (0 : Int), (0 : Int), ())))))))])))) (.need (inK IntKind.i64 (v42 + (1 : Int))) (.cut (loopAt (bodyOf Try.prog 8) 11).1 (loopAt (bodyOf Try.prog 8) 11).2 (St.mk [(0, AV.val (Ty.int IntKind.i64) v0), (1, AV.val (Ty.slc false Word) v1), (8, AV.val (Ty.int IntKind.i64) v8), (9, AV.at_ 1000009 []), (10, AV.at_ 1000010 []), (36, AV.val (Ty.int IntKind.i64) v36), (37, AV.val (Ty.int IntKind.i64) v37), (40, AV.val (Ty.slc false Word) v40), (41, AV.val (Ty.int IntKind.i64) v41), (42, AV.val (Ty.int IntKind.i64) (v42 + (1 : Int)))] [(1000009, Ent.own (Ty.slc true Word) (o1000009 ++ List.set [((0 : Int), (0 : Int), (0 : Int), ())] (Int.toNat (↑0 : Int)) (List.getD v40 (Int.toNat v42) ((0 : Int), (0 : Int), (0 : Int), ())))), (1000010, Ent.own Is o1000010)]))))) (.need (inK IntKind.i64 (v42 + (1 : Int))) (.cut (loopAt (bodyOf Try.prog 8) 11).1 (loopAt (bodyOf Try.prog 8) 11).2 (St.mk [(0, AV.val (Ty.int IntKind.i64) v0), (1, AV.val (Ty.slc false Word) v1), (8, AV.val (Ty.int IntKind.i64) v8), (9, AV.at_ 1000009 []), (10, AV.at_ 1000010 []), (36, AV.val (Ty.int IntKind.i64) v36), (37, AV.val (Ty.int IntKind.i64) v37), (40, AV.val (Ty.slc false Word) v40), (41, AV.val (Ty.int IntKind.i64) v41), (42, AV.val (Ty.int IntKind.i64) (v42 + (1 : Int)))] [(1000009, Ent.own (Ty.slc true Word) (o1000009 ++ List.set [((0 : Int), (0 : Int), (0 : Int), ())] (Int.toNat (↑0 : Int)) (List.getD v40 (Int.toNat v42) ((0 : Int), (0 : Int), (0 : Int), ())))), (1000010, Ent.own Is o1000010)])))) (.need (inK IntKind.i64 (v42 + (1 : Int))) (.cut (loopAt (bodyOf Try.prog 8) 11).1 (loopAt (bodyOf Try.prog 8) 11).2 (St.mk [(0, AV.val (Ty.int IntKind.i64) v0), (1, AV.val (Ty.slc false Word) v1), (8, AV.val (Ty.int IntKind.i64) v8), (9, AV.at_ 1000009 []), (10, AV.at_ 1000010 []), (36, AV.val (Ty.int IntKind.i64) v36), (37, AV.val (Ty.int IntKind.i64) v37), (40, AV.val (Ty.slc false Word) v40), (41, AV.val (Ty.int IntKind.i64) v41), (42, AV.val (Ty.int IntKind.i64) (v42 + (1 : Int)))] [(1000009, Ent.own (Ty.slc true Word) (o1000009 ++ List.set [((0 : Int), (0 : Int), (0 : Int), ())] (Int.toNat (↑0 : Int)) (List.getD v40 (Int.toNat v42) ((0 : Int), (0 : Int), (0 : Int), ())))), (1000010, Ent.own Is o1000010)])))) (.need (inK IntKind.i64 (v42 + (1 : Int))) (.cut (loopAt (bodyOf Try.prog 8) 11).1 (loopAt (bodyOf Try.prog 8) 11).2 (St.mk [(0, AV.val (Ty.int IntKind.i64) v0), (1, AV.val (Ty.slc false Word) v1), (8, AV.val (Ty.int IntKind.i64) v8), (9, AV.at_ 1000009 []), (10, AV.at_ 1000010 []), (36, AV.val (Ty.int IntKind.i64) v36), (37, AV.val (Ty.int IntKind.i64) v37), (40, AV.val (Ty.slc false Word) v40), (41, AV.val (Ty.int IntKind.i64) v41), (42, AV.val (Ty.int IntKind.i64) (v42 + (1 : Int)))] [(1000009, Ent.own (Ty.slc true Word) (o1000009 ++ List.set [((0 : Int), (0 : Int), (0 : Int), ())] (Int.toNat (↑0 : Int)) (List.getD v40 (Int.toNat v42) ((0 : Int), (0 : Int), (0 : Int), ())))), (1000010, Ent.own Is o1000010)]))))))) (.need (v0 ≤ (1000 : Int)) (cond (!Prod.fst (Prod.snd (Prod.snd (tturns v0 o1000009)))) (.ret ((false, ()))) (cond (decide ((↑(List.length o1000010) : Int) < (↑(List.length (Prod.fst (Prod.snd (Prod.snd (Prod.snd (Prod.fst (tturns v0 o1000009))))))) : Int))) (.ret ((false, ()))) (.need ((0 : Int) ≤ (0 : Int) ∧ (0 : Int) ≤ (↑(List.length (Prod.fst (Prod.snd (Prod.snd (Prod.snd (Prod.fst (tturns v0 o1000009))))))) : Int) ∧ (↑(List.length (Prod.fst (Prod.snd (Prod.snd (Prod.snd (Prod.fst (tturns v0 o1000009))))))) : Int) ≤ (↑(List.length o1000010) : Int)) (.need (True) (cond (!decide (Prod.fst (Prod.snd (Prod.snd (Prod.snd (Prod.fst (tturns v0 o1000009))))) = cut2 (0 : Int) (↑(List.length (Prod.fst (Prod.snd (Prod.snd (Prod.snd (Prod.fst (tturns v0 o1000009))))))) : Int) o1000010)) (.ret ((false, ()))) (.need (inK IntKind.i64 (v37 + (1 : Int))) (.cut (loopAt (bodyOf Try.prog 8) 6).1 (loopAt (bodyOf Try.prog 8) 6).2 (St.mk [(0, AV.val (Ty.int IntKind.i64) v0), (1, AV.val (Ty.slc false Word) v1), (36, AV.val (Ty.int IntKind.i64) v36), (37, AV.val (Ty.int IntKind.i64) (v37 + (1 : Int)))] []))))))))) := by kernel_rfl
theorem cTurnLine_valid : (smallC [I64, .slc false Word]).Valid Try.prog 8 := by
  refine Ctr.valid_of ETurnLine_ok rfl rfl Try.func8 (c := bodyOf Try.prog 8) rfl rfl FTurnLine_ok rfl ?_
  rintro ⟨(n : Int), (l : List BeatD), ⟨⟩⟩ hp -
  refine exec_sound (n := 1000) ETurnLine_ok FTurnLine_ok ?_
  refine holds_of_eq (ETurnLine_t n l) ?_
  have hlen : l.length ≤ 1048576 := by
    have h2 := blkL_len (f := Ty.bulk Word) (c := 1) (fun x => by
      show 1 ≤ 1 + (1 + (1 + 0)); omega) l
    have h1 : 1 + ((bulkL (Ty.bulk Word) l + 1) + 0) ≤ 1048576 := hp
    omega
  have hf := few_in n
  have hw : Ty.wb (.pair (.int .i64) (.pair (.int .i64) (.pair (.int .i64) .unit))) = 24 := rfl
  generalize few n = k at *
  simp only [holds_cond, Tree.holds, true_and, true_implies, decide_eq_true_eq, decide_eq_false_iff_not, Bool.not_eq_true', Bool.not_eq_false', Int.toNat_natCast, inK_i64, List.length_set, List.length_cons, List.length_nil]
  refine ⟨by omega, fun _ => ?_⟩
  refine Reach.loopI ETurnLine_ok FTurnLine_ok (fun p : Nat => ETurnLine_s6 k l k (p : Int)) (fun p => (p : Int) ≤ k) (fun p => k.toNat - p) 1000 (fun _ => ⟨uniq_of rfl, uniq_of rfl⟩) ?_ 0 (by omega)
  rintro p p1 - ihp
  have p1 : (p : Int) ≤ k := p1
  refine holds_of_eq (ETurnLine_l6 ..) ?_
  simp only [holds_cond, Tree.holds, true_and, true_implies, decide_eq_true_eq, decide_eq_false_iff_not, Bool.not_eq_true', Bool.not_eq_false', Int.toNat_natCast, inK_i64, List.length_set, List.length_cons, List.length_nil]
  refine ⟨fun hpk => ?_, fun _ => rfl⟩
  have st0 : LineOk k p (t0 k, List.replicate (mx k).toNat []) [] := by
    refine ⟨TInv.start (t0_ok hf.1 hf.2), ?_, fun q hq => ?_⟩
    · show [] ++ (List.replicate (mx k).toNat ([] : List Int)).getD p [] = []
      rw [repF _ _ (by rw [mx, if_pos (by omega)]; omega)]; rfl
    · show (List.replicate (mx k).toNat ([] : List Int)).getD q [] = []
      by_cases hq2 : q < (mx k).toNat
      · rw [repF _ _ hq2]
      · rw [List.getD_eq_getElem?_getD, List.getElem?_eq_none (by rw [List.length_replicate]; omega)]; rfl
  refine Reach.loopI ETurnLine_ok FTurnLine_ok (fun s : Nat × List BeatD × List Int => ETurnLine_s11 k l (p : Int) k (p : Int) l (l.length : Int) (s.1 : Int) s.2.1 s.2.2) (fun s => s.1 ≤ l.length ∧ LineOk k p (s.2.1.foldl tgo (t0 k, List.replicate (mx k).toNat [])) s.2.2 ∧ s.2.1.length ≤ s.1 ∧ s.2.2.length ≤ s.1) (fun s => l.length - s.1) 1000 (fun _ => ⟨uniq_of rfl, uniq_of rfl⟩) ?_ (0, [], []) ⟨by omega, st0, by simp, by simp⟩
  rintro ⟨i, mn, ak⟩ ⟨k1, k2, k3, k4⟩ - ih
  have k1 : i ≤ l.length := k1
  have k2 : LineOk k p (mn.foldl tgo (t0 k, List.replicate (mx k).toNat [])) ak := k2
  have k3 : mn.length ≤ i := k3
  have k4 : ak.length ≤ i := k4
  refine holds_of_eq (ETurnLine_l11 ..) ?_
  simp only [holds_cond, Tree.holds, true_and, true_implies, decide_eq_true_eq, decide_eq_false_iff_not, Bool.not_eq_true', Bool.not_eq_false', Int.toNat_natCast, inK_i64, List.length_set, List.length_cons, List.length_nil, hw, wb_i64, cut2_tk]
  refine ⟨fun a => ⟨by omega, fun _ => ?_⟩, fun a => ⟨by omega, fun _ => ?_⟩⟩
  · have hi : i < l.length := by omega
    generalize l.getD i (0, 0, 0, ()) = b
    have q1 := k2.bl hpk b
    have q2 := bl_len (p := p) k3 k4 b
    have hb : bl p (mn, ak) b = if b.1 = 1 ∧ b.2.1 ≠ p then (mn, ak) else (mn ++ [b], if b.1 = 1 ∧ 0 ≤ b.2.2.1 ∧ b.2.2.1 < 30 ∧ b.2.2.1 ∉ ak then ak ++ [b.2.2.1] else ak) := rfl
    have next := fun (s : List BeatD × List Int) (e : bl p (mn, ak) b = s) => ih (i + 1, s) ⟨by show i + 1 ≤ l.length; omega, by rw [← e]; exact q1, by rw [← e]; exact q2.1, by rw [← e]; exact q2.2⟩ (by show l.length - (i + 1) < l.length - i; omega)
    refine ⟨fun f => ⟨fun g => ⟨by omega, fun _ => next (mn, ak) (by rw [hb, if_pos ⟨f, g⟩])⟩, fun g => ⟨⟨by omega, by omega⟩, fun _ => ⟨fun f1 => ⟨fun h0 => ⟨fun h1 => ⟨fun h2 => ⟨⟨by omega, by omega⟩, fun _ => ⟨by omega, fun _ => next (mn ++ [b], ak ++ [b.2.2.1]) ?_⟩⟩, fun h2 => ⟨by omega, fun _ => next (mn ++ [b], ak) ?_⟩⟩, fun h1 => ⟨by omega, fun _ => next (mn ++ [b], ak) ?_⟩⟩, fun h0 => ⟨by omega, fun _ => next (mn ++ [b], ak) ?_⟩⟩, fun f1 => absurd f f1⟩⟩⟩, fun f => ⟨⟨by omega, by omega⟩, fun _ => ⟨fun f1 => absurd f1 f, fun _ => ⟨by omega, fun _ => next (mn ++ [b], ak) ?_⟩⟩⟩⟩
    · rw [hb, if_neg (fun h => g h.2), if_pos ⟨f, h0, h1, h2⟩]
    · rw [hb, if_neg (fun h => g h.2), if_neg (fun h => h.2.2.2 h2)]
    · rw [hb, if_neg (fun h => g h.2), if_neg (fun h => h1 h.2.2.1)]
    · rw [hb, if_neg (fun h => g h.2), if_neg (fun h => h0 h.2.1)]
    · rw [hb, if_neg (fun h => f h.1), if_neg (fun h => f h.1)]
  · have e := tturns_eq hf.1 hf.2 mn
    have hall := k2.all
    rw [e]
    generalize mn.foldl tgo (t0 k, List.replicate (mx k).toNat []) = z at *
    obtain ⟨⟨q0, q1, q2, q3, q4, ⟨⟩⟩, m⟩ := z
    have hall : q3 ++ q2.getD p [] = ak := hall
    have hle : q3.length ≤ ak.length := by rw [← hall, List.length_append]; omega
    dsimp only
    refine ⟨fun h => (by cases h), fun _ => ⟨fun h => (by omega), fun _ => ⟨by omega, fun _ => ⟨fun h => absurd ?_ h, fun _ => ⟨by omega, fun _ => ihp (p + 1) (by show ((p + 1 : Nat) : Int) ≤ k; omega) (by show _ - (p + 1) < _ - p; omega)⟩⟩⟩⟩⟩
    rw [← hall, List.take_left]
end Go.Proofs.Ytbcdpeogfghgcaa
