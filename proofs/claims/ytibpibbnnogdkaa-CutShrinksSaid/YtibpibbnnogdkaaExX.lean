import Derived.Test.YtibpibbnnogdkaaExO2
namespace Go.Ex

section
variable {E : Env} {ops : Array Oper}

theorem some_true {α : Type _} {Y : α → Prop} {a : α} : Y a ↔ ∃ (p : Prop) (s : α), some (True, a) = some (p, s) ∧ p ∧ Y s := by
  constructor
  · intro h; exact ⟨_, _, rfl, trivial, h⟩
  · rintro ⟨p, s, h, _, h2⟩; cases h; exact h2

/-- the tree of a place, as a step -/
theorem pl_run {o : Oper} {s : St} {k : St → Tree (E.rs ++ wts E.ps)} {L : Code → List Item → St → Prop} {R : DL (E.rs ++ wts E.ps) → Prop} : (runOp E o s k).holds L R ↔ ∃ p s', runR E o s = some (p, s') ∧ p ∧ (k s').holds L R := by
  unfold runOp runR
  cases hd : dstOk E.nt o.dst with
  | false => simp [Tree.holds]
  | true =>
    simp only
    have other : ∀ r : OR, (match r with | .fail why => Tree.stuck why | .ok v s' => k (s'.put o.dst v) | .okN p v s' => Tree.need p (k (s'.put o.dst v))).holds L R ↔
        ∃ p s', (match r.get with | none => none | some (p, v, s') => some (p, s'.put o.dst v)) = some (p, s') ∧ p ∧ (k s').holds L R := by
      intro r
      cases r with
      | fail why => simp [Tree.holds, OR.get]
      | ok v s' => exact some_true (Y := fun s' => (k s').holds L R)
      | okN p v s' =>
        simp only [Tree.holds, OR.get, Option.some.injEq, Prod.mk.injEq]
        constructor
        · rintro ⟨h1, h2⟩; exact ⟨_, _, ⟨rfl, rfl⟩, h1, h2 h1⟩
        · rintro ⟨_, _, ⟨rfl, rfl⟩, h1, h2⟩; exact ⟨h1, fun _ => h2⟩
    cases ho : o.op with
    | pick c a b =>
      simp only
      cases hc : s.ev c with
      | val t x =>
        cases t with
        | bool =>
          cases x with
          | true => exact some_true (Y := fun s' => (k s').holds L R)
          | false => exact some_true (Y := fun s' => (k s').holds L R)
        | _ => simp [Tree.holds]
      | _ => simp [Tree.holds]
    | _ => exact other _

theorem pl_place {o : Oper} {s : St} {k : St → Tree (E.rs ++ wts E.ps)} {L : Code → List Item → St → Prop} {R : DL (E.rs ++ wts E.ps) → Prop} : (placeA E ops o s k).holds L R ↔ ∃ p s', placeR E ops o s = some (p, s') ∧ p ∧ (k s').holds L R := by
  unfold placeA placeR
  cases hg : o.guard with
  | none => exact pl_run
  | some jw =>
    obtain ⟨j, want⟩ := jw
    simp only
    cases hs : guardSlot ops j with
    | none => simp [Tree.holds]
    | some g =>
      simp only
      cases hv : s.get g with
      | raw v =>
        cases v with
        | tuple vs =>
          simp only
          cases hd : dstOk E.nt o.dst with
          | false => simp [Tree.holds]
          | true => exact some_true (Y := fun s' => (k s').holds L R)
        | _ => simp [Tree.holds]
      | val t x =>
        cases t with
        | bool =>
          simp only
          cases hd : dstOk E.nt o.dst with
          | false => simp [Tree.holds]
          | true =>
            simp only
            cases x with
            | true =>
              cases want with
              | true => exact pl_run
              | false => exact some_true (Y := fun s' => (k s').holds L R)
            | false =>
              cases want with
              | true => exact some_true (Y := fun s' => (k s').holds L R)
              | false => exact pl_run
        | _ => simp [Tree.holds]
      | _ => simp [Tree.holds]

/-- a way through operations, one after the other -/
def RunsTo (E : Env) (ops : Array Oper) : List Oper → St → St → Prop
  | [], s, s' => s = s'
  | o :: l, s, s' => ∃ p s1, placeR E ops o s = some (p, s1) ∧ p ∧ RunsTo E ops l s1 s'

theorem reg_runs {k : St → Tree (E.rs ++ wts E.ps)} {L : Code → List Item → St → Prop} {R : DL (E.rs ++ wts E.ps) → Prop} : ∀ {l : List Oper} {s : St}, (regA E ops l s k).holds L R ↔ ∃ s', RunsTo E ops l s s' ∧ (k s').holds L R
  | [], s => by simp [regA, RunsTo]
  | o :: l, s => by
    simp only [regA, pl_place, RunsTo]
    constructor
    · rintro ⟨p, s1, h1, h2, h3⟩
      obtain ⟨s', h4, h5⟩ := reg_runs.1 h3
      exact ⟨s', ⟨p, s1, h1, h2, h4⟩, h5⟩
    · rintro ⟨s', ⟨p, s1, h1, h2, h4⟩, h5⟩
      exact ⟨p, s1, h1, h2, reg_runs.2 ⟨s', h4, h5⟩⟩

/-- neither takes what the other looks at -/
def PairP (ops : Array Oper) (x : Oper) (sx : St) (Tx : List Nat) (y : Oper) (Ty : List Nat) : Prop :=
  (∀ m ∈ looks ops y, ∀ i ∈ Tx, (sx.get m).ment i = false) ∧ (∀ m ∈ looks ops x, ∀ i ∈ Ty, (sx.get m).ment i = false) ∧ (∀ i ∈ Tx, i % 1000 ≠ (y.dst.getD 0) % 1000)

theorem pair_of {e : Met} {y : Oper} {Ty : List Nat} (h : pairB ops e y Ty = true) : PairP ops e.o e.s e.T y Ty := by
  simp only [pairB, Bool.and_eq_true] at h
  obtain ⟨h1, h2⟩ := h
  refine ⟨?_, ?_, ?_⟩
  · intro m hm i hi
    split at h1
    · rename_i he; rw [he] at hi; cases hi
    · simp only [Bool.and_eq_true, List.all_eq_true, Bool.not_eq_true'] at h1
      exact h1.1 m hm i hi
  · intro m hm i hi
    split at h2
    · cases hi
    · simp only [List.all_eq_true, Bool.not_eq_true'] at h2
      exact h2 m hm i hi
  · intro i hi hmod
    split at h1
    · rename_i he; rw [he] at hi; cases hi
    · simp only [Bool.and_eq_true, List.all_eq_true, Bool.not_eq_true'] at h1
      have := h1.2 i hi
      rw [hmod] at this
      simp at this

/-- a way through a drawn region's operations: those that are not ordered do not touch one another -/
def RunsA (E : Env) (ops : Array Oper) (M : Nat → Nat) : List (Nat × St) → List Nat → St → St → Prop
  | _, [], s, s' => s = s'
  | acc, i :: l, s, s' => ∃ o, ops[i]? = some o ∧ (∀ e ∈ acc, (M i).testBit e.1 = true ∨ ∃ x, ops[e.1]? = some x ∧ PairP ops x e.2 (takes E x e.2) o (takes E o s)) ∧
      ∃ p s1, placeR E ops o s = some (p, s1) ∧ p ∧ RunsA E ops M ((i, s) :: acc) l s1 s'

/-- the append of what is pending -/
def AppOp (E : Env) (ops : Array Oper) (q : PendA) : Prop := ∃ oa c, ops[q.k]? = some oa ∧ oa.guard = none ∧ oa.dst = some q.d ∧ dstOk E.nt (some q.d) = true ∧ oa.op = .call c ∧ c.callee = .builtin .append ∧ c.args.toList = [q.x, q.y] ∧ c.argTypes.toList = [q.T, q.U]

theorem appAt_op {o : Oper} {s : St} {i : Nat} {q : PendA} (h : appAt E o s i = some q) (ho : ops[i]? = some o) : AppOp E ops q ∧ q.k = i := by
  unfold appAt at h
  split at h
  · rename_i d c hg hd hdo hop
    split at h
    · rename_i x y T U hc ha hT
      split at h
      · split at h
        · cases h
        · cases h
          exact ⟨⟨o, c, ho, hg, hd, by rw [← hd]; exact hdo, hop, hc, ha, hT⟩, rfl⟩
      · cases h
    · cases h
  · cases h

def FinRun (E : Env) (ops : Array Oper) (M : List Nat) (q : PendA) (s1 : St) (k : St → Tree (E.rs ++ wts E.ps)) (L : Code → List Item → St → Prop) (R : DL (E.rs ++ wts E.ps) → Prop) : Prop :=
  ∃ o p s2, ops[ops.size - 1]? = some o ∧ finA E ops M q (ops.size - 1) o s1 = some (p, s2) ∧ p ∧ (k s2).holds L R

theorem drop_here {o : Oper} {l : List Oper} {n : Nat} (hl : ops.toList.drop n = o :: l) : ops[n]? = some o ∧ ops.toList.drop (n + 1) = l ∧ ops.size = n + 1 + l.length := by
  have h1 : (ops.toList.drop n)[0]? = some o := by rw [hl]; rfl
  have h2 : (ops.toList.drop n).length = (o :: l).length := by rw [hl]
  simp only [List.length_drop, List.length_cons, Array.length_toList] at h2
  refine ⟨by simpa using h1, ?_, by omega⟩
  rw [← List.drop_drop, hl]; rfl

theorem regD_pend {M : List Nat} {q : PendA} {k : St → Tree (E.rs ++ wts E.ps)} {L : Code → List Item → St → Prop} {R : DL (E.rs ++ wts E.ps) → Prop} : ∀ {l : List Oper} {n : Nat} {s : St} {acc : List Met} {acc' : List (Nat × St)}, ops.toList.drop n = l →
    (∀ e ∈ acc', ∃ m ∈ acc, m.i = e.1 ∧ ops[e.1]? = some m.o ∧ m.s = e.2 ∧ m.T = takes E m.o e.2) → (regP E ops M q n l s acc k).holds L R → ∃ s', RunsA E ops (fun i => M.getD i 0) acc' (List.range' n (l.length - 1)) s s' ∧ FinRun E ops M q s' k L R
  | [], n, s, acc, acc', _, _, h => h.elim
  | [o], n, s, acc, acc', hl, ha, h => by
    obtain ⟨h1, h2, h3⟩ := drop_here hl
    simp only [regP] at h
    split at h
    · rename_i p s2 hf
      have e : ops.size - 1 = n := by simp at h3; omega
      exact ⟨s, rfl, o, p, s2, by rw [e]; exact h1, by rw [e]; exact hf, h.1, h.2 h.1⟩
    · exact h.elim
  | o :: o2 :: l, n, s, acc, acc', hl, ha, h => by
    obtain ⟨ho, hl', _⟩ := drop_here hl
    simp only [regP] at h
    split at h
    · exact h.elim
    · rename_i hall
      obtain ⟨p, s1, h1, h2, h3⟩ := pl_place.1 h
      obtain ⟨s', k1, k2⟩ := regD_pend (acc' := (n, s) :: acc') hl' (fun e he => by
        rcases List.mem_cons.1 he with rfl | he
        · exact ⟨_, List.mem_cons_self .., rfl, ho, rfl, rfl⟩
        · obtain ⟨m, hm, r⟩ := ha e he; exact ⟨m, List.mem_cons_of_mem _ hm, r⟩) h3
      refine ⟨s', ⟨o, ho, fun e he => ?_, p, s1, h1, h2, k1⟩, k2⟩
      obtain ⟨m, hm, m1, m2, m3, m4⟩ := ha e he
      have := (List.all_eq_true.1 hall) m hm
      simp only [Bool.or_eq_true] at this
      rcases this with this | this
      · exact .inl (by rw [← m1]; exact this)
      · have hp := pair_of this
        rw [m3, m4] at hp
        exact .inr ⟨m.o, m2, hp⟩

theorem regD_runs {M : List Nat} {k : St → Tree (E.rs ++ wts E.ps)} {L : Code → List Item → St → Prop} {R : DL (E.rs ++ wts E.ps) → Prop} : ∀ {l : List Oper} {n : Nat} {s : St} {acc : List Met} {acc' : List (Nat × St)}, ops.toList.drop n = l →
    (∀ e ∈ acc', ∃ m ∈ acc, m.i = e.1 ∧ ops[e.1]? = some m.o ∧ m.s = e.2 ∧ m.T = takes E m.o e.2) → (regD E ops M n l s acc k).holds L R →
    (∃ s', RunsA E ops (fun i => M.getD i 0) acc' (List.range' n l.length) s s' ∧ (k s').holds L R) ∨
    ∃ q s', n ≤ q.k ∧ AppOp E ops q ∧ RunsA E ops (fun i => M.getD i 0) acc' ((List.range' n (l.length - 1)).filter (fun j => !(j == q.k))) s s' ∧ FinRun E ops M q s' k L R
  | [], n, s, acc, acc', _, _, h => .inl ⟨s, rfl, h⟩
  | o :: l, n, s, acc, acc', hl, ha, h => by
    obtain ⟨ho, hl', _⟩ := drop_here hl
    simp only [regD] at h
    split at h
    · rename_i q hq
      obtain ⟨a1, a2⟩ := appAt_op hq ho
      obtain ⟨s', k1, k2⟩ := regD_pend hl' ha h
      refine .inr ⟨q, s', by omega, a1, ?_, k2⟩
      cases l with
      | nil =>
        simp only [List.length_nil, Nat.zero_sub, List.range'_zero] at k1
        simpa using k1
      | cons o2 l =>
        simp only [List.length_cons, Nat.add_sub_cancel] at k1 ⊢
        rw [List.range'_succ, List.filter_cons]
        simp only [a2, beq_self_eq_true, Bool.not_true, Bool.false_eq_true, if_false]
        rw [List.filter_eq_self.2 (fun j hj => by have := (List.mem_range'_1.1 hj).1; simp; omega)]
        exact k1
    · split at h
      · exact h.elim
      · rename_i hall
        obtain ⟨p, s1, h1, h2, h3⟩ := pl_place.1 h
        have hacc : ∀ e ∈ acc', (M.getD n 0).testBit e.1 = true ∨ ∃ x, ops[e.1]? = some x ∧ PairP ops x e.2 (takes E x e.2) o (takes E o s) := by
          intro e he
          obtain ⟨m, hm, m1, m2, m3, m4⟩ := ha e he
          have := (List.all_eq_true.1 hall) m hm
          simp only [Bool.or_eq_true] at this
          rcases this with this | this
          · exact .inl (by rw [← m1]; exact this)
          · have hp := pair_of this
            rw [m3, m4] at hp
            exact .inr ⟨m.o, m2, hp⟩
        rcases regD_runs (acc' := (n, s) :: acc') hl' (fun e he => by
          rcases List.mem_cons.1 he with rfl | he
          · exact ⟨_, List.mem_cons_self .., rfl, ho, rfl, rfl⟩
          · obtain ⟨m, hm, r⟩ := ha e he; exact ⟨m, List.mem_cons_of_mem _ hm, r⟩) h3 with ⟨s', k1, k2⟩ | ⟨q, s', k0, k1, k2, k3⟩
        · exact .inl ⟨s', ⟨o, ho, hacc, p, s1, h1, h2, k1⟩, k2⟩
        · refine .inr ⟨q, s', by omega, k1, ?_, k3⟩
          cases l with
          | nil =>
            -- the append would stand behind the last operation
            exfalso
            obtain ⟨oa, c, a1, _⟩ := k1
            have := (Array.getElem?_eq_some_iff.1 a1).1
            have h9 := (drop_here hl).2.2
            simp at h9; omega
          | cons o2 l =>
            simp only [List.length_cons, Nat.add_sub_cancel] at k2 ⊢
            rw [List.range'_succ, List.filter_cons]
            have hne : (!(n == q.k)) = true := by simp; omega
            rw [if_pos hne]
            exact ⟨o, ho, hacc, p, s1, h1, h2, k2⟩

end
end Go.Ex
