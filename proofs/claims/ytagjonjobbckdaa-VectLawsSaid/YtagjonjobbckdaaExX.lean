import Derived.Test.YtagjonjobbckdaaExO
namespace Go.Ex

section
variable {E : Env} {ops : Array Oper}

theorem some_true {α : Type _} {Y : α → Prop} {a : α} : Y a ↔ ∃ (p : Prop) (s : α), some (True, a) = some (p, s) ∧ p ∧ Y s := by
  constructor
  · intro h; exact ⟨_, _, rfl, trivial, h⟩
  · rintro ⟨p, s, h, _, h2⟩; cases h; exact h2

/-- the tree of a place, as a step -/
theorem pl_run {o : Oper} {s : St} {k : St → Tree E.rs} {L : Code → List Item → St → Prop} {R : DL E.rs → Prop} : (runOp E o s k).holds L R ↔ ∃ p s', runR E o s = some (p, s') ∧ p ∧ (k s').holds L R := by
  unfold runOp runR
  cases hd : dstOk E.nt o.dst with
  | false => simp [Tree.holds]
  | true =>
    simp only
    have other : ∀ r : OR, (match r with | .fail why => Tree.stuck why | .ok v s' => k (s'.put o.dst v) | .okN p v s' => Tree.need p (k (s'.put o.dst v))).holds L R ↔
        ∃ p s', (match r.get with | none => none | some (p, v, s') => some (p, s'.put o.dst v)) = some (p, s') ∧ p ∧ (k s').holds L R := by
      intro r
      cases r with
      | fail why => simp [Tree.holds, OR.get]
      | ok v s' => exact some_true (Y := fun s' => (k s').holds L R)
      | okN p v s' =>
        simp only [Tree.holds, OR.get, Option.some.injEq, Prod.mk.injEq]
        constructor
        · rintro ⟨h1, h2⟩; exact ⟨_, _, ⟨rfl, rfl⟩, h1, h2 h1⟩
        · rintro ⟨_, _, ⟨rfl, rfl⟩, h1, h2⟩; exact ⟨h1, fun _ => h2⟩
    cases ho : o.op with
    | pick c a b =>
      simp only
      cases hc : s.ev c with
      | val t x =>
        cases t with
        | bool =>
          cases x with
          | true => exact some_true (Y := fun s' => (k s').holds L R)
          | false => exact some_true (Y := fun s' => (k s').holds L R)
        | _ => simp [Tree.holds]
      | _ => simp [Tree.holds]
    | _ => exact other _

theorem pl_place {o : Oper} {s : St} {k : St → Tree E.rs} {L : Code → List Item → St → Prop} {R : DL E.rs → Prop} : (placeA E ops o s k).holds L R ↔ ∃ p s', placeR E ops o s = some (p, s') ∧ p ∧ (k s').holds L R := by
  unfold placeA placeR
  cases hg : o.guard with
  | none => exact pl_run
  | some jw =>
    obtain ⟨j, want⟩ := jw
    simp only
    cases hs : guardSlot ops j with
    | none => simp [Tree.holds]
    | some g =>
      simp only
      cases hv : s.get g with
      | raw v =>
        cases v with
        | tuple vs =>
          simp only
          cases hd : dstOk E.nt o.dst with
          | false => simp [Tree.holds]
          | true => exact some_true (Y := fun s' => (k s').holds L R)
        | _ => simp [Tree.holds]
      | val t x =>
        cases t with
        | bool =>
          simp only
          cases hd : dstOk E.nt o.dst with
          | false => simp [Tree.holds]
          | true =>
            simp only
            cases x with
            | true =>
              cases want with
              | true => exact pl_run
              | false => exact some_true (Y := fun s' => (k s').holds L R)
            | false =>
              cases want with
              | true => exact some_true (Y := fun s' => (k s').holds L R)
              | false => exact pl_run
        | _ => simp [Tree.holds]
      | _ => simp [Tree.holds]

/-- a way through operations, one after the other -/
def RunsTo (E : Env) (ops : Array Oper) : List Oper → St → St → Prop
  | [], s, s' => s = s'
  | o :: l, s, s' => ∃ p s1, placeR E ops o s = some (p, s1) ∧ p ∧ RunsTo E ops l s1 s'

theorem reg_runs {k : St → Tree E.rs} {L : Code → List Item → St → Prop} {R : DL E.rs → Prop} : ∀ {l : List Oper} {s : St}, (regA E ops l s k).holds L R ↔ ∃ s', RunsTo E ops l s s' ∧ (k s').holds L R
  | [], s => by simp [regA, RunsTo]
  | o :: l, s => by
    simp only [regA, pl_place, RunsTo]
    constructor
    · rintro ⟨p, s1, h1, h2, h3⟩
      obtain ⟨s', h4, h5⟩ := reg_runs.1 h3
      exact ⟨s', ⟨p, s1, h1, h2, h4⟩, h5⟩
    · rintro ⟨s', ⟨p, s1, h1, h2, h4⟩, h5⟩
      exact ⟨p, s1, h1, h2, reg_runs.2 ⟨s', h4, h5⟩⟩

end
end Go.Ex
