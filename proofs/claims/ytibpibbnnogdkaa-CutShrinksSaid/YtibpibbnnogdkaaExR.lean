import Derived.Test.YtibpibbnnogdkaaExQ2
namespace Go.Ex

def CtrsOk (P : Program) : List (FuncId × Ctr) → Prop
  | [] => True
  | (f, c) :: l => c.Valid P f ∧ CtrsOk P l

theorem CtrsOk.look {P : Program} : ∀ {l : List (FuncId × Ctr)} {f : FuncId} {c : Ctr}, CtrsOk P l → Ex.look f l = some c → c.Valid P f
  | [], _, _, _, h => by cases h
  | (g, d) :: l, f, c, h, hl => by
    simp only [Ex.look] at hl
    cases hb : Nat.beq f g with
    | true =>
      rw [hb] at hl
      have := Nat.eq_of_beq_eq_true hb
      subst this; cases hl; exact h.1
    | false => rw [hb] at hl; exact CtrsOk.look h.2 hl

theorem tt_look {P : Program} : ∀ {l : List (TypeId × TI)} {T : TypeId} {i : TI}, l.all (tiOk P) = true → Ex.look T l = some i → tiOk P (T, i) = true
  | [], _, _, _, h => by cases h
  | (g, d) :: l, T, i, h, hl => by
    simp only [List.all_cons, Bool.and_eq_true] at h
    simp only [Ex.look] at hl
    cases hb : Nat.beq T g with
    | true =>
      rw [hb] at hl
      have := Nat.eq_of_beq_eq_true hb
      subst this; cases hl; exact h.1
    | false => rw [hb] at hl; exact tt_look h.2 hl

theorem envOk {E : Env} (ht : E.tt.all (tiOk E.P) = true) (hc : CtrsOk E.P E.ctr) : EnvOk E :=
  ⟨fun _ _ h => tt_look ht h, fun _ _ h => hc.look h⟩

theorem holds_of_eq {rs : List Ty} {L : Code → List Item → St → Prop} {R : DL rs → Prop} {t t' : Tree rs} (h : t = t') (h' : t'.holds L R) : t.holds L R := h ▸ h'

/-- a loop, with what is known of later rounds at hand (for loops in loops) -/
theorem Reach.loopI {E : Env} (hE : EnvOk E) {fn : Func} (hf : FnOk E fn) {y : DL E.rs} {z : DL (wts E.ps)} {c : Code} {k : List Item} {α : Type} (mk : α → St) (I : α → Prop) (μ : α → Nat) (n : Nat) (hu : ∀ x, uniq (mk x).fr ∧ uniq (mk x).hp)
    (h : ∀ x, I x → (mk x).rng → (∀ x', I x' → μ x' < μ x → Reach E fn y z (.code c :: .inLoop c :: k) (mk x')) →
      (exec E n (.code c :: .inLoop c :: k) (mk x)).holds (fun c' k' s' => Reach E fn y z (.code c' :: .inLoop c' :: k') s') (· = DL.app y z)) :
    ∀ x, I x → Reach E fn y z (.code c :: .inLoop c :: k) (mk x) := by
  have key : ∀ m x, μ x = m → I x → Reach E fn y z (.code c :: .inLoop c :: k) (mk x) := by
    intro m
    induction m using Nat.strongRecOn with
    | _ m ih =>
      intro x hm hI w0 S0 vs x0 L S ι a w hS0 hK hrs
      have hx := h x hI (hrs.rng (hu x).1 (hu x).2) (fun x' h1 h2 => ih (μ x') (hm ▸ h2) x' rfl h1)
      exact exec_sound hE hf hx w0 S0 vs x0 L S ι a w hS0 hK hrs
  exact fun x hI => key (μ x) x rfl hI

/-- a function's body -/
def bodyOf (P : Program) (f : Nat) : Code := ((P.funcs[f]?).bind (·.body)).getD .skip

/-- the types of a program, read off its table -/
def tyOf (P : Program) : Nat → TypeId → Option Ty
  | 0, _ => none
  | n + 1, T =>
    match P.underlying T with
    | some .bool => some .bool
    | some (.int k) => some (.int k)
    | some .string => some .str
    | some (.struct fs) => fs.toList.foldr (fun f r => match tyOf P n f.type, r with | some a, some b => some (.pair a b) | _, _ => none) (some .unit)
    | some (.array m e) => (tyOf P n e).map (.arr m)
    | some (.slice e) => (tyOf P n e).map (.slc true)
    | _ => none

end Go.Ex
