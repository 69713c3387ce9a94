import Derived.Test.YtagjonjobbckdaaExX
namespace Go.Ex

/-- every entry of the lists counts: the first of its number -/
def uniq {α : Type _} : List (Nat × α) → Prop
  | [] => True
  | (n, _) :: l => look n l = none ∧ uniq l

theorem uniq_put {α : Type _} (n : Nat) (x : α) : ∀ {l : List (Nat × α)}, uniq l → uniq (put n x l)
  | [], _ => ⟨rfl, trivial⟩
  | (m, y) :: l, ⟨h1, h2⟩ => by
    simp only [put]
    cases hb : Nat.beq n m with
    | true => have := Nat.eq_of_beq_eq_true hb; subst this; exact ⟨h1, h2⟩
    | false =>
      refine ⟨?_, uniq_put n x h2⟩
      rw [look_put, if_neg (by rintro rfl; simp at hb)]
      exact h1

theorem uniq_of {α : Type _} : ∀ {l : List (Nat × α)}, uniqB l = true → uniq l
  | [], _ => trivial
  | (n, x) :: l, h => by
    simp only [uniqB, Bool.and_eq_true, Option.isNone_iff_eq_none] at h
    exact ⟨h.1, uniq_of h.2⟩

theorem noMent_mk {d : Nat} : ∀ {l : List (Nat × AV)}, uniq l → (∀ n v, look n l = some v → v.ment d = false) → noMent d l = true
  | [], _, _ => rfl
  | (m, v) :: l, ⟨h1, h2⟩, h => by
    simp only [noMent, Bool.and_eq_true, Bool.not_eq_true']
    refine ⟨h m v (by simp [look]), noMent_mk h2 (fun n w hw => h n w ?_)⟩
    simp only [look]
    cases hb : Nat.beq n m with
    | true => have := Nat.eq_of_beq_eq_true hb; subst this; rw [h1] at hw; cases hw
    | false => exact hw

def addsHp : List (Nat × Ent) → List (Nat × Ent) → List (Nat × Ent)
  | [], h => h
  | (n, e) :: l, h => addsHp l (put n e h)

def St.adds (s : St) (new : List (Nat × Ent)) : St := { s with hp := addsHp new s.hp }

theorem look_adds_congr {i : Nat} : ∀ {new h h' : List (Nat × Ent)}, look i h = look i h' → look i (addsHp new h) = look i (addsHp new h')
  | [], _, _, e => e
  | (n, x) :: l, h, h', e => look_adds_congr (new := l) (h := put n x h) (h' := put n x h') (by rw [look_put, look_put, e])

theorem look_adds_none {i : Nat} : ∀ {new h : List (Nat × Ent)}, (∀ q ∈ new, q.1 ≠ i) → look i (addsHp new h) = look i h
  | [], _, _ => rfl
  | (n, x) :: l, h, e => by
    rw [addsHp, look_adds_none (fun q hq => e q (by simp [hq])), look_put, if_neg (Ne.symm (e (n, x) (by simp)))]

theorem look_adds_some {i : Nat} : ∀ {new h : List (Nat × Ent)}, (∃ q ∈ new, q.1 = i) → ∃ e, look i (addsHp new h) = some e
  | [], _, ⟨q, hq, _⟩ => by cases hq
  | (n, x) :: l, h, ⟨q, hq, e⟩ => by
    by_cases hl : ∃ q ∈ l, q.1 = i
    · exact look_adds_some (new := l) (h := put n x h) hl
    · rcases List.mem_cons.1 hq with rfl | hq
      · simp only at e
        subst e
        refine ⟨x, ?_⟩
        rw [addsHp, look_adds_none (fun q hq hqi => hl ⟨q, hq, hqi⟩), look_put, if_pos rfl]
      · exact absurd ⟨q, hq, e⟩ hl

/-- names that may be laid -/
structure FreshL (s : St) (new : List (Nat × Ent)) (ids : List Nat) : Prop where
  hp : ∀ q ∈ new, look q.1 s.hp = none
  fr : ∀ n ∈ ids, ∀ m v, look m s.fr = some v → v.ment n = false

def Agree (s t : St) (xs : List Operand) : Prop := ∀ x ∈ xs, t.ev x = s.ev x ∧ ∀ i, (s.ev x).ment i = true → t.obj i = s.obj i

theorem Agree.refl (s : St) (xs : List Operand) : Agree s s xs := fun _ _ => ⟨rfl, fun _ _ => rfl⟩

def OR.withSt (t : St) : OR → OR
  | .fail w => .fail w
  | .ok v _ => .ok v t
  | .okN p v _ => .okN p v t

def OR.av : OR → AV
  | .ok v _ => v
  | .okN _ v _ => v
  | .fail _ => .any

section
variable {E : Env} {s t : St}

theorem arith_st (k : IntKind) (r : Int) : arith k r t = (arith k r s).withSt t := by unfold arith; split <;> rfl
theorem binI_st (op : BinOp) (k k' : IntKind) (a b : Int) : binI op k a k' b t = (binI op k a k' b s).withSt t := by
  unfold binI
  split
  · rfl
  · rfl
  · split
    · split <;> first | rfl | exact arith_st _ _
    · rfl
theorem binS_st (op : BinOp) (a b : List UInt8) : binS op a b t = (binS op a b s).withSt t := by unfold binS; split <;> rfl
theorem binA_st (T : TypeId) (op : BinOp) (x y : AV) : binA E T op x y t = (binA E T op x y s).withSt t := by
  unfold binA
  split
  · exact binI_st ..
  · split <;> rfl
  · exact binS_st ..
  · rfl
theorem eqA_st (T : TypeId) (op : BinOp) (a : Ty) (x : a.den) (u : Ty) (y : u.den) : eqA E T op a x u y t = (eqA E T op a x u y s).withSt t := by
  unfold eqA
  split
  · split <;> rfl
  · rfl
theorem binE_st (T : TypeId) (op : BinOp) (x y : AV) : binE E T op x y t = (binE E T op x y s).withSt t := by
  unfold binE
  split
  · exact eqA_st ..
  · exact eqA_st ..
  · exact binA_st ..
theorem unA_st (op : UnOp) (x : AV) : unA op x t = (unA op x s).withSt t := by
  unfold unA
  repeat' (first | rfl | exact arith_st _ _ | split)

theorem buildL_st : ∀ {parts : List (Nat × Operand)} {r : Sigma Ty.den}, (∀ q ∈ parts, t.ev q.2 = s.ev q.2) → buildL t r parts = buildL s r parts
  | [], ⟨_, _⟩, _ => rfl
  | (i, v) :: parts, ⟨u, x⟩, h => by
    have ih := fun r => buildL_st (parts := parts) (r := r) (fun q hq => h q (by simp [hq]))
    simp only [buildL, h (i, v) (by simp), ih]

theorem evs_st : ∀ {xs : List Operand}, (∀ x ∈ xs, t.ev x = s.ev x) → t.evs xs = s.evs xs
  | [], _ => rfl
  | x :: xs, h => by simp only [St.evs, h x (by simp), evs_st (xs := xs) (fun y hy => h y (by simp [hy]))]

theorem evs_ment {i : Nat} : ∀ {xs : List Operand}, (s.evs xs).ment i = true → ∃ x ∈ xs, (s.ev x).ment i = true
  | [], h => by cases h
  | x :: xs, h => by
    simp only [St.evs, AV.ment, Bool.or_eq_true] at h
    rcases h with h | h
    · exact ⟨x, by simp, h⟩
    · obtain ⟨y, hy, h⟩ := evs_ment h; exact ⟨y, by simp [hy], h⟩

theorem app_ment {i : Nat} : ∀ {a b : AV}, (a.app b).ment i = true → a.ment i = true ∨ b.ment i = true := by
  intro a
  induction a with
  | cons x l _ ih =>
    intro b h
    simp only [AV.app, AV.ment, Bool.or_eq_true] at h ⊢
    rcases h with h | h
    · exact .inl (.inl h)
    · rcases ih h with h | h
      · exact .inl (.inr h)
      · exact .inr h
  | _ => intro b h; exact .inr h

theorem lend_st {u : Ty} {i : Nat} {p : List Step} (h : t.obj i = s.obj i) : t.lend u i p = s.lend u i p := by simp only [St.lend, h]
theorem asV_st {u : Ty} {v : AV} (h : ∀ i, v.ment i = true → t.obj i = s.obj i) : v.asV t u = v.asV s u := by
  cases v <;> first | rfl | exact lend_st (h _ (by simp [AV.ment]))
theorem asR_st {u : Ty} {v : AV} (h : ∀ i, v.ment i = true → t.obj i = s.obj i) : v.asR t u = v.asR s u := by
  cases v <;> first | rfl | exact lend_st (h _ (by simp [AV.ment]))
theorem asRL_st : ∀ {ts : List Ty} {v : AV}, (∀ i, v.ment i = true → t.obj i = s.obj i) → AV.asRL t ts v = AV.asRL s ts v
  | [], v, _ => by cases v <;> rfl
  | u :: ts, v, h => by
    cases v <;> try rfl
    rename_i a b
    simp only [AV.asRL, asR_st (v := a) (fun i hi => h i (by simp [AV.ment, hi])), asRL_st (v := b) (fun i hi => h i (by simp [AV.ment, hi]))]
theorem asK_st {k : PK} {v : AV} (h : ∀ i, v.ment i = true → t.obj i = s.obj i) : v.asK t k = v.asK s k := by
  cases k with
  | v u => exact asV_st h
  | rd u => exact asR_st h
  | clo f ts => cases v <;> first | rfl | (simp only [AV.asK]; rw [asRL_st (fun i hi => h i (by simpa [AV.ment] using hi))])
theorem asKs_st : ∀ {ks : List PK} {v : AV}, (∀ i, v.ment i = true → t.obj i = s.obj i) → AV.asKs t ks v = AV.asKs s ks v
  | [], v, _ => by cases v <;> rfl
  | k :: ks, v, h => by
    cases v <;> try rfl
    rename_i a b
    simp only [AV.asKs, asK_st (v := a) (fun i hi => h i (by simp [AV.ment, hi])), asKs_st (v := b) (fun i hi => h i (by simp [AV.ment, hi]))]

end
end Go.Ex
