import Derived.Test.YtibpibbnnogdkaaExJ
namespace Go.Ex

section
variable {E : Env} {B : Base} {S : Nat → Prop} {ι : Ix} {s : St} {a : Act} {w : World} {hp : List (Nat × Ent)} {H H' : Array Go.Obj}

/-! ways that go on -/
theorem Nav_append : ∀ {t : Ty} {x : t.den} {p q : List Step} {b off : Nat} {u : Ty} {y : u.den}, getP t x p = some ⟨u, y⟩ → Nav H t (p ++ q) b off = (Nav H t p b off).bind fun r => Nav H u q r.1 r.2 := by
  intro t
  induction t with
  | pair a c iha ihc =>
    intro x p q b off u y h
    match p, h with
    | [], h => simp only [getP, Option.some.injEq] at h; cases h; rfl
    | .fld 0 :: p, h => exact iha h
    | .fld (n + 1) :: p, h => exact ihc h
    | .idx i :: p, h => simp [getP] at h
  | arr n t ih =>
    intro x p q b off u y h
    match p, h with
    | [], h => simp only [getP, Option.some.injEq] at h; cases h; rfl
    | .idx i :: p, h => exact ih h
    | .fld i :: p, h => simp [getP] at h
  | slc o t ih =>
    intro x p q b off u y h
    match p, h with
    | [], h =>
      have h : some (⟨.slc o t, x⟩ : Sigma Ty.den) = some ⟨u, y⟩ := by cases o <;> exact h
      cases h
      have : Nav H (.slc o t) [] b off = some (b, off) := by cases o <;> rfl
      rw [this]; rfl
    | .idx i :: p, h =>
      cases o with
      | false => simp [getP] at h
      | true =>
        simp only [List.cons_append, Nav]
        split
        · exact ih h
        · rfl
    | .fld i :: p, h => cases o <;> simp [getP] at h
  | _ =>
    intro x p q b off u y h
    match p, h with
    | [], h => simp only [getP, Option.some.injEq] at h; cases h; rfl
    | .idx i :: p, h => simp [getP] at h
    | .fld i :: p, h => simp [getP] at h

theorem ok_append : ∀ {t : Ty} {x : t.den} {p q : List Step} {u : Ty} {y : u.den}, getP t x p = some ⟨u, y⟩ → okP t x p → okP u y q → okP t x (p ++ q) := by
  intro t
  induction t with
  | pair a c iha ihc =>
    intro x p q u y h h1 h2
    match p, h, h1 with
    | [], h, _ => simp only [getP, Option.some.injEq] at h; cases h; exact h2
    | .fld 0 :: p, h, h1 => exact iha h h1 h2
    | .fld (n + 1) :: p, h, h1 => exact ihc h h1 h2
    | .idx i :: p, h, _ => simp [getP] at h
  | arr n t ih =>
    intro x p q u y h h1 h2
    match p, h, h1 with
    | [], h, _ => simp only [getP, Option.some.injEq] at h; cases h; exact h2
    | .idx i :: p, h, h1 => exact ⟨h1.1, ih h h1.2 h2⟩
    | .fld i :: p, h, _ => simp [getP] at h
  | slc o t ih =>
    intro x p q u y h h1 h2
    match p, h, h1 with
    | [], h, _ =>
      have h : some (⟨.slc o t, x⟩ : Sigma Ty.den) = some ⟨u, y⟩ := by cases o <;> exact h
      cases h; exact h2
    | .idx i :: p, h, h1 =>
      cases o with
      | false => simp [getP] at h
      | true => exact ⟨h1.1, ih h h1.2 h2⟩
    | .fld i :: p, h, _ => cases o <;> simp [getP] at h
  | _ =>
    intro x p q u y h h1 h2
    match p, h, h1 with
    | [], h, _ => simp only [getP, Option.some.injEq] at h; cases h; exact h2
    | .idx i :: p, h, _ => simp [getP] at h
    | .fld i :: p, h, _ => simp [getP] at h

theorem Place_append {i : Nat} {e : Ent} {p q : List Step} {u : Ty} {y : u.den} (hg : getP e.ty e.x p = some ⟨u, y⟩) {b off : Nat} (hl : Place H ι i e p = some (b, off)) {r : Nat × Nat} (hn : Nav (VH H ι i e) u q b off = some r) :
    Place H ι i e (p ++ q) = some r := by
  have he := Place_bag hl
  rw [Place_eq he] at hl ⊢
  rw [Nav_append hg, hl]; exact hn

theorem Loc_append {i : Nat} {e : Ent} {p q : List Step} {u : Ty} {y : u.den} (hg : getP e.ty e.x p = some ⟨u, y⟩) {b off : Nat} (hl : Loc H ι i e p = some (b, off)) {off' : Nat} (hn : ∀ G : Array Go.Obj, Nav G u q b off = some (b, off')) :
    Loc H ι i e (p ++ q) = some (b, off') := by
  obtain ⟨h1, h2⟩ := Loc_place hl
  exact Loc_of (Place_append hg h1 (hn _)) h2

/-! fields -/
def offF : Ty → Nat → Nat
  | .pair _ _, 0 => 0
  | .pair a b, n + 1 => a.size + offF b n
  | _, _ => 0

theorem Nav_fld : ∀ {t : Ty} {x : t.den} {n : Nat} {u : Ty} {z : u.den} {b off : Nat}, getP t x [.fld n] = some ⟨u, z⟩ → Nav H t [.fld n] b off = some (b, off + offF t n) := by
  intro t
  induction t with
  | pair a c _ ihc =>
    intro x n u z b off h
    match n, h with
    | 0, h => cases a <;> rfl
    | n + 1, h =>
      have := ihc (x := x.2) (b := b) (off := off + a.size) h
      simp only [Nav, offF] at this ⊢
      rw [this, Nat.add_assoc]
  | slc o t _ => intro x n u z b off h; cases o <;> simp [getP] at h
  | _ => intro x n u z b off h; simp [getP] at h

theorem ok_fld : ∀ {t : Ty} {x : t.den} {n : Nat} {u : Ty} {z : u.den}, getP t x [.fld n] = some ⟨u, z⟩ → okP t x [.fld n] := by
  intro t
  induction t with
  | pair a c _ ihc =>
    intro x n u z h
    match n, h with
    | 0, h => cases a <;> trivial
    | n + 1, h => exact ihc (x := x.2) h
  | slc o t _ => intro x n u z h; cases o <;> simp [getP] at h
  | _ => intro x n u z h; simp [getP] at h

/-- the field of the table that a field of the type is -/
theorem field_ok {P : Program} {k : Nat} : ∀ {t : Ty} {x : t.den} {n : Nat} {u : Ty} {z : u.den} {fs : List Field} {o : Nat}, fieldsOk (tyOk P k) fs o t = true → getP t x [.fld n] = some ⟨u, z⟩ →
    ∃ f, fs[n]? = some f ∧ f.offset = o + offF t n ∧ 1 ≤ u.size ∧ tyOk P k f.type u = true := by
  intro t
  induction t with
  | pair a c _ ihc =>
    intro x n u z fs o h hg
    cases fs with
    | nil => simp [fieldsOk] at h
    | cons f fs =>
      simp only [fieldsOk, Bool.and_eq_true] at h
      obtain ⟨⟨⟨⟨h1, h2⟩, h3⟩, _⟩, h4⟩ := h
      match n, hg with
      | 0, hg =>
        have hg : some (⟨a, x.1⟩ : Sigma Ty.den) = some ⟨u, z⟩ := by
          rw [← hg]; simp only [getP]
        cases hg
        exact ⟨f, rfl, Nat.eq_of_beq_eq_true h1, Nat.le_of_ble_eq_true h2, h3⟩
      | n + 1, hg =>
        obtain ⟨g, e1, e2, e3, e4⟩ := ihc (x := x.2) h4 hg
        exact ⟨g, by simpa using e1, by rw [e2]; simp only [offF]; omega, e3, e4⟩
  | slc o t _ => intro x n u z fs o' h hg; cases o <;> simp [getP] at hg
  | _ => intro x n u z fs o h hg; simp [getP] at hg

theorem tyOk_fields {P : Program} {k : Nat} {T : TypeId} {t : Ty} {x : t.den} {n : Nat} {u : Ty} {z : u.den} (h : tyOk P k T t = true) (hg : getP t x [.fld n] = some ⟨u, z⟩) :
    ∃ fs f k', P.underlying T = some (.struct fs) ∧ fs[n]? = some f ∧ f.offset = offF t n ∧ 1 ≤ u.size ∧ tyOk P k' f.type u = true := by
  cases k with
  | zero => simp [tyOk] at h
  | succ k =>
    obtain ⟨d, h1, h2⟩ := tyOk_agg h
    simp only [tyOk, Bool.and_eq_true, h1] at h
    obtain ⟨_, h⟩ := h
    cases t with
    | pair a c =>
      cases d <;> first | (exact (Bool.false_ne_true h).elim) | skip
      rename_i fs
      have h : fieldsOk (tyOk P k) fs.toList 0 (.pair a c) = true := h
      obtain ⟨f, e1, e2, e3, e4⟩ := field_ok h hg
      exact ⟨fs, f, k, h1, by simpa using e1, by simpa using e2, e3, e4⟩
    | slc o t => cases o <;> simp [getP] at hg
    | _ => simp [getP] at hg

theorem run_fieldAt {P : Program} {k : Nat} {T : TypeId} {t : Ty} {x : t.den} {n : Nat} {u : Ty} {z : u.den} (h : tyOk P k T t = true) (hg : getP t x [.fld n] = some ⟨u, z⟩) (b off : Nat) :
    (Instr.fieldAt T (.pointer (some ⟨b, off, none⟩)) n).run P w = .ok (.pointer (some ⟨b, off + offF t n, none⟩)) w := by
  obtain ⟨fs, f, k', h1, h2, h3, h4, h5⟩ := tyOk_fields h hg
  have : ¬ u.size = 0 := by omega
  simp [Instr.fieldAt, run_under h1, h2, Instr.sureAddr, fieldPlace, run_sizeOf h5, this, h3, Addr.add_none]

/-! elements -/
theorem tyOk_arr {P : Program} {k : Nat} {T : TypeId} {m : Nat} {t : Ty} (h : tyOk P k T (.arr m t) = true) : ∃ e k', P.underlying T = some (.array m e) ∧ 1 ≤ t.size ∧ tyOk P k' e t = true := by
  cases k with
  | zero => simp [tyOk] at h
  | succ k =>
    obtain ⟨d, h1, h2⟩ := tyOk_agg h
    simp only [tyOk, Bool.and_eq_true, h1] at h
    obtain ⟨_, h⟩ := h
    cases d <;> first | (exact (Bool.false_ne_true h).elim) | skip
    · simp only [Bool.and_eq_true] at h
      rw [Nat.eq_of_beq_eq_true h.1.1] at h1
      exact ⟨_, k, h1, Nat.le_of_ble_eq_true h.1.2, h.2⟩
    · rename_i fs
      have h : fieldsOk (tyOk P k) fs.toList 0 (.arr m t) = true := h
      cases hf : fs.toList <;> (rw [hf] at h; simp [fieldsOk] at h)

theorem tyOk_slc {P : Program} {k : Nat} {T : TypeId} {o : Bool} {t : Ty} (h : tyOk P k T (.slc o t) = true) : ∃ e k', P.underlying T = some (.slice e) ∧ 1 ≤ t.size ∧ tyOk P k' e t = true := by
  cases k with
  | zero => simp [tyOk] at h
  | succ k =>
    obtain ⟨d, h1, h2⟩ := tyOk_agg h
    simp only [tyOk, Bool.and_eq_true, h1] at h
    obtain ⟨_, h⟩ := h
    cases d <;> first | (exact (Bool.false_ne_true h).elim) | skip
    · simp only [Bool.and_eq_true] at h
      exact ⟨_, k, h1, Nat.le_of_ble_eq_true h.1, h.2⟩
    · rename_i fs
      have h : fieldsOk (tyOk P k) fs.toList 0 (.slc o t) = true := h
      cases hf : fs.toList <;> (rw [hf] at h; simp [fieldsOk] at h)

theorem tyOk_str {P : Program} {k : Nat} {T : TypeId} (h : tyOk P k T .str = true) : P.underlying T = some .string := by
  cases k with
  | zero => simp [tyOk] at h
  | succ k =>
    obtain ⟨d, h1, h2⟩ := tyOk_agg h
    simp only [tyOk, Bool.and_eq_true, h1] at h
    obtain ⟨_, h⟩ := h
    cases d <;> first | exact h1 | (exact (Bool.false_ne_true h).elim) | skip
    · rename_i fs
      have h : fieldsOk (tyOk P k) fs.toList 0 .str = true := h
      cases hf : fs.toList <;> (rw [hf] at h; simp [fieldsOk] at h)

theorem tyOk_int {P : Program} {k : Nat} {T : TypeId} {kd : IntKind} (h : tyOk P k T (.int kd) = true) : P.underlying T = some (.int kd) := by
  cases k with
  | zero => simp [tyOk] at h
  | succ k =>
    obtain ⟨d, h1, h2⟩ := tyOk_agg h
    simp only [tyOk, Bool.and_eq_true, h1] at h
    obtain ⟨_, h⟩ := h
    cases d <;> first | (exact (Bool.false_ne_true h).elim) | skip
    · rw [of_decide_eq_true h] at h1; exact h1
    · rename_i fs
      have h : fieldsOk (tyOk P k) fs.toList 0 (.int kd) = true := h
      cases hf : fs.toList <;> (rw [hf] at h; simp [fieldsOk] at h)

theorem run_indexAt_arr {P : Program} {k : Nat} {T : TypeId} {m : Nat} {t : Ty} (h : tyOk P k T (.arr m t) = true) (b off : Nat) {kd : IntKind} {n : Int} (hn : 0 ≤ n ∧ n < m) :
    (Instr.indexAt T (.pointer (some ⟨b, off, none⟩)) (.int kd n)).run P w = .ok (.pointer (some ⟨b, off + n.toNat * t.size, none⟩)) w := by
  obtain ⟨e, k', h1, h2, h3⟩ := tyOk_arr h
  simp [Instr.indexAt, asIntOf, run_under h1, Instr.sureAddr, hn, run_sizeOf h3, Addr.add_none]

theorem run_indexAt_slc {P : Program} {k : Nat} {T : TypeId} {o : Bool} {t : Ty} (h : tyOk P k T (.slc o t) = true) (b off len cap : Nat) {kd : IntKind} {n : Int} (hn : 0 ≤ n ∧ n < len) :
    (Instr.indexAt T (.slice (some ⟨b, off, none⟩) len cap) (.int kd n)).run P w = .ok (.pointer (some ⟨b, off + n.toNat * t.size, none⟩)) w := by
  obtain ⟨e, k', h1, h2, h3⟩ := tyOk_slc h
  simp [Instr.indexAt, asIntOf, run_under h1, hn, run_sizeOf h3, Addr.add_none]

end
end Go.Ex
