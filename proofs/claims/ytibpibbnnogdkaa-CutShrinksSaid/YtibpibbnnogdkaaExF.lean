import Derived.Test.YtibpibbnnogdkaaExE
import Derived.Laws.Entries
namespace Go.Ex

/-! ### types against the table: what the check gives -/
theorem zc_sh : ∀ t : Ty, zc t.sh = zc t := by
  intro t
  induction t with
  | pair a b iha ihb => simp only [Ty.sh, zc, iha, ihb]
  | arr n t ih => simp only [Ty.sh, zc, ih]
  | _ => rfl

theorem agg_sh (t : Ty) : t.sh.agg = t.agg := by cases t <;> rfl

theorem zc_er {u t : Ty} (h : u.sh = t.sh) : zc u = zc t := by rw [← zc_sh u, h, zc_sh]
theorem agg_er {u t : Ty} (h : u.sh = t.sh) : u.agg = t.agg := by rw [← agg_sh u, h, agg_sh]
theorem toV_er {u t : Ty} (h : u.sh = t.sh) (cs : List Value) : toV u cs = toV t cs := by simp only [toV, agg_er h]

theorem al_sh : ∀ t : Ty, t.sh.al = t.al := by
  intro t
  induction t with
  | pair a b iha ihb => simp only [Ty.sh, Ty.al, iha, ihb]
  | arr n t ih => simp only [Ty.sh, Ty.al, ih]
  | _ => rfl

theorem wb_sh : ∀ t : Ty, t.sh.wb = t.wb ∧ ∀ o, t.sh.offs o = t.offs o := by
  intro t
  induction t with
  | pair a b iha ihb => refine ⟨?_, fun o => ?_⟩ <;> simp only [Ty.sh, Ty.wb, Ty.offs, iha.1, ihb.2, al_sh]
  | arr n t ih => refine ⟨?_, fun o => rfl⟩; simp only [Ty.sh, Ty.wb, ih.1]
  | slc o t ih => exact ⟨rfl, fun o => rfl⟩
  | _ => exact ⟨rfl, fun o => rfl⟩

theorem wb_er {u t : Ty} (h : u.sh = t.sh) : u.wb = t.wb := by rw [← (wb_sh u).1, h, (wb_sh t).1]

theorem zc_length : ∀ t : Ty, (zc t).length = t.size := by
  intro t
  induction t with
  | pair a b iha ihb => simp only [zc, Ty.size, List.length_append, iha, ihb]
  | arr n t ih => simp [zc, Ty.size, ih]
  | _ => rfl

section
variable {P : Program}

theorem tyOk_sh : ∀ {n : Nat} {T : TypeId} {t u : Ty}, u.sh = t.sh → tyOk P n T t = true → tyOk P n T u = true := by
  intro n
  induction n with
  | zero => intro T t u _ h; simp [tyOk] at h
  | succ n ih =>
    intro T t u hs h
    have hfs : ∀ (fs : List Field) (off : Nat) (t u : Ty), u.sh = t.sh → fieldsOk (tyOk P n) fs off t = true → fieldsOk (tyOk P n) fs off u = true := by
      intro fs
      induction fs with
      | nil =>
        intro off t u hs h
        cases t <;> simp [fieldsOk] at h
        cases u <;> simp only [Ty.sh] at hs <;> try cases hs
        rfl
      | cons f fs ihf =>
        intro off t u hs h
        cases t <;> simp [fieldsOk] at h
        rename_i a b
        cases u <;> simp only [Ty.sh] at hs <;> try cases hs
        rename_i a' b'
        simp only [Ty.pair.injEq] at hs
        have h2 := ih hs.1 h.1.1.2
        have h3 := ihf _ _ _ hs.2 h.2
        simp only [fieldsOk, size_er hs.1, Bool.and_eq_true]
        refine ⟨⟨⟨⟨?_, ?_⟩, h2⟩, ?_⟩, h3⟩ <;> simp [h.1]
    simp only [tyOk, Bool.and_eq_true] at h ⊢
    obtain ⟨h1, h2⟩ := h
    refine ⟨?_, ?_⟩
    · rw [size_er hs, wb_er hs, toV_er hs, zc_er hs]; exact h1
    · cases t with
      | pair a b =>
        cases u <;> simp only [Ty.sh] at hs <;> try cases hs
        rename_i a' b'
        have hs' : (Ty.pair a' b').sh = (Ty.pair a b).sh := hs
        cases hu : P.underlying T with
        | none => simp [hu] at h2
        | some d =>
          cases d <;> simp only [hu] at h2 ⊢ <;> first | exact (Bool.false_ne_true h2).elim | skip
          exact hfs _ _ _ _ hs' h2
      | unit =>
        cases u <;> simp only [Ty.sh] at hs <;> try cases hs
        exact h2
      | arr m t =>
        cases u <;> simp only [Ty.sh] at hs <;> try cases hs
        rename_i m' t'
        simp only [Ty.arr.injEq] at hs
        cases hu : P.underlying T with
        | none => simp [hu] at h2
        | some d =>
          cases d <;> simp only [hu] at h2 ⊢ <;> first | exact (Bool.false_ne_true h2).elim | skip
          · simp only [Bool.and_eq_true] at h2 ⊢
            rw [hs.1, size_er hs.2]
            exact ⟨h2.1, ih hs.2 h2.2⟩
          · exact hfs _ _ _ _ (by simp only [Ty.sh, hs]) h2
      | slc o t =>
        cases u <;> simp only [Ty.sh] at hs <;> try cases hs
        rename_i o' t'
        simp only [Ty.slc.injEq] at hs
        cases hu : P.underlying T with
        | none => simp [hu] at h2
        | some d =>
          cases d <;> simp only [hu] at h2 ⊢ <;> first | exact (Bool.false_ne_true h2).elim | skip
          · simp only [Bool.and_eq_true] at h2 ⊢
            rw [size_er hs.2]
            exact ⟨h2.1, ih hs.2 h2.2⟩
          · exact hfs _ _ _ _ (by simp only [Ty.sh, hs]) h2
      | _ =>
        cases u <;> simp only [Ty.sh] at hs <;> try cases hs
        exact h2

theorem eqS_eq : ∀ {a b : Value}, eqS a b = true → a = b := by
  intro a b h
  unfold eqS at h
  split at h
  · simp at h; rw [h.1, h.2]
  · simp at h; rw [h]
  · rename_i a b
    cases a; cases b
    simp at h
    rw [h.1, h.2]
  · rename_i a b c d
    simp only [Bool.and_eq_true] at h
    have h1 := Nat.eq_of_beq_eq_true h.1
    have h2 := Nat.eq_of_beq_eq_true h.2
    rw [h1, h2]
  · cases h

theorem eqL_eq : ∀ {a b : List Value}, eqL a b = true → a = b
  | [], [], _ => rfl
  | a :: l, b :: m, h => by
    simp only [eqL, Bool.and_eq_true] at h
    rw [eqS_eq h.1, eqL_eq h.2]
  | [], _ :: _, h => by simp [eqL] at h
  | _ :: _, [], h => by simp [eqL] at h

theorem eqV_eq {a b : Value} (h : eqV a b = true) : a = b := by
  unfold eqV at h
  split at h
  · rename_i a b
    have := eqL_eq h
    rw [show a = b from Array.toList_inj.1 this]
  · exact eqS_eq h

theorem tyOk_info {n : Nat} {T : TypeId} {t : Ty} (h : tyOk P n T t = true) : ∃ i, P.info? T = some i ∧ i.size = t.size ∧ i.zero = some (toV t (zc t)) := by
  cases n with
  | zero => simp [tyOk] at h
  | succ n =>
    simp only [tyOk, Bool.and_eq_true] at h
    obtain ⟨h1, _⟩ := h
    split at h1
    · rename_i i hi
      simp only [Bool.and_eq_true] at h1
      refine ⟨i, hi, Nat.eq_of_beq_eq_true h1.1.1, ?_⟩
      have h1 := h1.2
      split at h1
      · rename_i z hz; rw [hz, eqV_eq h1]
      · cases h1
    · cases h1

theorem tyOk_bytes {n : Nat} {T : TypeId} {t : Ty} (h : tyOk P n T t = true) {i : TypeInfo} (hi : P.info? T = some i) : i.bytes = t.wb := by
  cases n with
  | zero => simp [tyOk] at h
  | succ n =>
    simp only [tyOk, Bool.and_eq_true] at h
    have h1 := h.1
    rw [hi] at h1
    simp only [Bool.and_eq_true] at h1
    exact Nat.eq_of_beq_eq_true h1.1.2

theorem tyOk_agg {n : Nat} {T : TypeId} {t : Ty} (h : tyOk P n T t = true) : ∃ d, P.underlying T = some d ∧ t.agg = (match d with | .struct _ => true | .array _ _ => true | _ => false) := by
  cases n with
  | zero => simp [tyOk] at h
  | succ n =>
    simp only [tyOk, Bool.and_eq_true] at h
    obtain ⟨_, h2⟩ := h
    cases hu : P.underlying T with
    | none => simp [hu] at h2
    | some d =>
      refine ⟨d, rfl, ?_⟩
      cases d <;> simp only [hu] at h2
      case struct fs =>
        cases hf : fs.toList with
        | nil => rw [hf] at h2; cases t <;> simp [fieldsOk] at h2; rfl
        | cons f l => rw [hf] at h2; cases t <;> simp [fieldsOk] at h2; rfl
      all_goals cases t <;> first | rfl | (exact (Bool.false_ne_true h2).elim)

variable {w : World}
theorem run_sizeOf {n : Nat} {T : TypeId} {t : Ty} (h : tyOk P n T t = true) : (sizeOf T).run P w = .ok t.size w := by
  obtain ⟨i, h1, h2, _⟩ := tyOk_info h
  simp [sizeOf, typeInfo, program, Sem.run, h1, h2]

theorem run_zero {n : Nat} {T : TypeId} {t : Ty} (h : tyOk P n T t = true) : (zeroValue T).run P w = .ok (toV t (zc t)) w := by
  obtain ⟨i, h1, _, h3⟩ := tyOk_info h
  simp [zeroValue, typeInfo, program, Sem.run, h1, h3]

theorem run_under {T : TypeId} {d : TypeDesc} (h : P.underlying T = some d) : (underlying T).run P w = .ok d w := by
  simp [underlying, program, Sem.run, h]

theorem run_isAgg {n : Nat} {T : TypeId} {t : Ty} (h : tyOk P n T t = true) : (isAgg T).run P w = .ok t.agg w := by
  obtain ⟨d, h1, h2⟩ := tyOk_agg h
  rw [h2]
  simp only [isAgg, Sem.run_bind, run_under h1, Result.andThen]
  cases d <;> rfl

end

section
variable {H : Array Go.Obj} {S : Nat → Prop}
/-- the zero of a type -/
theorem Rep.dflt : ∀ t : Ty, Rep H S t [] (zc t) t.dflt := by
  intro t
  induction t with
  | int k => exact ⟨rfl, rfl, by unfold inK; cases k <;> decide⟩
  | bool => exact ⟨rfl, rfl⟩
  | str => exact ⟨rfl, rfl, Nat.zero_le _⟩
  | unit => exact ⟨rfl, rfl⟩
  | pair a b iha ihb =>
    refine ⟨[], [], rfl, ?_, ?_⟩
    · simp only [zc, ← zc_length a, List.take_left']; exact iha
    · simp only [zc, ← zc_length a, List.drop_left']; exact ihb
  | arr n t ih =>
    refine ⟨by simp [Ty.dflt], ?_⟩
    simp only [Ty.dflt, zc]
    induction n with
    | zero => exact ⟨rfl, rfl⟩
    | succ n ihn =>
      refine ⟨[], [], rfl, ?_, ?_⟩
      · rw [List.replicate_succ, List.flatten_cons, List.take_left' (zc_length t)]; exact ih
      · rw [List.replicate_succ, List.flatten_cons, List.drop_left' (zc_length t)]; exact ihn
  | slc o t _ => exact .inl ⟨rfl, ⟨none, 0, rfl, fun _ => rfl⟩, rfl⟩

theorem toV_cells {t : Ty} {cs : List Value} (h : cs.length = t.size) (hn : ∀ c ∈ cs, ∀ a, c ≠ .agg a) : (toV t cs).cells = cs.toArray := by
  unfold toV
  split
  · rfl
  · rename_i hg
    have : cs.length = 1 := by rw [h]; cases t <;> simp_all [Ty.agg, Ty.size]
    match cs, this with
    | [c], _ =>
      simp only [List.headD_cons]
      have := hn c (by simp)
      cases c <;> simp_all [Value.cells]

/-- the cells of a reading are no aggregates, and each is one cell's value -/
def Plain (v : Value) : Prop := v.oneCell' = true ∧ ∀ a, v ≠ .agg a

theorem RepL.plain {α : Type} {R : List Nat → List Value → α → Prop} {sz : Nat} (hR : ∀ O cs x, R O cs x → ∀ c ∈ cs, Plain c) : ∀ {l : List α} {O : List Nat} {cs : List Value}, RepL R sz O cs l → ∀ c ∈ cs, Plain c
  | [], _, _, ⟨_, h⟩ => by rw [h]; simp
  | _ :: _, _, cs, ⟨O1, O2, _, h1, h2⟩ => by
    intro c hc
    rw [← List.take_append_drop sz cs] at hc
    rcases List.mem_append.1 hc with h | h
    · exact hR _ _ _ h1 c h
    · exact RepL.plain hR h2 c h

theorem Rep.plain : ∀ {t : Ty} {O : List Nat} {cs : List Value} {x : t.den}, Rep H S t O cs x → ∀ c ∈ cs, Plain c := by
  intro t
  induction t with
  | int k => rintro O cs x ⟨_, rfl, _⟩ c hc; simp at hc; subst hc; exact ⟨rfl, by simp⟩
  | bool => rintro O cs x ⟨_, rfl⟩ c hc; simp at hc; subst hc; exact ⟨rfl, by simp⟩
  | str => rintro O cs x ⟨_, rfl, _⟩ c hc; simp at hc; subst hc; exact ⟨rfl, by simp⟩
  | unit => rintro O cs x ⟨_, rfl⟩ c hc; simp at hc
  | pair a b iha ihb =>
    rintro O cs x ⟨O1, O2, _, h1, h2⟩ c hc
    rw [← List.take_append_drop a.size cs] at hc
    rcases List.mem_append.1 hc with h | h
    · exact iha h1 c h
    · exact ihb h2 c h
  | arr n t ih => rintro O cs x ⟨_, h⟩; exact RepL.plain (fun _ _ _ h => ih h) h
  | slc o t _ =>
    rintro O cs x h c hc
    rcases h with ⟨_, ⟨_, _, rfl, _⟩, _⟩ | ⟨b, off, cap, O', rfl, _⟩ <;> (simp at hc; subst hc; exact ⟨rfl, by simp⟩)

theorem Rep.cells {t : Ty} {O : List Nat} {cs : List Value} {x : t.den} (h : Rep H S t O cs x) : (toV t cs).cells = cs.toArray :=
  toV_cells h.length fun c hc => (h.plain c hc).2

end
end Go.Ex
