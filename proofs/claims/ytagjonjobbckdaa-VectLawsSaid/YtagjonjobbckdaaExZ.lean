import Derived.Test.YtagjonjobbckdaaExY
namespace Go.Ex

section
variable {E : Env} {s t : St}

theorem loadA_st {T : TypeId} {a : AV} (h : ∀ i, a.ment i = true → t.obj i = s.obj i) : loadA E T a t = (loadA E T a s).withSt t := by
  unfold loadA
  cases a with
  | ptr i p =>
    simp only [h i (by simp [AV.ment])]
    repeat' (first | rfl | split)
  | _ => first | rfl | (dsimp only; split <;> rfl)

theorem loadA_ment {T : TypeId} {a : AV} {i : Nat} (h : (loadA E T a s).av.ment i = true) : a.ment i = true := by
  unfold loadA at h
  cases a with
  | ptr j p =>
    simp only at h
    repeat' (split at h)
    all_goals first | exact h | (cases h; done)
  | _ =>
    simp only at h
    repeat' (split at h)
    all_goals first | exact h | (cases h; done)

theorem nth_ment {i : Nat} : ∀ {n : Nat} {l v : AV}, aop.nth n l = some v → v.ment i = true → l.ment i = true
  | 0, l, v, h, hv => by
    cases l <;> simp only [aop.nth] at h <;> first | cases h | skip
    simp [AV.ment, hv]
  | n + 1, l, v, h, hv => by
    cases l <;> simp only [aop.nth] at h <;> first | cases h | skip
    simp [AV.ment, nth_ment h hv]

/-- what an operation does, and on what it hangs -/
def Hangs (E : Env) (o : Oper) (s : St) (xs : List Operand) (p : Prop) (v : AV) (s1 : St) : Prop :=
  ∃ new ids, s1 = s.adds new ∧ FreshL s new ids ∧ (∀ q ∈ new, q.1 ∈ ids) ∧ (∀ n ∈ ids, n % 1000 = (o.dst.getD 0) % 1000) ∧
    (∀ i, v.ment i = true → (∃ x ∈ xs, (s.ev x).ment i = true) ∨ i ∈ ids) ∧
    ∀ t, uniq t.fr → Agree s t xs → FreshL t new ids → (aop E o t).get = some (p, v, t.adds new)

theorem Hangs.ro {o : Oper} {xs : List Operand} {p : Prop} {v : AV} {s1 : St} (h : (aop E o s).get = some (p, v, s1)) (h1 : ∀ t, Agree s t xs → aop E o t = (aop E o s).withSt t) (h2 : ∀ i, (aop E o s).av.ment i = true → ∃ x ∈ xs, (s.ev x).ment i = true) : Hangs E o s xs p v s1 := by
  have hs := h1 s (.refl _ _)
  refine ⟨[], [], ?_, ⟨by simp, by simp⟩, by simp, by simp, ?_, ?_⟩
  · rw [hs] at h
    cases hr : aop E o s <;> rw [hr] at h <;> simp [OR.withSt, OR.get] at h <;> exact h.2.2.symm
  · intro i hi
    refine .inl (h2 i ?_)
    cases hr : aop E o s <;> rw [hr] at h <;> simp [OR.get] at h
    · rw [← h.2.1] at hi; exact hi
    · rw [← h.2.1] at hi; exact hi
  · intro t _ ha _
    rw [h1 t ha]
    cases hr : aop E o s <;> rw [hr] at h <;> simp only [OR.get, Option.some.injEq, Prod.mk.injEq] at h
    · cases h
    · obtain ⟨rfl, rfl, _⟩ := h; rfl
    · obtain ⟨rfl, rfl, _⟩ := h; rfl

theorem fresh_mk {d : Nat} (hu : uniq t.fr) (h1 : look d t.hp = none) (h2 : ∀ m v, look m t.fr = some v → v.ment d = false) : t.fresh d = true := by
  simp only [St.fresh, Bool.and_eq_true, Option.isNone_iff_eq_none]
  exact ⟨h1, noMent_mk hu h2⟩

theorem fresh_inv {d : Nat} (h : s.fresh d = true) : look d s.hp = none ∧ ∀ m v, look m s.fr = some v → v.ment d = false := by
  simp only [St.fresh, Bool.and_eq_true, Option.isNone_iff_eq_none] at h
  exact ⟨h.1, fun m v hv => look_noMent h.2 hv⟩

/-- a new object at the operation's own name -/
theorem Hangs.one {o : Oper} {xs : List Operand} {d : Nat} (hd : o.dst = some d) {e : Ent} {v : AV} (hv : ∀ i, v.ment i = true → i = d) (hf : s.fresh d = true) (h : ∀ t, Agree s t xs → t.fresh d = true → aop E o t = .ok v (t.putE d e)) : Hangs E o s xs True v (s.putE d e) := by
  obtain ⟨k1, k2⟩ := fresh_inv hf
  refine ⟨[(d, e)], [d], rfl, ⟨?_, ?_⟩, by simp, by simp [hd], fun i hi => .inr (by simp [hv i hi]), ?_⟩
  · intro q hq; simp only [List.mem_cons, List.not_mem_nil, or_false] at hq; subst hq; exact k1
  · intro n hn; simp only [List.mem_cons, List.not_mem_nil, or_false] at hn; subst hn; exact k2
  · intro t hu ha hfr
    rw [h t ha (fresh_mk hu (hfr.hp (d, e) (by simp)) (hfr.fr d (by simp)))]
    rfl

theorem rid_mod (d k : Nat) : rid d k % 1000 = d % 1000 := by unfold rid; omega

theorem layRes_loc : ∀ {ts : List Ty} {x : DL ts} {d j : Nat} {hp : List (Nat × Ent)} {l : AV} {hp' : List (Nat × Ent)}, layRes ts x d j hp = some (l, hp') →
    ∃ new, hp' = addsHp new hp ∧ (∀ q ∈ new, look q.1 hp = none ∧ ∃ k, j ≤ k ∧ k < j + ts.length ∧ q.1 = rid d k) ∧ (∀ i, l.ment i = true → ∃ q ∈ new, q.1 = i) ∧
      ∀ h2, (∀ q ∈ new, look q.1 h2 = none) → layRes ts x d j h2 = some (l, addsHp new h2)
  | [], x, d, j, hp, l, hp', h => by
    simp only [layRes, Option.some.injEq, Prod.mk.injEq] at h
    obtain ⟨rfl, rfl⟩ := h
    exact ⟨[], rfl, by simp, by simp [AV.ment], fun h2 _ => rfl⟩
  | u :: ts, x, d, j, hp, l, hp', h => by
    simp only [layRes] at h
    split at h
    · rename_i hs
      split at h
      · rename_i l' hp2 hl'
        cases h
        obtain ⟨new, rfl, k2, k3, k4⟩ := layRes_loc hl'
        refine ⟨new, rfl, fun q hq => ?_, fun i hi => k3 i (by simpa [AV.ment] using hi), fun h2 hh => ?_⟩
        · obtain ⟨m1, k, m2, m3, m4⟩ := k2 q hq
          exact ⟨m1, k, by omega, by simp only [List.length_cons]; omega, m4⟩
        · simp only [layRes, hs, k4 h2 hh]
      · cases h
    · rename_i hs
      split at h
      · cases h
      · rename_i hlk
        split at h
        · rename_i l' hp2 hl'
          cases h
          obtain ⟨new, rfl, k2, k3, k4⟩ := layRes_loc hl'
          refine ⟨(rid d j, .own u x.1) :: new, rfl, ?_, ?_, ?_⟩
          · intro q hq
            rcases List.mem_cons.1 hq with rfl | hq
            · exact ⟨hlk, j, Nat.le_refl _, by simp, rfl⟩
            · obtain ⟨m1, k, m2, m3, m4⟩ := k2 q hq
              rw [look_put] at m1
              split at m1
              · cases m1
              · exact ⟨m1, k, by omega, by simp only [List.length_cons]; omega, m4⟩
          · intro i hi
            simp only [AV.ment, Bool.or_eq_true] at hi
            rcases hi with hi | hi
            · exact ⟨(rid d j, .own u x.1), by simp, (Nat.eq_of_beq_eq_true hi).symm⟩
            · obtain ⟨q, hq, e⟩ := k3 i hi; exact ⟨q, by simp [hq], e⟩
          · intro h2 hh
            have e1 : look (rid d j) h2 = none := hh (rid d j, .own u x.1) (by simp)
            have e2 := k4 (put (rid d j) (.own u x.1) h2) (fun q hq => by
              obtain ⟨m1, k, m2, m3, m4⟩ := k2 q hq
              rw [look_put] at m1 ⊢
              split at m1
              · cases m1
              · rename_i hne
                rw [if_neg hne]; exact hh q (by simp [hq]))
            simp only [layRes, hs, e1, e2, addsHp]
        · cases h

theorem noMents_mk {d : Nat} : ∀ {n : Nat} {fr : List (Nat × AV)}, (∀ k, k < n → noMent (rid d k) fr = true) → noMents d n fr = true
  | 0, _, _ => rfl
  | n + 1, fr, h => by
    simp only [noMents, Bool.and_eq_true]
    exact ⟨h n (by omega), noMents_mk (fun k hk => h k (by omega))⟩

theorem one_ment {i : Nat} {l : AV} (h : l.one.ment i = true) : l.ment i = true := by
  unfold AV.one at h
  split at h
  · simp [AV.ment, h]
  · exact h

theorem callA_loc {f : FuncId} {args : AV} {dst : Option Nat} {p : Prop} {v : AV} {s1 : St} (h : (callA E f args dst s).get = some (p, v, s1)) :
    ∃ new ids, s1 = s.adds new ∧ FreshL s new ids ∧ (∀ q ∈ new, q.1 ∈ ids) ∧ (∀ n ∈ ids, n % 1000 = (dst.getD 0) % 1000) ∧ (∀ i, v.ment i = true → i ∈ ids) ∧
      ∀ t, uniq t.fr → (∀ i, args.ment i = true → t.obj i = s.obj i) → FreshL t new ids → (callA E f args dst t).get = some (p, v, t.adds new) := by
  unfold callA at h
  split at h
  · cases h
  · rename_i c hc
    split at h
    · cases h
    · rename_i x hx
      split at h
      · cases h
      · rename_i hl
        split at h
        · cases h
        · rename_i hm
          split at h
          · rename_i l hp hlay
            simp only [OR.get, Option.some.injEq, Prod.mk.injEq] at h
            obtain ⟨rfl, rfl, rfl⟩ := h
            obtain ⟨new, rfl, k2, k3, k4⟩ := layRes_loc hlay
            refine ⟨new, (List.range c.rs.length).map (rid (dst.getD 0)), rfl, ⟨fun q hq => (k2 q hq).1, ?_⟩, ?_, ?_, ?_, ?_⟩
            · intro n hn m w hw
              obtain ⟨k, hk, rfl⟩ := List.mem_map.1 hn
              exact look_noMent (noMents_all hm k (by simpa using hk)) hw
            · intro q hq
              obtain ⟨_, k, _, m3, m4⟩ := k2 q hq
              exact List.mem_map.2 ⟨k, by simp; omega, m4.symm⟩
            · intro n hn
              obtain ⟨k, _, rfl⟩ := List.mem_map.1 hn
              exact rid_mod _ _
            · intro i hi
              obtain ⟨q, hq, rfl⟩ := k3 i (one_ment hi)
              obtain ⟨_, k, _, m3, m4⟩ := k2 q hq
              exact List.mem_map.2 ⟨k, by simp; omega, m4.symm⟩
            · intro t hu ha hf
              have hm' : noMents (dst.getD 0) c.rs.length t.fr = true := noMents_mk (fun k hk => noMent_mk hu (hf.fr _ (List.mem_map.2 ⟨k, by simpa using hk, rfl⟩)))
              unfold callA
              simp only [hc, asKs_st (s := s) (t := t) ha, hx, hl, hm', k4 t.hp hf.hp]
              rfl
          · cases h

theorem ag1 {x : Operand} (h : Agree s t [x]) : t.ev x = s.ev x ∧ ∀ i, (s.ev x).ment i = true → t.obj i = s.obj i := h x (by simp)

theorem fieldAddr_loc {o : Oper} {T : TypeId} {x : Operand} {n : Nat} (ho : o.op = .fieldAddr T x n) {p : Prop} {v : AV} {s1 : St} (h : (aop E o s).get = some (p, v, s1)) : Hangs E o s [x] p v s1 := by
  refine .ro h (fun t ha => ?_) (fun i hi => ⟨x, by simp, ?_⟩)
  · obtain ⟨e1, e2⟩ := ag1 ha
    unfold aop
    rw [ho]
    simp only [e1]
    cases hx : s.ev x with
    | ptr i q =>
      rw [hx] at e2
      simp only [e2 i (by simp [AV.ment])]
      repeat' (first | rfl | split)
    | _ => first | rfl | (dsimp only; split <;> rfl)
  · unfold aop at hi
    rw [ho] at hi
    simp only at hi
    cases hx : s.ev x with
    | ptr j q =>
      rw [hx] at hi
      simp only at hi
      repeat' (split at hi)
      all_goals first | exact hi | (cases hi; done)
    | _ =>
      rw [hx] at hi
      simp only at hi
      repeat' (split at hi)
      all_goals first | exact hi | (cases hi; done)

theorem indexAddr_loc {o : Oper} {T : TypeId} {x y : Operand} (ho : o.op = .indexAddr T x y) {p : Prop} {v : AV} {s1 : St} (h : (aop E o s).get = some (p, v, s1)) : Hangs E o s [x, y] p v s1 := by
  have hy : ∃ k n, s.ev y = .val (.int k) n := by
    cases hy : s.ev y with
    | val u n =>
      cases u with
      | int k => exact ⟨k, n, rfl⟩
      | _ => exfalso; unfold aop at h; rw [ho] at h; simp only [hy] at h; cases hx : s.ev x <;> rw [hx] at h <;> (try (rename_i t0 z0; cases t0)) <;> first | (cases h; done) | (rename_i o0 _; cases o0 <;> cases h)
    | _ => exfalso; unfold aop at h; rw [ho] at h; simp only [hy] at h; cases hx : s.ev x <;> rw [hx] at h <;> (try (rename_i t0 z0; cases t0)) <;> first | (cases h; done) | (rename_i o0 _; cases o0 <;> cases h)
  obtain ⟨k, n, hy⟩ := hy
  refine .ro h (fun t ha => ?_) (fun i hi => ⟨x, by simp, ?_⟩)
  · obtain ⟨e1, e2⟩ := ha x (by simp)
    have e3 := (ha y (by simp)).1
    unfold aop
    rw [ho]
    simp only [e1, e3, hy]
    cases hx : s.ev x with
    | ptr i q =>
      rw [hx] at e2
      simp only [e2 i (by simp [AV.ment])]
      repeat' (first | rfl | split)
    | at_ i q =>
      rw [hx] at e2
      simp only [e2 i (by simp [AV.ment])]
      repeat' (first | rfl | split)
    | rptr u z => cases u <;> first | rfl | (dsimp only; split <;> rfl)
    | val u z => cases u <;> first | rfl | (dsimp only; split <;> rfl) | (rename_i o0 _; cases o0 <;> first | rfl | (dsimp only; split <;> rfl))
    | _ => rfl
  · unfold aop at hi
    rw [ho] at hi
    simp only [hy] at hi
    cases hx : s.ev x with
    | ptr j q =>
      rw [hx] at hi
      dsimp only at hi
      repeat' (split at hi)
      all_goals first | exact hi | (cases hi; done)
    | at_ j q =>
      rw [hx] at hi
      dsimp only at hi
      repeat' (split at hi)
      all_goals first | exact hi | (cases hi; done)
    | rptr u z =>
      rw [hx] at hi
      cases u <;> first | (cases hi; done) | (dsimp only at hi; split at hi <;> cases hi)
    | val u z =>
      rw [hx] at hi
      cases u <;> first | (cases hi; done) | (rename_i o0 _; cases o0 <;> first | (cases hi; done) | (dsimp only at hi; split at hi <;> cases hi))
    | _ =>
      rw [hx] at hi
      first | (cases hi; done) | (dsimp only at hi; cases hi)

end
end Go.Ex
