import Derived.Test.YtibpibbnnogdkaaExY
namespace Go.Ex

section
variable {E : Env} {s t : St}

theorem takes_ment {o : Oper} {i : Nat} (h : i ∈ takes E o s) : ∃ x ∈ o.op.operands.toList, (s.ev x).ment i = true := by
  have parts : ∀ {T : TypeId} {ps : Array (Nat × Operand)}, i ∈ (s.evs (ps.toList.map (·.2))).lent → ∃ x ∈ ps.toList.map (·.2), (s.ev x).ment i = true := by
    intro T ps h
    obtain ⟨x, hx, hm⟩ := evs_ment (lent_ment.1 h)
    exact ⟨x, by simpa using hx, hm⟩
  unfold takes at h
  cases ho : o.op with
  | store T a x =>
    rw [ho] at h
    simp only [List.mem_append, lent_ment] at h
    rcases h with h | h
    · exact ⟨a, by simp [Op.operands], h⟩
    · exact ⟨x, by simp [Op.operands], h⟩
  | box T x => rw [ho] at h; exact ⟨x, by simp [Op.operands], lent_ment.1 h⟩
  | build T ps => rw [ho] at h; simp only [Op.operands, Array.toList_map]; exact parts (T := T) h
  | buildSlice T n ps => rw [ho] at h; simp only [Op.operands, Array.toList_map]; exact parts (T := T) h
  | call c =>
    rw [ho] at h
    have hop : ∀ x ∈ c.args.toList, x ∈ (Op.call c).operands.toList := fun x hx => by simp only [Op.operands, Call.operands]; simp at hx ⊢; first | exact .inr hx | exact .inl hx
    simp only at h
    split at h
    · rename_i f hc
      split at h
      · rename_i g caps hg
        split at h
        · split at h
          · cases h
          · rcases app_ment (lent_ment.1 h) with h | h
            · obtain ⟨x, hx, hm⟩ := evs_ment h
              exact ⟨x, hop x hx, hm⟩
            · exact ⟨f, by simp [Op.operands, Call.operands, hc], by rw [hg]; exact h⟩
        · cases h
      · cases h
    · obtain ⟨x, hx, hm⟩ := evs_ment (lent_ment.1 h)
      exact ⟨x, hop x hx, hm⟩
    · cases h
  | _ => rw [ho] at h; cases h

theorem takes_st {o : Oper} (h : ∀ x ∈ o.op.operands.toList, t.ev x = s.ev x) : takes E o t = takes E o s := by
  unfold takes
  cases ho : o.op with
  | store T a x => rw [ho] at h; simp only [h a (by simp [Op.operands]), h x (by simp [Op.operands])]
  | box T x => rw [ho] at h; simp only [h x (by simp [Op.operands])]
  | build T ps =>
    rw [ho] at h
    simp only
    rw [evs_st (s := s) (t := t) (fun x hx => h x (by simp only [Op.operands]; simpa using hx))]
  | buildSlice T n ps =>
    rw [ho] at h
    simp only
    rw [evs_st (s := s) (t := t) (fun x hx => h x (by simp only [Op.operands]; simpa using hx))]
  | call c =>
    rw [ho] at h
    have hop : ∀ x ∈ c.args.toList, x ∈ (Op.call c).operands.toList := fun x hx => by simp only [Op.operands, Call.operands]; simp at hx ⊢; first | exact .inr hx | exact .inl hx
    have he := evs_st (s := s) (t := t) (fun x hx => h x (hop x hx))
    simp only [he]
    split
    · rename_i f hc
      rw [h f (by simp [Op.operands, Call.operands, hc])]
    · rfl
    · rfl
  | _ => rfl

/-- what an operation does, and on what it hangs -/
def Hangs (E : Env) (o : Oper) (s : St) (p : Prop) (v : AV) : Prop :=
  ∃ ids f h, Trim (takes E o s) f ∧ NewIds s ids ∧ (∀ n ∈ ids, n % 1000 = (o.dst.getD 0) % 1000) ∧
    (∀ i, v.ment i = true → (∃ x ∈ o.op.operands.toList, (s.ev x).ment i = true) ∨ i ∈ ids) ∧
    ∀ t, uniq t.fr → Agree s t o.op.operands.toList → NewIds t ids → ∃ t1, (aop E o t).get = some (p, v, t1) ∧ uniq t1.fr ∧ Moved t t1 (takes E o s) ids f h

theorem takes_obj {o : Oper} (ha : Agree s t o.op.operands.toList) {i : Nat} (hi : i ∈ takes E o s) : look i t.hp = look i s.hp := by
  obtain ⟨x, hx, hm⟩ := takes_ment hi
  exact (ha x hx).2 i hm

theorem Hangs.ro {o : Oper} {p : Prop} {v : AV} {s1 : St} (h : (aop E o s).get = some (p, v, s1)) (h1 : ∀ t, Agree s t o.op.operands.toList → aop E o t = (aop E o s).withSt t) (h2 : ∀ i, (aop E o s).av.ment i = true → ∃ x ∈ o.op.operands.toList, (s.ev x).ment i = true) : Hangs E o s p v := by
  refine ⟨[], fun u => u, fun i => look i s.hp, Trim.id _, by simp [NewIds], by simp, ?_, ?_⟩
  · intro i hi
    refine .inl (h2 i ?_)
    cases hr : aop E o s <;> rw [hr] at h <;> simp [OR.get] at h
    · rw [← h.2.1] at hi; exact hi
    · rw [← h.2.1] at hi; exact hi
  · intro t hu ha _
    refine ⟨t, ?_, hu, ⟨fun n => by simp, fun i => ?_⟩⟩
    · rw [h1 t ha]
      cases hr : aop E o s <;> rw [hr] at h <;> simp only [OR.get, Option.some.injEq, Prod.mk.injEq] at h
      · cases h
      · obtain ⟨rfl, rfl, _⟩ := h; rfl
      · obtain ⟨rfl, rfl, _⟩ := h; rfl
    · split
      · rename_i hi; exact takes_obj ha (by simpa using hi)
      · rfl

theorem fresh_mk {d : Nat} (hu : uniq t.fr) (h : NewIds t [d]) : t.fresh d = true := by
  simp only [St.fresh, Bool.and_eq_true, Option.isNone_iff_eq_none]
  exact ⟨(h d (by simp)).1, noMent_mk hu (h d (by simp)).2⟩

theorem fresh_new {d : Nat} (h : s.fresh d = true) : NewIds s [d] := by
  obtain ⟨k1, k2⟩ := fresh_inv h
  intro n hn
  simp only [List.mem_cons, List.not_mem_nil, or_false] at hn
  subst hn
  exact ⟨k1, k2⟩

theorem moved_obj {T g : List Nat} {d : Nat} {e : Ent} (hg : ∀ i ∈ g, i ∈ T) (ha : ∀ i ∈ T, look i t.hp = look i s.hp) : Moved t ((St.drops g t).putE d e) T [d] (dropsF g) (fun i => if i = d then some e else if i ∈ g then none else look i s.hp) := by
  refine ⟨fun n => look_drops, fun i => ?_⟩
  show look i (Ex.put d e (St.drops g t).hp) = _
  rw [look_put, drops_look]
  by_cases h1 : i = d
  · simp [h1]
  · by_cases h3 : i ∈ g
    · have := hg i h3; simp [h1, h3, this]
    · by_cases h2 : i ∈ T
      · simp [h1, h3, h2, ha i h2]
      · simp [h1, h2, h3]

/-- a new object at the operation's own name -/
theorem Hangs.obj {o : Oper} {p : Prop} {d : Nat} (hd : o.dst = some d) {e : Ent} {v : AV} {g : List Nat} (hv : ∀ i, v.ment i = true → i = d) (hf : s.fresh d = true) (hg : ∀ i ∈ g, i ∈ takes E o s)
    (h : ∀ t, Agree s t o.op.operands.toList → uniq t.fr → t.fresh d = true → (aop E o t).get = some (p, v, (St.drops g t).putE d e)) : Hangs E o s p v := by
  refine ⟨[d], dropsF g, (fun i => if i = d then some e else if i ∈ g then none else look i s.hp), (Trim.drops g).mono hg, fresh_new hf, by simp [hd], fun i hi => .inr (by simp [hv i hi]), ?_⟩
  intro t hu ha hn
  exact ⟨_, h t ha hu (fresh_mk hu hn), uniq_drops (g := g) hu, moved_obj hg (fun i hi => takes_obj ha hi)⟩

theorem lay_get {d : Nat} {g : List Nat} {u : Ty} {x : u.den} {v : AV} {s' : St} (hl : s.lay d g u x = .ok v s') : s.fresh d = true ∧ v = .at_ d [] ∧ s' = (St.drops g s).putE d (.own u x) ∧ (noDup g && (g.all fun i => !pinned i)) = true := by
  unfold St.lay at hl
  split at hl
  · cases hl
  · rename_i hc
    simp only [Bool.and_eq_true] at hc
    split at hl
    · cases hl; exact ⟨hc.2, rfl, rfl, by simp only [Bool.and_eq_true]; exact hc.1⟩
    · cases hl

theorem lay_st {d : Nat} {g : List Nat} {u : Ty} {x : u.den} (hf : t.fresh d = true) (hg : (noDup g && (g.all fun i => !pinned i)) = true) : t.lay d g u x = .ok (.at_ d []) ((St.drops g t).putE d (.own u x)) := by
  unfold St.lay
  have h2 : (St.drops g t).fresh d = true := by
    simp only [St.fresh, Bool.and_eq_true, Option.isNone_iff_eq_none] at hf ⊢
    refine ⟨by rw [drops_look]; split <;> first | rfl | exact hf.1, drops_noMent hf.2⟩
  simp only [hg, hf, h2, Bool.and_self]

theorem Hangs.lay {o : Oper} {p : Prop} {v : AV} {s1 : St} {d : Nat} (hd : o.dst = some d) {g : List Nat} {u : Ty} {x : u.den} {W : OR → OR} (hW : ∀ v s, (W (.ok v s)).get = some (p, v, s)) (hF : ∀ y, (W (.fail y)).get = none) (hg : ∀ i ∈ g, i ∈ takes E o s)
    (h : (aop E o s).get = some (p, v, s1)) (h1 : ∀ t, Agree s t o.op.operands.toList → aop E o t = W (t.lay d g u x)) : Hangs E o s p v := by
  rw [h1 s (.refl _ _)] at h
  cases hl : s.lay d g u x with
  | fail y => rw [hl, hF] at h; cases h
  | okN q v s' => exact absurd hl lay_okN
  | ok v' s' =>
    rw [hl, hW] at h
    cases h
    obtain ⟨k1, rfl, rfl, k4⟩ := lay_get hl
    refine Hangs.obj hd (e := .own u x) (g := g) (fun i hi => by simpa [AV.ment] using hi) k1 hg (fun t ha hu hf => ?_)
    rw [h1 t ha, lay_st hf k4, hW]

theorem need_W {q p : Prop} {r : OR} {v : AV} {s1 : St} (h : (r.need q).get = some (p, v, s1)) (hr : ∀ q' v' s', r ≠ .okN q' v' s') : p = q := by
  cases r with
  | fail y => cases h
  | ok v s => simp only [OR.need, OR.get, Option.some.injEq, Prod.mk.injEq] at h; exact h.1.symm
  | okN q' v' s' => exact absurd rfl (hr q' v' s')


theorem loadA_st {T : TypeId} {a : AV} (h : Alike s t a) : loadA E T a t = (loadA E T a s).withSt t := by
  unfold loadA
  cases a with
  | ptr i p =>
    simp only [part_st (h i (by simp [AV.ment]))]
    repeat' (first | rfl | split)
  | _ => first | rfl | (dsimp only; split <;> rfl)

theorem loadA_ment {T : TypeId} {a : AV} {i : Nat} (h : (loadA E T a s).av.ment i = true) : a.ment i = true := by
  unfold loadA at h
  cases a with
  | ptr j p =>
    simp only at h
    repeat' (split at h)
    all_goals first | exact h | (cases h; done)
  | _ =>
    simp only at h
    repeat' (split at h)
    all_goals first | exact h | (cases h; done)

theorem nth_ment {i : Nat} : ∀ {n : Nat} {l v : AV}, aop.nth n l = some v → v.ment i = true → l.ment i = true
  | 0, l, v, h, hv => by
    cases l <;> simp only [aop.nth] at h <;> first | cases h | skip
    simp [AV.ment, hv]
  | n + 1, l, v, h, hv => by
    cases l <;> simp only [aop.nth] at h <;> first | cases h | skip
    simp [AV.ment, nth_ment h hv]

theorem rid_mod (d k : Nat) : rid d k % 1000 = d % 1000 := by unfold rid; omega
theorem rid_inj {d j k : Nat} (h : rid d j = rid d k) : j = k := by unfold rid at h; omega

theorem layRes_loc : ∀ {ts : List Ty} {x : DL ts} {d j : Nat} {hp : List (Nat × Ent)} {l : AV} {hp' : List (Nat × Ent)}, layRes ts x d j hp = some (l, hp') →
    (∀ i, l.ment i = true → ∃ k, j ≤ k ∧ k < j + ts.length ∧ i = rid d k) ∧
    ∃ h : Nat → Option Ent, ∀ h2, (∀ k, j ≤ k → k < j + ts.length → look (rid d k) h2 = none) → ∃ h2', layRes ts x d j h2 = some (l, h2') ∧ ∀ i, look i h2' = (match h i with | some e => some e | none => look i h2) ∧ ((h i).isSome → ∃ k, j ≤ k ∧ k < j + ts.length ∧ i = rid d k)
  | [], x, d, j, hp, l, hp', h => by
    simp only [layRes, Option.some.injEq, Prod.mk.injEq] at h
    obtain ⟨rfl, rfl⟩ := h
    exact ⟨by simp [AV.ment], fun _ => none, fun h2 _ => ⟨h2, rfl, fun i => ⟨rfl, by simp⟩⟩⟩
  | u :: ts, x, d, j, hp, l, hp', h => by
    simp only [layRes] at h
    split at h
    · rename_i hs
      split at h
      · rename_i l' hp2 hl'
        cases h
        obtain ⟨k1, h, k2⟩ := layRes_loc hl'
        refine ⟨fun i hi => ?_, h, fun h2 hh => ?_⟩
        · obtain ⟨k, m1, m2, m3⟩ := k1 i (by simpa [AV.ment] using hi)
          exact ⟨k, by omega, by simp only [List.length_cons]; omega, m3⟩
        · obtain ⟨h2', e1, e2⟩ := k2 h2 (fun k hk1 hk2 => hh k (by omega) (by simp only [List.length_cons]; omega))
          refine ⟨h2', by simp only [layRes, hs, e1], fun i => ⟨(e2 i).1, fun hi => ?_⟩⟩
          obtain ⟨k, m1, m2, m3⟩ := (e2 i).2 hi
          exact ⟨k, by omega, by simp only [List.length_cons]; omega, m3⟩
      · cases h
    · rename_i hs
      split at h
      · cases h
      · rename_i hlk
        split at h
        · rename_i l' hp2 hl'
          cases h
          obtain ⟨k1, h, k2⟩ := layRes_loc hl'
          refine ⟨fun i hi => ?_, fun i => if i = rid d j then some (.own u x.1) else h i, fun h2 hh => ?_⟩
          · simp only [AV.ment, Bool.or_eq_true] at hi
            rcases hi with hi | hi
            · exact ⟨j, Nat.le_refl _, by simp, Nat.eq_of_beq_eq_true hi⟩
            · obtain ⟨k, m1, m2, m3⟩ := k1 i hi
              exact ⟨k, by omega, by simp only [List.length_cons]; omega, m3⟩
          · have e0 : look (rid d j) h2 = none := hh j (Nat.le_refl _) (by simp)
            obtain ⟨h2', e1, e2⟩ := k2 (put (rid d j) (.own u x.1) h2) (fun k hk1 hk2 => by
              rw [look_put, if_neg (fun e => by have := rid_inj e; omega)]
              exact hh k (by omega) (by simp only [List.length_cons]; omega))
            refine ⟨h2', by simp only [layRes, hs, e0, e1], fun i => ⟨?_, fun hi => ?_⟩⟩
            · rw [(e2 i).1, look_put]
              by_cases he : i = rid d j
              · simp only [he, if_true]
                cases hh2 : h (rid d j) with
                | none => rfl
                | some e =>
                  exfalso
                  obtain ⟨k, m1, m2, m3⟩ := (e2 (rid d j)).2 (by rw [hh2]; rfl)
                  have := rid_inj m3; omega
              · simp only [if_neg he]
            · by_cases he : i = rid d j
              · exact ⟨j, Nat.le_refl _, by simp, he⟩
              · simp only [if_neg he] at hi
                obtain ⟨k, m1, m2, m3⟩ := (e2 i).2 hi
                exact ⟨k, by omega, by simp only [List.length_cons]; omega, m3⟩
        · cases h

theorem noMents_mk {d : Nat} : ∀ {n : Nat} {fr : List (Nat × AV)}, (∀ k, k < n → noMent (rid d k) fr = true) → noMents d n fr = true
  | 0, _, _ => rfl
  | n + 1, fr, h => by
    simp only [noMents, Bool.and_eq_true]
    exact ⟨h n (by omega), noMents_mk (fun k hk => h k (by omega))⟩

theorem nonesR_iff {d : Nat} : ∀ {n : Nat} {hp : List (Nat × Ent)}, nonesR d n hp = true ↔ ∀ k, k < n → look (rid d k) hp = none
  | 0, _ => by simp [nonesR]
  | n + 1, hp => by
    simp only [nonesR, Bool.and_eq_true, Option.isNone_iff_eq_none, nonesR_iff (n := n)]
    constructor
    · rintro ⟨h1, h2⟩ k hk
      by_cases e : k = n
      · subst e; exact h1
      · exact h2 k (by omega)
    · intro h; exact ⟨h n (by omega), fun k hk => h k (by omega)⟩

theorem one_ment {i : Nat} {l : AV} (h : l.one.ment i = true) : l.ment i = true := by
  unfold AV.one at h
  split at h
  · simp [AV.ment, h]
  · exact h

theorem wr_loc : ∀ {ks : List PK} {y : DL (wts ks)} {m : List Nat} {s1 : St}, wr ks y m s = some s1 →
    (m = [] ∧ ∀ t, wr ks y m t = some t) ∨ ∃ i ow e, m = [i] ∧ ∀ t, wr ks y m t = some ((t.killR i ow).putE i e)
  | [], y, m, s1, h => by
    cases m with
    | nil => exact .inl ⟨rfl, fun t => rfl⟩
    | cons i m => cases h
  | k :: ks, y, m, s1, h => by
    cases k with
    | rw u =>
      match m, h with
      | [], h => cases h
      | [i], h =>
        simp only [wr] at h
        split at h
        · rename_i hw
          exact .inr ⟨i, false, .var u y.1, rfl, fun t => by simp only [wr, hw]⟩
        · cases h
      | i :: j :: m, h => cases h
    | mu u =>
      match m, h with
      | [], h => cases h
      | [i], h =>
        simp only [wr] at h
        split at h
        · rename_i hw
          exact .inr ⟨i, true, .own (.slc true u) y.1, rfl, fun t => by simp only [wr, hw]⟩
        · cases h
      | i :: j :: m, h => cases h
    | v u => cases m <;> exact wr_loc (ks := ks) h
    | rd u => cases m <;> exact wr_loc (ks := ks) h
    | clo f ts => cases m <;> exact wr_loc (ks := ks) h
    | own u => cases m <;> exact wr_loc (ks := ks) h

end
end Go.Ex
