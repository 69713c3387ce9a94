import Derived.Test.YtagjonjobbckdaaExZ
namespace Go.Ex

section
variable {E : Env} {s t : St}

theorem index_loc {o : Oper} {T : TypeId} {x y : Operand} (ho : o.op = .index T x y) {p : Prop} {v : AV} {s1 : St} (h : (aop E o s).get = some (p, v, s1)) : Hangs E o s [x, y] p v s1 := by
  refine .ro h (fun t ha => ?_) (fun i hi => ?_)
  · have e1 := (ha x (by simp)).1
    have e3 := (ha y (by simp)).1
    unfold aop
    rw [ho]
    simp only [e1, e3]
    split
    · split <;> rfl
    · split <;> rfl
    · rfl
  · exfalso
    unfold aop at hi
    rw [ho] at hi
    simp only at hi
    repeat' (split at hi)
    all_goals (cases hi)

theorem len_loc {o : Oper} {c : Call} (ho : o.op = .call c) (hc : c.callee = .builtin .len) {xs : List Operand} (hxs : ∀ x ∈ c.args.toList, x ∈ xs) {p : Prop} {v : AV} {s1 : St} (h : (aop E o s).get = some (p, v, s1)) : Hangs E o s xs p v s1 := by
  obtain ⟨x, T, ha, hT⟩ : ∃ x T, c.args.toList = [x] ∧ c.argTypes.toList = [T] := by
    unfold aop at h
    rw [ho] at h
    simp only [hc] at h
    split at h
    · exact ⟨_, _, by assumption, by assumption⟩
    · cases h
  have hx0 : x ∈ xs := hxs x (by rw [ha]; simp)
  refine .ro h (fun t hag => ?_) (fun i hi => ?_)
  · obtain ⟨e1, e2⟩ := hag x hx0
    unfold aop
    rw [ho]
    simp only [hc, ha, hT, e1]
    cases hx : s.ev x with
    | at_ i q =>
      rw [hx] at e2
      simp only [e2 i (by simp [AV.ment])]
      repeat' (first | rfl | split)
    | val u z => cases u <;> first | rfl | (dsimp only; split <;> first | rfl | (split <;> rfl))
    | _ => rfl
  · exfalso
    unfold aop at hi
    rw [ho] at hi
    simp only [hc, ha, hT] at hi
    repeat' (split at hi)
    all_goals (cases hi)

theorem maxmin_loc {o : Oper} {c : Call} (ho : o.op = .call c) (hc : c.callee = .builtin .max ∨ c.callee = .builtin .min) {xs : List Operand} (hxs : ∀ x ∈ c.args.toList, x ∈ xs) {p : Prop} {v : AV} {s1 : St} (h : (aop E o s).get = some (p, v, s1)) : Hangs E o s xs p v s1 := by
  refine .ro h (fun t hag => ?_) (fun i hi => ?_)
  · unfold aop
    rw [ho]
    rcases hc with hc | hc <;>
    · simp only [hc]
      split
      · rename_i x y ha
        rw [(hag x (hxs x (by rw [ha]; simp))).1, (hag y (hxs y (by rw [ha]; simp))).1]
        split
        · split <;> rfl
        · rfl
      · rfl
  · exfalso
    unfold aop at hi
    rw [ho] at hi
    rcases hc with hc | hc <;> simp only [hc] at hi <;> (repeat' (split at hi)) <;> cases hi

theorem call_loc {o : Oper} {c : Call} (ho : o.op = .call c) {f : Operand} (hc : c.callee = .value f) {xs : List Operand} (hf : f ∈ xs) (hxs : ∀ x ∈ c.args.toList, x ∈ xs) {p : Prop} {v : AV} {s1 : St} (h : (aop E o s).get = some (p, v, s1)) : Hangs E o s xs p v s1 := by
  obtain ⟨g, caps, hg⟩ : ∃ g caps, s.ev f = .clo g caps := by
    unfold aop at h
    rw [ho] at h
    simp only [hc] at h
    split at h
    · exact ⟨_, _, by assumption⟩
    · cases h
  have he : ∀ t, t.ev f = .clo g caps → aop E o t = callA E g ((t.evs c.args.toList).app caps) o.dst t := by
    intro t ht
    unfold aop
    rw [ho]
    simp only [hc, ht]
  rw [he s hg] at h
  obtain ⟨new, ids, k1, k2, k3, k4, k5, k6⟩ := callA_loc h
  refine ⟨new, ids, k1, k2, k3, k4, fun i hi => .inr (k5 i hi), fun t hu ha hfr => ?_⟩
  obtain ⟨e1, e2⟩ := ha f hf
  rw [he t (e1.trans hg), evs_st (s := s) (t := t) (fun x hx => (ha x (hxs x hx)).1)]
  refine k6 t hu (fun i hi => ?_) hfr
  rcases app_ment hi with hi | hi
  · obtain ⟨x, hx, hi⟩ := evs_ment hi
    exact (ha x (hxs x hx)).2 i hi
  · exact e2 i (by rw [hg]; exact hi)

theorem aop_loc {o : Oper} (hw : writes o = false) (hpick : ∀ a b c, o.op ≠ .pick a b c) {p : Prop} {v : AV} {s1 : St} (h : (aop E o s).get = some (p, v, s1)) : Hangs E o s o.op.operands.toList p v s1 := by
  cases ho : o.op with
  | move x =>
    refine .ro h (fun t ha => ?_) (fun i hi => ⟨x, by simp [Op.operands], ?_⟩)
    · unfold aop; rw [ho]; simp only [(ha x (by simp [Op.operands])).1]; rfl
    · unfold aop at hi; rw [ho] at hi; exact hi
  | assign x =>
    refine .ro h (fun t ha => ?_) (fun i hi => ⟨x, by simp [Op.operands], ?_⟩)
    · unfold aop; rw [ho]; simp only [(ha x (by simp [Op.operands])).1]; rfl
    · unfold aop at hi; rw [ho] at hi; exact hi
  | load T x =>
    have hl : ∀ t, aop E o t = loadA E T (t.ev x) t := fun t => by unfold aop; rw [ho]
    refine .ro h (fun t ha => ?_) (fun i hi => ⟨x, by simp [Op.operands], ?_⟩)
    · obtain ⟨e1, e2⟩ := ha x (by simp [Op.operands])
      rw [hl, hl, e1]; exact loadA_st e2
    · rw [hl] at hi; exact loadA_ment hi
  | nilCheck x =>
    refine .ro h (fun t ha => ?_) (fun i hi => ⟨x, by simp [Op.operands], ?_⟩)
    · unfold aop; rw [ho]; simp only [(ha x (by simp [Op.operands])).1]; split <;> rfl
    · unfold aop at hi; rw [ho] at hi
      simp only at hi
      split at hi <;> first | (cases hi; done) | (rename_i e; rw [e]; exact hi)
  | binOp op T x y T' =>
    have hl : ∀ t, aop E o t = binE E T op (t.ev x) (t.ev y) t := fun t => by unfold aop; rw [ho]
    refine .ro h (fun t ha => ?_) (fun i hi => ?_)
    · rw [hl, hl, (ha x (by simp [Op.operands])).1, (ha y (by simp [Op.operands])).1]; exact binE_st ..
    · exfalso
      rw [hl] at hi
      unfold binE binA eqA binI binS arith at hi
      repeat' (split at hi)
      all_goals (cases hi)
  | unOp op T x =>
    have hl : ∀ t, aop E o t = unA op (t.ev x) t := fun t => by unfold aop; rw [ho]
    refine .ro h (fun t ha => ?_) (fun i hi => ?_)
    · rw [hl, hl, (ha x (by simp [Op.operands])).1]; exact unA_st ..
    · exfalso
      rw [hl] at hi
      unfold unA arith at hi
      repeat' (split at hi)
      all_goals (cases hi)
  | convert T' T x =>
    refine .ro h (fun t ha => ?_) (fun i hi => ?_)
    · unfold aop; rw [ho]; simp only [(ha x (by simp [Op.operands])).1]; split <;> rfl
    · exfalso
      unfold aop at hi; rw [ho] at hi
      simp only at hi
      split at hi <;> cases hi
  | fieldAddr T x n => exact fieldAddr_loc ho h
  | indexAddr T x y => exact indexAddr_loc ho h
  | index T x y => exact index_loc ho h
  | field T x n =>
    refine .ro h (fun t ha => ?_) (fun i hi => ?_)
    · unfold aop; rw [ho]; simp only [(ha x (by simp [Op.operands])).1]
      split
      · split <;> rfl
      · rfl
    · exfalso
      unfold aop at hi; rw [ho] at hi
      simp only at hi
      repeat' (split at hi)
      all_goals (cases hi)
  | build T parts =>
    have hps : ∀ t, Agree s t (Op.build T parts).operands.toList → ∀ q ∈ parts.toList, t.ev q.2 = s.ev q.2 := fun t ha q hq => (ha q.2 (by simp only [Op.operands]; simpa using ⟨q.1, by simpa using hq⟩)).1
    refine .ro h (fun t ha => ?_) (fun i hi => ?_)
    · unfold aop; rw [ho]
      simp only [buildL_st (s := s) (t := t) (hps t ha)]
      split
      · split
        · split <;> rfl
        · rfl
      · rfl
    · exfalso
      unfold aop at hi; rw [ho] at hi
      simp only at hi
      repeat' (split at hi)
      all_goals (cases hi)
  | extract x n =>
    refine .ro h (fun t ha => ?_) (fun i hi => ⟨x, by simp [Op.operands], ?_⟩)
    · unfold aop; rw [ho]; simp only [(ha x (by simp [Op.operands])).1]
      split
      · split <;> rfl
      · rfl
    · unfold aop at hi; rw [ho] at hi
      simp only at hi
      split at hi
      · rename_i l e
        split at hi
        · rename_i v hv
          rw [e]; show l.ment i = true; exact nth_ment hv hi
        · cases hi
      · cases hi
  | makeFunc fn first caps =>
    have hcs : ∀ t, Agree s t (Op.makeFunc fn first caps).operands.toList → t.evs caps.toList = s.evs caps.toList := fun t ha => evs_st (fun x hx => (ha x (by simp only [Op.operands]; simp at hx ⊢; exact .inr hx)).1)
    refine .ro h (fun t ha => ?_) (fun i hi => ?_)
    · unfold aop; rw [ho]
      cases fn with
      | func f => simp only [hcs t ha]; split <;> rfl
      | _ => rfl
    · unfold aop at hi; rw [ho] at hi
      cases fn with
      | func f =>
        simp only at hi
        split at hi
        · obtain ⟨x, hx, hi⟩ := evs_ment (s := s) (i := i) (xs := caps.toList) hi
          exact ⟨x, by simp only [Op.operands]; simp at hx ⊢; exact .inr hx, hi⟩
        · cases hi
      | _ => cases hi
  | alloc T =>
    have key : ∃ t0 d, look T E.tt = some t0 ∧ o.dst = some d ∧ s.fresh d = true := by
      unfold aop at h; rw [ho] at h
      simp only at h
      split at h
      · split at h
        · exact ⟨_, _, by assumption, by assumption, by assumption⟩
        · cases h
      · cases h
    obtain ⟨t0, d, h1, h2, h3⟩ := key
    have he : ∀ t, t.fresh d = true → aop E o t = .ok (.ptr d []) (t.putE d (.var t0.ty t0.ty.dflt)) := fun t ht => by unfold aop; rw [ho]; simp only [h1, h2, ht]
    rw [he s h3] at h
    simp only [OR.get, Option.some.injEq, Prod.mk.injEq] at h
    obtain ⟨rfl, rfl, rfl⟩ := h
    exact .one h2 (fun i hi => by simpa [AV.ment] using hi) h3 (fun t _ ht => he t ht)
  | box T x =>
    have key : ∃ t0 d u y, look T E.tt = some t0 ∧ o.dst = some d ∧ s.fresh d = true ∧ s.ev x = .val u y ∧ u.sh = t0.ty.sh := by
      unfold aop at h; rw [ho] at h
      simp only at h
      split at h
      · split at h
        · split at h
          · split at h
            · exact ⟨_, _, _, _, by assumption, by assumption, by assumption, by assumption, by assumption⟩
            · cases h
          · cases h
        · cases h
      · cases h
    obtain ⟨t0, d, u, y, h1, h2, h3, h4, h5⟩ := key
    have he : ∀ t, t.ev x = .val u y → t.fresh d = true → aop E o t = .ok (.ptr d []) (t.putE d (.var u y)) := fun t hx ht => by unfold aop; rw [ho]; simp only [h1, h2, ht, hx, h5, if_true]
    rw [he s h4 h3] at h
    simp only [OR.get, Option.some.injEq, Prod.mk.injEq] at h
    obtain ⟨rfl, rfl, rfl⟩ := h
    exact .one h2 (fun i hi => by simpa [AV.ment] using hi) h3 (fun t ha ht => he t ((ha x (by simp [Op.operands])).1.trans h4) ht)
  | buildSlice T n parts =>
    have hps : ∀ t, Agree s t (Op.buildSlice T n parts).operands.toList → ∀ q ∈ parts.toList, t.ev q.2 = s.ev q.2 := fun t ha q hq => (ha q.2 (by simp only [Op.operands]; simpa using ⟨q.1, by simpa using hq⟩)).1
    have key : ∃ t0 b d m t' l, look T E.tt = some ⟨.slc true t0, b⟩ ∧ o.dst = some d ∧ s.fresh d = true ∧ (parts.toList.all (fun q => Nat.blt q.1 n) && Nat.ble (n * t0.size) 16777216) = true ∧ buildL s ⟨.arr n t0, (Ty.arr n t0).dflt⟩ parts.toList = some ⟨.arr m t', l⟩ := by
      unfold aop at h; rw [ho] at h
      simp only at h
      split at h
      · split at h
        · rename_i hc
          simp only [Bool.and_eq_true] at hc
          split at h
          · exact ⟨_, _, _, _, _, _, by assumption, by assumption, hc.1.1, by simp only [Bool.and_eq_true]; exact ⟨hc.1.2, hc.2⟩, by assumption⟩
          · cases h
        · cases h
      · cases h
    obtain ⟨t0, b, d, m, t', l, h1, h2, h3, h4, h5⟩ := key
    simp only [Bool.and_eq_true] at h4
    have he : ∀ t, buildL t ⟨.arr n t0, (Ty.arr n t0).dflt⟩ parts.toList = some ⟨.arr m t', l⟩ → t.fresh d = true → aop E o t = .ok (.at_ d []) (t.putE d (.own (.slc true t') l)) := fun t hx ht => by
      unfold aop; rw [ho]; simp only [h1, h2, ht, h4.1, h4.2, hx, Bool.and_self]
    rw [he s h5 h3] at h
    simp only [OR.get, Option.some.injEq, Prod.mk.injEq] at h
    obtain ⟨rfl, rfl, rfl⟩ := h
    exact .one h2 (fun i hi => by simpa [AV.ment] using hi) h3 (fun t ha ht => he t ((buildL_st (s := s) (t := t) (hps t ha)).trans h5) ht)
  | call c =>
    have hop : ∀ x ∈ c.args.toList, x ∈ (Op.call c).operands.toList := fun x hx => by simp only [Op.operands, Call.operands]; simp at hx ⊢; first | exact .inr hx | exact .inl hx
    cases hc : c.callee with
    | value f => exact call_loc ho hc (by simp [Op.operands, Call.operands, hc]) hop h
    | builtin b =>
      cases b <;> first
        | (exact len_loc ho hc hop h)
        | (exact maxmin_loc ho (.inl hc) hop h)
        | (exact maxmin_loc ho (.inr hc) hop h)
        | (exfalso; simp [writes, ho, hc] at hw)
    | _ => exfalso; simp [writes, ho, hc] at hw
  | pick a b c => exact absurd ho (hpick a b c)
  | _ => exfalso; simp [writes, ho] at hw

end
end Go.Ex
