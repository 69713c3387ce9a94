import Derived.Test.YtdhdpklmipkneaaExK5
import Derived.Orders

namespace Go.Ex

section
variable {E : Env} {s t : St}

theorem ag {o : Oper} {x : Operand} (h : Agree s t o.op.operands.toList) (hx : x ∈ o.op.operands.toList) : t.ev x = s.ev x ∧ Alike s t (s.ev x) := ⟨(h x hx).1, (h x hx).2⟩

theorem ob1 {i : Nat} {p : List Step} (h : Alike s t (.ptr i p)) : t.obj i = s.obj i := h i (by simp [AV.ment])
theorem ob2 {i : Nat} {p : List Step} (h : Alike s t (.at_ i p)) : t.obj i = s.obj i := h i (by simp [AV.ment])
theorem ob3 {i : Nat} {p : List Step} {a b : Int} (h : Alike s t (.sub i p a b)) : t.obj i = s.obj i := h i (by simp [AV.ment])

theorem fieldAddr_loc {o : Oper} {T : TypeId} {x : Operand} {n : Nat} (ho : o.op = .fieldAddr T x n) {p : Prop} {v : AV} {s1 : St} (h : (aop E o s).get = some (p, v, s1)) : Hangs E o s p v := by
  have hx : x ∈ o.op.operands.toList := by rw [ho]; simp [Op.operands]
  refine .ro h (fun t ha => ?_) (fun i hi => ⟨x, hx, ?_⟩)
  · obtain ⟨e1, e2⟩ := ag ha hx
    unfold aop
    rw [ho]
    simp only [e1]
    cases hx : s.ev x with
    | ptr i q =>
      rw [hx] at e2
      simp only [part_st (e2 i (by simp [AV.ment]))]
      repeat' (first | rfl | split)
    | val u z =>
      cases u with
      | box o0 g0 u0 => cases o0 <;> cases g0 <;> first | rfl | (dsimp only; repeat' (first | rfl | split))
      | _ => first | rfl | (dsimp only; repeat' (first | rfl | split))
    | _ => first | rfl | (dsimp only; split <;> rfl)
  · unfold aop at hi
    rw [ho] at hi
    simp only at hi
    cases hx : s.ev x with
    | ptr j q =>
      rw [hx] at hi
      simp only at hi
      repeat' (split at hi)
      all_goals first | exact hi | (cases hi; done)
    | val u z =>
      rw [hx] at hi
      exfalso
      cases u with
      | box o0 g0 u0 => cases o0 <;> cases g0 <;> first | (cases hi; done) | (simp only at hi; repeat' (split at hi)) <;> (cases hi)
      | _ => first | (cases hi; done) | (simp only at hi; repeat' (split at hi)) <;> (cases hi)
    | _ =>
      rw [hx] at hi
      simp only at hi
      repeat' (split at hi)
      all_goals first | exact hi | (cases hi; done)

theorem indexAddr_loc {o : Oper} {T : TypeId} {x y : Operand} (ho : o.op = .indexAddr T x y) {p : Prop} {v : AV} {s1 : St} (h : (aop E o s).get = some (p, v, s1)) : Hangs E o s p v := by
  have hxo : x ∈ o.op.operands.toList := by rw [ho]; simp [Op.operands]
  have hyo : y ∈ o.op.operands.toList := by rw [ho]; simp [Op.operands]
  refine .ro h (fun t ha => ?_) (fun i hi => ⟨x, hxo, ?_⟩)
  · obtain ⟨e1, e2⟩ := ag ha hxo
    have e3 := (ag ha hyo).1
    unfold aop
    rw [ho]
    simp only [e1, e3]
    split
    · rename_i hx _; rw [hx] at e2; (first | simp only [part_st (ob1 e2)] | simp only [part_st (ob2 e2)]) ; (generalize s.part _ _ = pt; cases pt with | none => rfl | some q => (obtain ⟨u, z⟩ := q; cases u <;> first | rfl | (dsimp only; repeat' (first | rfl | split)) | (rename_i o0 _; cases o0 <;> first | rfl | (dsimp only; repeat' (first | rfl | split)))))
    · repeat' (first | rfl | split)
    · repeat' (first | rfl | split)
    · rename_i hx _; rw [hx] at e2; (first | simp only [part_st (ob1 e2)] | simp only [part_st (ob2 e2)]) ; (generalize s.part _ _ = pt; cases pt with | none => rfl | some q => (obtain ⟨u, z⟩ := q; cases u <;> first | rfl | (dsimp only; repeat' (first | rfl | split)) | (rename_i o0 _; cases o0 <;> first | rfl | (dsimp only; repeat' (first | rfl | split)))))
    · rename_i hx _; rw [hx] at e2; simp only [view_st (ob3 e2)] ; (generalize s.view _ _ _ _ = pt; cases pt with | none => rfl | some q => (obtain ⟨u, z⟩ := q; dsimp only; repeat' (first | rfl | split)))
    · rfl
  · unfold aop at hi
    rw [ho] at hi
    simp only at hi
    split at hi
    · rename_i hx _; rw [hx]; repeat' (split at hi)
      all_goals first | exact hi | (cases hi; done)
    · repeat' (split at hi)
      all_goals (cases hi; done)
    · repeat' (split at hi)
      all_goals (cases hi; done)
    · rename_i hx _; rw [hx]; repeat' (split at hi)
      all_goals first | exact hi | (cases hi; done)
    · rename_i hx _; rw [hx]; repeat' (split at hi)
      all_goals first | exact hi | (cases hi; done)
    · cases hi

theorem index_loc {o : Oper} {T : TypeId} {x y : Operand} (ho : o.op = .index T x y) {p : Prop} {v : AV} {s1 : St} (h : (aop E o s).get = some (p, v, s1)) : Hangs E o s p v := by
  have hxo : x ∈ o.op.operands.toList := by rw [ho]; simp [Op.operands]
  have hyo : y ∈ o.op.operands.toList := by rw [ho]; simp [Op.operands]
  refine .ro h (fun t ha => ?_) (fun i hi => ⟨x, hxo, ?_⟩)
  · obtain ⟨e1, e2⟩ := ag ha hxo
    have e3 := (ag ha hyo).1
    unfold aop
    rw [ho]
    simp only [e1, e3]
    split
    · split <;> rfl
    · split <;> rfl
    · rename_i hx _; rw [hx] at e2; (first | simp only [part_st (ob1 e2)] | simp only [part_st (ob2 e2)]) ; (generalize s.part _ _ = pt; cases pt with | none => rfl | some q => (obtain ⟨u, z⟩ := q; cases u <;> first | rfl | (dsimp only; repeat' (first | rfl | split)) | (rename_i o0 _; cases o0 <;> first | rfl | (dsimp only; repeat' (first | rfl | split)))))
    · rfl
  · unfold aop at hi
    rw [ho] at hi
    simp only at hi
    split at hi
    · repeat' (split at hi)
      all_goals (cases hi; done)
    · repeat' (split at hi)
      all_goals (cases hi; done)
    · rename_i hx _; rw [hx]; repeat' (split at hi)
      all_goals first | exact hi | (cases hi; done)
    · cases hi

theorem field_loc {o : Oper} {T : TypeId} {x : Operand} {n : Nat} (ho : o.op = .field T x n) {p : Prop} {v : AV} {s1 : St} (h : (aop E o s).get = some (p, v, s1)) : Hangs E o s p v := by
  have hxo : x ∈ o.op.operands.toList := by rw [ho]; simp [Op.operands]
  refine .ro h (fun t ha => ?_) (fun i hi => ⟨x, hxo, ?_⟩)
  · obtain ⟨e1, e2⟩ := ag ha hxo
    unfold aop
    rw [ho]
    simp only [e1]
    split
    · split <;> rfl
    · rename_i hx; rw [hx] at e2; (first | simp only [part_st (ob1 e2)] | simp only [part_st (ob2 e2)]) ; (generalize s.part _ _ = pt; cases pt with | none => rfl | some q => (obtain ⟨u, z⟩ := q; cases u <;> first | rfl | (dsimp only; repeat' (first | rfl | split)) | (rename_i o0 _; cases o0 <;> first | rfl | (dsimp only; repeat' (first | rfl | split)))))
    · rfl
  · unfold aop at hi
    rw [ho] at hi
    simp only at hi
    split at hi
    · repeat' (split at hi)
      all_goals (cases hi; done)
    · rename_i hx; rw [hx]; repeat' (split at hi)
      all_goals first | exact hi | (cases hi; done)
    · cases hi

theorem cap_loc {o : Oper} {c : Call} (ho : o.op = .call c) (hc : c.callee = .builtin .cap) {p : Prop} {v : AV} {s1 : St} (h : (aop E o s).get = some (p, v, s1)) : Hangs E o s p v := by
  obtain ⟨x, T, ha, hT⟩ : ∃ x T, c.args.toList = [x] ∧ c.argTypes.toList = [T] := by
    unfold aop at h
    rw [ho] at h
    simp only [hc] at h
    split at h
    · exact ⟨_, _, by assumption, by assumption⟩
    · cases h
  have hx0 : x ∈ o.op.operands.toList := by rw [ho]; exact ops_arg (by rw [ha]; simp)
  refine .ro h (fun t hag => ?_) (fun i hi => ?_)
  · obtain ⟨e1, e2⟩ := ag hag hx0
    unfold aop
    rw [ho]
    simp only [hc, ha, hT, e1]
    repeat' (first | rfl | split)
  · exfalso
    unfold aop at hi
    rw [ho] at hi
    simp only [hc, ha, hT] at hi
    repeat' (split at hi)
    all_goals (cases hi)

theorem mp_st {v : AV} (h : Alike s t v) : v.mp t = v.mp s := by
  unfold AV.mp
  split
  · rfl
  · rename_i i p; simp only [part_st (h i (by simp [AV.ment]))]
  · rfl

theorem lookup_loc {o : Oper} {T : TypeId} {x y : Operand} {ok : Bool} (ho : o.op = .lookup T x y ok) {p : Prop} {v : AV} {s1 : St} (h : (aop E o s).get = some (p, v, s1)) : Hangs E o s p v := by
  have hx : x ∈ o.op.operands.toList := by rw [ho]; simp [Op.operands]
  have hy : y ∈ o.op.operands.toList := by rw [ho]; simp [Op.operands]
  have hl : ∀ t, aop E o t = lookupA E T (t.ev x) (t.ev y) ok t := fun t => by unfold aop; rw [ho]
  refine .ro h (fun t ha => ?_) (fun i hi => ?_)
  · rw [hl, hl, (ag ha hx).1, (ag ha hy).1]
    unfold lookupA
    rw [mp_st (ag ha hx).2]
    repeat' (first | rfl | split)
  · exfalso
    rw [hl] at hi
    unfold lookupA at hi
    repeat' (split at hi)
    all_goals (simp [OR.av, AV.ment] at hi)

theorem makeMap_loc {o : Oper} {T : TypeId} {r : Option Operand} (ho : o.op = .makeMap T r) {p : Prop} {v : AV} {s1 : St} (h : (aop E o s).get = some (p, v, s1)) : Hangs E o s p v := by
  have key : ∃ k u b d, r = none ∧ look T E.tt = some ⟨.map true k u, b⟩ ∧ o.dst = some d := by
    unfold aop at h; rw [ho] at h
    simp only at h
    split at h
    · exact ⟨_, _, _, _, rfl, by assumption, by assumption⟩
    · cases h
  obtain ⟨k, u, b, d, rfl, h1, h2⟩ := key
  have he : ∀ t, aop E o t = t.lay d [] (.map true k u) (some ([] : List (k.den × u.den))) := fun t => by unfold aop; rw [ho]; simp only [h1, h2]
  rw [he] at h
  cases hl : s.lay d [] (.map true k u) (some ([] : List (k.den × u.den))) with
  | fail y => rw [hl] at h; cases h
  | okN q v s' => exact absurd hl lay_okN
  | ok v' s' =>
    rw [hl] at h
    cases h
    obtain ⟨k1, rfl, rfl, k4⟩ := lay_get hl
    exact Hangs.obj h2 (e := .own (.map true k u) (some [])) (g := []) (fun i hi => by simpa [AV.ment] using hi) k1 (by simp) (fun t ha hu hf => by rw [he t, lay_st hf k4]; rfl)

theorem slice_loc {o : Oper} {T : TypeId} {x : Operand} {lo hi mx : Option Operand} (ho : o.op = .slice T x lo hi mx) {p : Prop} {v : AV} {s1 : St} (h : (aop E o s).get = some (p, v, s1)) : Hangs E o s p v := by
  have hops : ∀ y, y = x ∨ lo = some y ∨ hi = some y ∨ mx = some y → y ∈ o.op.operands.toList := by
    rw [ho]
    rintro y (rfl | rfl | rfl | rfl) <;> simp [Op.operands]
  have hxo : x ∈ o.op.operands.toList := hops x (.inl rfl)
  have he : ∀ t, aop E o t = sliceA E T (t.ev x) lo hi mx t := fun t => by unfold aop; rw [ho]
  refine .ro h (fun t ha => ?_) (fun i hi' => ⟨x, hxo, ?_⟩)
  · obtain ⟨e1, e2⟩ := ag ha hxo
    rw [he, he, e1]
    have b1 : ∀ d, bnd t d lo = bnd s d lo := fun d => bnd_st (fun y hy => (ag ha (hops y (.inr (.inl hy)))).1)
    have b2 : ∀ d, bnd t d hi = bnd s d hi := fun d => bnd_st (fun y hy => (ag ha (hops y (.inr (.inr (.inl hy))))).1)
    have b3 : ∀ d, bnd t d mx = bnd s d mx := fun d => bnd_st (fun y hy => (ag ha (hops y (.inr (.inr (.inr hy))))).1)
    unfold sliceA
    simp only [b1, b2, b3]
    split
    · rfl
    · split
      · repeat' (first | rfl | split)
      · repeat' (first | rfl | split)
      · repeat' (first | rfl | split)
      · rename_i hx; rw [hx] at e2; (first | simp only [part_st (ob1 e2)] | simp only [part_st (ob2 e2)]) ; (generalize s.part _ _ = pt; cases pt with | none => rfl | some q => (obtain ⟨u, z⟩ := q; cases u <;> first | rfl | (dsimp only; repeat' (first | rfl | split)) | (rename_i o0 _; cases o0 <;> first | rfl | (dsimp only; repeat' (first | rfl | split)))))
      · rename_i hx; rw [hx] at e2; simp only [part_st (ob3 e2)] ; (generalize s.part _ _ = pt; cases pt with | none => rfl | some q => (obtain ⟨u, z⟩ := q; cases u <;> first | rfl | (dsimp only; repeat' (first | rfl | split)) | (rename_i o0 _; cases o0 <;> first | rfl | (dsimp only; repeat' (first | rfl | split)))))
      · rename_i hx; rw [hx] at e2; (first | simp only [part_st (ob1 e2)] | simp only [part_st (ob2 e2)]) ; (generalize s.part _ _ = pt; cases pt with | none => rfl | some q => (obtain ⟨u, z⟩ := q; cases u <;> first | rfl | (dsimp only; repeat' (first | rfl | split)) | (rename_i o0 _; cases o0 <;> first | rfl | (dsimp only; repeat' (first | rfl | split)))))
      · rfl
  · rw [he] at hi'
    unfold sliceA at hi'
    split at hi'
    · cases hi'
    · split at hi'
      · repeat' (split at hi')
        all_goals (cases hi'; done)
      · repeat' (split at hi')
        all_goals (cases hi'; done)
      · repeat' (split at hi')
        all_goals (cases hi'; done)
      · rename_i hx; rw [hx]; repeat' (split at hi')
        all_goals first | exact hi' | (cases hi'; done)
      · rename_i hx; rw [hx]; repeat' (split at hi')
        all_goals first | exact hi' | (cases hi'; done)
      · rename_i hx; rw [hx]; repeat' (split at hi')
        all_goals first | exact hi' | (cases hi'; done)
      · cases hi'

theorem len_loc {o : Oper} {c : Call} (ho : o.op = .call c) (hc : c.callee = .builtin .len) {p : Prop} {v : AV} {s1 : St} (h : (aop E o s).get = some (p, v, s1)) : Hangs E o s p v := by
  obtain ⟨x, T, ha, hT⟩ : ∃ x T, c.args.toList = [x] ∧ c.argTypes.toList = [T] := by
    unfold aop at h
    rw [ho] at h
    simp only [hc] at h
    split at h
    · exact ⟨_, _, by assumption, by assumption⟩
    · cases h
  have hx0 : x ∈ o.op.operands.toList := by rw [ho]; exact ops_arg (by rw [ha]; simp)
  refine .ro h (fun t hag => ?_) (fun i hi => ?_)
  · obtain ⟨e1, e2⟩ := ag hag hx0
    unfold aop
    rw [ho]
    simp only [hc, ha, hT, e1]
    split
    · repeat' (first | rfl | split)
    · repeat' (first | rfl | split)
    · repeat' (first | rfl | split)
    · rename_i hx; rw [hx] at e2; (first | simp only [part_st (ob1 e2)] | simp only [part_st (ob2 e2)]) ; (generalize s.part _ _ = pt; cases pt with | none => rfl | some q => (obtain ⟨u, z⟩ := q; cases u <;> first | rfl | (dsimp only; repeat' (first | rfl | split)) | (rename_i o0 _; cases o0 <;> first | rfl | (dsimp only; repeat' (first | rfl | split)))))
    · rename_i hx; rw [hx] at e2; simp only [view_st (ob3 e2)] ; (generalize s.view _ _ _ _ = pt; cases pt with | none => rfl | some q => (obtain ⟨u, z⟩ := q; dsimp only; repeat' (first | rfl | split)))
    · repeat' (first | rfl | split)
    · rfl
  · exfalso
    unfold aop at hi
    rw [ho] at hi
    simp only [hc, ha, hT] at hi
    repeat' (split at hi)
    all_goals (cases hi)

theorem foldI_st {k : IntKind} {f : Int → Int → Int} : ∀ {l : List Operand} {n : Int}, (∀ x ∈ l, t.ev x = s.ev x) → foldI t k f n l = (foldI s k f n l).withSt t
  | [], n, _ => rfl
  | x :: l, n, h => by
    simp only [foldI, h x (by simp)]
    split
    · split
      · exact foldI_st (fun y hy => h y (by simp [hy]))
      · rfl
    · rfl

theorem foldI_ment {k : IntKind} {f : Int → Int → Int} {i : Nat} : ∀ {l : List Operand} {n : Int}, (foldI s k f n l).av.ment i = true → False
  | [], n, h => by cases h
  | x :: l, n, h => by
    simp only [foldI] at h
    split at h
    · split at h
      · exact foldI_ment h
      · cases h
    · cases h

theorem maxmin_loc {o : Oper} {c : Call} (ho : o.op = .call c) (hc : c.callee = .builtin .max ∨ c.callee = .builtin .min) {p : Prop} {v : AV} {s1 : St} (h : (aop E o s).get = some (p, v, s1)) : Hangs E o s p v := by
  have hxo : ∀ x ∈ c.args.toList, x ∈ o.op.operands.toList := fun x hx => by rw [ho]; exact ops_arg hx
  refine .ro h (fun t hag => ?_) (fun i hi => ?_)
  · unfold aop
    rw [ho]
    rcases hc with hc | hc <;>
    · simp only [hc]
      split
      · rename_i x l ha
        rw [(hag x (hxo x (by rw [ha]; simp))).1]
        split
        · exact foldI_st (fun y hy => (hag y (hxo y (by rw [ha]; simp [hy]))).1)
        · rfl
      · rfl
  · exfalso
    unfold aop at hi
    rw [ho] at hi
    rcases hc with hc | hc
    · simp only [hc] at hi
      split at hi
      · split at hi
        · exact foldI_ment hi
        · cases hi
      · cases hi
    · simp only [hc] at hi
      split at hi
      · split at hi
        · exact foldI_ment hi
        · cases hi
      · cases hi

theorem build_loc {o : Oper} {T : TypeId} {parts : Array (Nat × Operand)} (ho : o.op = .build T parts) {p : Prop} {v : AV} {s1 : St} (h : (aop E o s).get = some (p, v, s1)) : Hangs E o s p v := by
  have hps : ∀ t, Agree s t o.op.operands.toList → ∀ q ∈ parts.toList, t.ev q.2 = s.ev q.2 ∧ Alike s t (s.ev q.2) := fun t ha q hq => ag ha (by rw [ho]; simp only [Op.operands]; simpa using ⟨q.1, by simpa using hq⟩)
  have key : ∃ t0 r g, look T E.tt = some t0 ∧ (t0.ty.agg && parts.toList.all (fun q => inArr t0.ty q.1)) = true ∧ buildL s ⟨t0.ty, t0.ty.dflt⟩ parts.toList = some (r, g) := by
    unfold aop at h; rw [ho] at h
    simp only at h
    split at h
    · split at h
      · split at h
        · exact ⟨_, _, _, by assumption, by assumption, by assumption⟩
        · exact ⟨_, _, _, by assumption, by assumption, by assumption⟩
        · cases h
      · cases h
    · cases h
  obtain ⟨t0, ⟨u, y⟩, g, h1, h2, h3⟩ := key
  have hb : ∀ t, Agree s t o.op.operands.toList → buildL t ⟨t0.ty, t0.ty.dflt⟩ parts.toList = some (⟨u, y⟩, g) := fun t ha => (buildL_st (s := s) (t := t) (hps t ha)).trans h3
  cases g with
  | nil =>
    have he : ∀ t, Agree s t o.op.operands.toList → aop E o t = .ok (.val u y) t := fun t ha => by unfold aop; rw [ho]; simp only [h1, h2, hb t ha]
    refine .ro h (fun t ha => ?_) (fun i hi => ?_)
    · rw [he t ha, he s (.refl _ _)]; rfl
    · rw [he s (.refl _ _)] at hi; cases hi
  | cons g0 g =>
    cases hd : o.dst with
    | none =>
      exfalso
      unfold aop at h; rw [ho] at h
      simp only [h1, h2, h3, hd] at h
      cases h
    | some d =>
      refine Hangs.lay hd (g := g0 :: g) (u := u) (x := y) (W := fun r => r) (p := p) (v := v) (s1 := s1) ?_ (fun _ => rfl) ?_ h (fun t ha => by unfold aop; rw [ho]; simp only [h1, h2, hb t ha, hd])
      · have hp : p = True := by
          unfold aop at h; rw [ho] at h
          simp only [h1, h2, h3, hd] at h
          cases hl : s.lay d (g0 :: g) u y <;> rw [hl] at h
          · cases h
          · cases h; rfl
          · exact absurd hl lay_okN
        intro v s; rw [hp]; rfl
      · intro i hi
        obtain ⟨q, hq, hm⟩ := buildL_ment h3 i hi
        unfold takes
        rw [ho]
        exact lent_ment.2 (ment_evs (List.mem_map.2 ⟨q, hq, rfl⟩) hm)

theorem buildSlice_loc {o : Oper} {T : TypeId} {n : Nat} {parts : Array (Nat × Operand)} (ho : o.op = .buildSlice T n parts) {p : Prop} {v : AV} {s1 : St} (h : (aop E o s).get = some (p, v, s1)) : Hangs E o s p v := by
  have hps : ∀ t, Agree s t o.op.operands.toList → ∀ q ∈ parts.toList, t.ev q.2 = s.ev q.2 ∧ Alike s t (s.ev q.2) := fun t ha q hq => ag ha (by rw [ho]; simp only [Op.operands]; simpa using ⟨q.1, by simpa using hq⟩)
  have key : ∃ t0 b d m t' l g, look T E.tt = some ⟨.slc true t0, b⟩ ∧ o.dst = some d ∧ (s.fresh d && parts.toList.all (fun q => Nat.blt q.1 n) && Nat.ble (n * t0.size) 16777216) = true ∧ bslL s n t0 parts.toList = some (⟨.arr m t', l⟩, g) := by
    unfold aop at h; rw [ho] at h
    simp only at h
    split at h
    · split at h
      · split at h
        · exact ⟨_, _, _, _, _, _, _, by assumption, by assumption, by assumption, by assumption⟩
        · cases h
      · cases h
    · cases h
  obtain ⟨t0, b, d, m, t', l, g, h1, h2, h4, h5⟩ := key
  have hb : ∀ t, Agree s t o.op.operands.toList → bslL t n t0 parts.toList = some (⟨.arr m t', l⟩, g) := fun t ha => by
    rw [← h5]; unfold bslL; rw [buildL_st (s := s) (t := t) (hps t ha), buildL_st (s := s) (t := t) (hps t ha)]
  obtain ⟨t9, _, h9⟩ := bslL_inv h5
  have he : ∀ t, Agree s t o.op.operands.toList → t.fresh d = true → aop E o t = t.lay d g (.slc true t') l := fun t ha hf => by
    simp only [Bool.and_eq_true] at h4
    unfold aop; rw [ho]; simp only [h1, h2, hf, h4.1.2, h4.2, hb t ha, Bool.and_self]
  have hf : s.fresh d = true := by simp only [Bool.and_eq_true] at h4; exact h4.1.1
  have hgT : ∀ i ∈ g, i ∈ takes E o s := by
    intro i hi
    obtain ⟨q, hq, hm⟩ := buildL_ment h9 i hi
    unfold takes
    rw [ho]
    exact lent_ment.2 (ment_evs (List.mem_map.2 ⟨q, hq, rfl⟩) hm)
  rw [he s (.refl _ _) hf] at h
  cases hl : s.lay d g (.slc true t') l with
  | fail y => rw [hl] at h; cases h
  | okN q v s' => exact absurd hl lay_okN
  | ok v' s' =>
    rw [hl] at h
    cases h
    obtain ⟨k1, rfl, rfl, k4⟩ := lay_get hl
    exact Hangs.obj h2 (e := .own (.slc true t') l) (g := g) (fun i hi => by simpa [AV.ment] using hi) k1 hgT (fun t ha hu hf => by rw [he t ha hf, lay_st hf k4]; rfl)

theorem box_loc {o : Oper} {T : TypeId} {x : Operand} (ho : o.op = .box T x) {p : Prop} {v : AV} {s1 : St} (h : (aop E o s).get = some (p, v, s1)) : Hangs E o s p v := by
  have hxo : x ∈ o.op.operands.toList := by rw [ho]; simp [Op.operands]
  have hT : takes E o s = (s.ev x).lent := by unfold takes; rw [ho]
  have key : ∃ t0 d, look T E.tt = some t0 ∧ o.dst = some d ∧ s.fresh d = true := by
    unfold aop at h; rw [ho] at h
    simp only at h
    split at h
    · split at h
      · exact ⟨_, _, by assumption, by assumption, by assumption⟩
      · cases h
    · cases h
  obtain ⟨t0, d, h1, h2, h3⟩ := key
  have he : ∀ t, t.fresh d = true → aop E o t = (match (t.ev x).giveV t with
        | some (⟨u, y⟩, g) => if u.sh = t0.ty.sh then (match noDup g && !g.contains d && g.all fun i => !pinned i with
          | true => .ok (.ptr d []) ((St.drops g t).putE d (.var u y))
          | false => .fail "box: objects") else .fail "box: value"
        | none => (match t.ev x, t0.ty with
          | .raw (.slice none 0 0), .slc o u => .ok (.ptr d []) (t.putE d (.var (.slc o u) ([] : List u.den)))
          | .ptr i p, .box _ none _ => .ok (.bx (.ptr i p)) t
          | _, _ => .fail "box: what")) := fun t ht => by unfold aop; rw [ho]; simp only [h1, h2, ht]; rfl
  rw [he s h3] at h
  split at h
  · rename_i u y g hgv
    split at h
    · rename_i hsh
      split at h
      · rename_i hc
        cases h
        refine Hangs.obj h2 (e := .var u y) (g := g) (fun i hi => by simpa [AV.ment] using hi) h3 (fun i hi => by rw [hT]; exact lent_ment.2 (giveV_ment hgv i hi)) (fun t ha hu hf => ?_)
        obtain ⟨e1, e2⟩ := ag ha hxo
        rw [he t hf, e1]
        simp only [(giveV_st e2).trans hgv, hsh, if_true, hc]
        rfl
      · cases h
    · cases h
  · rename_i hgv
    split at h
    · rename_i o' u hx ht0
      cases h
      refine Hangs.obj h2 (e := .var (.slc o' u) ([] : List u.den)) (g := []) (fun i hi => by simpa [AV.ment] using hi) h3 (by simp) (fun t ha hu hf => ?_)
      obtain ⟨e1, e2⟩ := ag ha hxo
      have hgt := (giveV_st e2).trans hgv
      rw [hx] at e1 hgt
      rw [he t hf, e1]
      simp only [hgt, ht0]
      rfl
    · rename_i i q o0 u0 hx ht0
      cases h
      refine ⟨[d], fun u => u, fun j => if j = d then none else look j s.hp, Trim.id _, fresh_new h3, by simp [h2], fun j hj => .inl ⟨x, hxo, by rw [hx]; exact hj⟩, fun t hu ha hn => ?_⟩
      have hf := fresh_mk hu hn
      obtain ⟨e1, e2⟩ := ag ha hxo
      have hgt := (giveV_st e2).trans hgv
      rw [hx] at e1 hgt
      refine ⟨t, ?_, hu, ⟨fun n => by simp, fun j => ?_⟩⟩
      · rw [he t hf, e1]; simp only [hgt, ht0]; rfl
      · by_cases hj : j = d
        · subst hj
          rw [if_pos (.inr (by simp)), if_pos rfl]
          exact (hn j (by simp)).1
        · by_cases hj2 : j ∈ takes E o s
          · rw [if_pos (.inl hj2), if_neg hj]; exact takes_obj ha hj2
          · rw [if_neg (by simp [hj2, hj])]
    · cases h

theorem convert_loc {o : Oper} {T' T : TypeId} {x : Operand} (ho : o.op = .convert T' T x) {p : Prop} {v : AV} {s1 : St} (h : (aop E o s).get = some (p, v, s1)) : Hangs E o s p v := by
  have hxo : x ∈ o.op.operands.toList := by rw [ho]; simp [Op.operands]
  by_cases hs : (∃ y, s.ev x = .val .str y) ∧ (∃ b, look T' E.tt = some ⟨.str, b⟩) ∧ (∃ b, look T E.tt = some ⟨.slc true (.int .u8), b⟩)
  · obtain ⟨⟨y, hy⟩, ⟨b, hb⟩, ⟨b', hb'⟩⟩ := hs
    cases hd : o.dst with
    | none =>
      exfalso
      unfold aop at h; rw [ho] at h
      simp only [hy, hb, hb', hd] at h
      cases h
    | some d =>
      have he : ∀ t, t.ev x = s.ev x → aop E o t = t.lay d [] (.slc true (.int .u8)) (List.map (fun b : UInt8 => (b.toNat : Int)) y : List Int) := fun t ht => by
        unfold aop; rw [ho]; simp only [ht, hy, hb, hb', hd]
      have hp : p = True := by
        rw [he s rfl] at h
        cases hl : s.lay d [] (.slc true (.int .u8)) (List.map (fun b : UInt8 => (b.toNat : Int)) y : List Int) <;> rw [hl] at h
        · cases h
        · cases h; rfl
        · exact absurd hl lay_okN
      exact Hangs.lay hd (g := []) (W := fun r => r) (fun v s => by rw [hp]; rfl) (fun _ => rfl) (by simp) h (fun t ha => he t (ag ha hxo).1)
  · refine .ro h (fun t ha => ?_) (fun i hi => ?_)
    · obtain ⟨e1, e2⟩ := ag ha hxo
      unfold aop; rw [ho]; simp only [e1]
      split
      · rfl
      · rename_i hx ht1 ht2
        exact absurd ⟨⟨_, hx⟩, ⟨_, ht1⟩, ⟨_, ht2⟩⟩ hs
      · rw [els_st e2]
        repeat' (first | rfl | split)
      · rfl
    · exfalso
      unfold aop at hi; rw [ho] at hi
      simp only at hi
      split at hi
      · cases hi
      · rename_i hx ht1 ht2
        exact absurd ⟨⟨_, hx⟩, ⟨_, ht1⟩, ⟨_, ht2⟩⟩ hs
      · repeat' (split at hi)
        all_goals (cases hi)
      · cases hi

theorem makeSlice_loc {o : Oper} {T : TypeId} {x y : Operand} (ho : o.op = .makeSlice T x y) {p : Prop} {v : AV} {s1 : St} (h : (aop E o s).get = some (p, v, s1)) : Hangs E o s p v := by
  have hxo : x ∈ o.op.operands.toList := by rw [ho]; simp [Op.operands]
  have hyo : y ∈ o.op.operands.toList := by rw [ho]; simp [Op.operands]
  have key : ∃ t0 b d k n k' m, look T E.tt = some ⟨.slc true t0, b⟩ ∧ o.dst = some d ∧ s.ev x = .val (.int k) n ∧ s.ev y = .val (.int k') m := by
    unfold aop at h; rw [ho] at h
    simp only at h
    split at h
    · exact ⟨_, _, _, _, _, _, _, by assumption, by assumption, by assumption, by assumption⟩
    · cases h
  obtain ⟨t0, b, d, k, n, k', m, h1, h2, h3, h4⟩ := key
  have he : ∀ t, t.ev x = s.ev x → t.ev y = s.ev y → aop E o t = (t.lay d [] (.slc true t0) (List.replicate (Int.toNat n) t0.dflt)).need (@LE.le Int Int.instLEInt 0 n ∧ @LE.le Int Int.instLEInt n m ∧ @LE.le Int Int.instLEInt m 140737488355328 ∧ @LE.le Int Int.instLEInt (@HMul.hMul Int Int Int _ m (t0.wb : Nat)) 140737488355328) := fun t e1 e2 => by
    unfold aop; rw [ho]; simp only [e1, e2, h1, h2, h3, h4]
  have h0 := h
  rw [he s rfl rfl] at h
  obtain rfl := need_W h (fun _ _ _ => lay_okN)
  exact Hangs.lay h2 (g := []) (W := OR.need _) (fun _ _ => rfl) (fun _ => rfl) (by simp) h0 (fun t ha => he t (ag ha hxo).1 (ag ha hyo).1)

theorem dstP_st {v : AV} (h : Alike s t v) : v.dstP t = v.dstP s := by
  unfold AV.dstP
  split
  · rw [part_st (ob2 h)]
  · rw [part_st (ob3 h)]
  · rfl
theorem dstP_ment {v : AV} {i : Nat} {p : List Step} {lo hi : Int} (h : v.dstP s = some (i, p, lo, hi)) : v.ment i = true := by
  unfold AV.dstP at h
  split at h
  · split at h
    · cases h; simp [AV.ment]
    · cases h
  · split at h
    · cases h; simp [AV.ment]
    · cases h
  · cases h
theorem copy_loc {o : Oper} {c : Call} (ho : o.op = .call c) (hc : c.callee = .builtin .copy) {p : Prop} {v : AV} {s1 : St} (h : (aop E o s).get = some (p, v, s1)) : Hangs E o s p v := by
  have hxo : ∀ x ∈ c.args.toList, x ∈ o.op.operands.toList := fun x hx => by rw [ho]; exact ops_arg hx
  have hT : takes E o s = (s.evs c.args.toList).lent := by unfold takes; rw [ho]; simp only [hc]
  have key : ∃ x y T, c.args.toList = [x, y] ∧ ∀ t, aop E o t = copyA E T (t.ev x) (t.ev y) t := by
    unfold aop at h
    rw [ho] at h
    simp only [hc] at h
    split at h
    · rename_i x y T U hargs htys
      exact ⟨x, y, T, hargs, fun t => by unfold aop; rw [ho]; simp only [hc, hargs, htys]⟩
    · cases h
  obtain ⟨x, y, T, hargs, he⟩ := key
  rw [he] at h
  have hxm : x ∈ o.op.operands.toList := hxo x (by rw [hargs]; simp)
  have hym : y ∈ o.op.operands.toList := hxo y (by rw [hargs]; simp)
  unfold copyA at h
  split at h
  · rename_i i q lo hi u m hd hels
    split at h
    · rename_i s' hf hck
      simp only [OR.get, Option.some.injEq, Prod.mk.injEq] at h
      obtain ⟨rfl, rfl, _⟩ := h
      obtain ⟨ow, e', hfl⟩ := fillA_loc hf
      have hm := dstP_ment hd
      refine Hangs.fill (i := i) (ow := ow) (e' := e') (by rw [hT, lent_ment, hargs]; simp [St.evs, AV.ment, hm]) (fun _ => rfl) (fun t ha => ?_)
      rw [he, (ha x hxm).1, (ha y hym).1]
      unfold copyA
      rw [dstP_st (ha x hxm).2, els_st (ha y hym).2, hd, hels]
      simp only [hfl t ((ha x hxm).2 i hm), hck]
      rfl
    · cases h
  · cases h
theorem clear_loc {o : Oper} {c : Call} (ho : o.op = .call c) (hc : c.callee = .builtin .clear) {p : Prop} {v : AV} {s1 : St} (h : (aop E o s).get = some (p, v, s1)) : Hangs E o s p v := by
  have hxo : ∀ x ∈ c.args.toList, x ∈ o.op.operands.toList := fun x hx => by rw [ho]; exact ops_arg hx
  have hT : takes E o s = (s.evs c.args.toList).lent := by unfold takes; rw [ho]; simp only [hc]
  have key : ∃ x T, c.args.toList = [x] ∧ ∀ t, aop E o t = clearA E T (t.ev x) t := by
    unfold aop at h
    rw [ho] at h
    simp only [hc] at h
    split at h
    · rename_i x T hargs htys
      exact ⟨x, T, hargs, fun t => by unfold aop; rw [ho]; simp only [hc, hargs, htys]⟩
    · cases h
  obtain ⟨x, T, hargs, he⟩ := key
  rw [he] at h
  have hxm : x ∈ o.op.operands.toList := hxo x (by rw [hargs]; simp)
  unfold clearA at h
  split at h
  · rename_i i q lo hi b u bts hd hlk
    split at h
    · rename_i s' hf
      simp only [OR.get, Option.some.injEq, Prod.mk.injEq] at h
      obtain ⟨rfl, rfl, _⟩ := h
      obtain ⟨ow, e', hfl⟩ := fillA_loc hf
      have hm := dstP_ment hd
      refine Hangs.fill (i := i) (ow := ow) (e' := e') (by rw [hT, lent_ment, hargs]; simp [St.evs, AV.ment, hm]) (fun _ => rfl) (fun t ha => ?_)
      rw [he, (ha x hxm).1]
      unfold clearA
      rw [dstP_st (ha x hxm).2, hd, hlk]
      simp only [hfl t ((ha x hxm).2 i hm)]
      rfl
    · cases h
  · cases h

theorem update_loc {o : Oper} {T : TypeId} {m x y : Operand} (ho : o.op = .mapUpdate T m x y) {p : Prop} {v : AV} {s1 : St} (h : (aop E o s).get = some (p, v, s1)) : Hangs E o s p v := by
  have hm : m ∈ o.op.operands.toList := by rw [ho]; simp [Op.operands]
  have hx : x ∈ o.op.operands.toList := by rw [ho]; simp [Op.operands]
  have hy : y ∈ o.op.operands.toList := by rw [ho]; simp [Op.operands]
  have hl : ∀ t, aop E o t = updA E T (t.ev m) (t.ev x) (t.ev y) t := fun t => by unfold aop; rw [ho]
  have hT : takes E o s = (s.ev m).lent := by unfold takes; rw [ho]
  rw [hl] at h
  have key : ∃ j e', s.ev m = .at_ j [] ∧ p = True ∧ v = .raw undef ∧ ∀ t : St, t.obj j = s.obj j → updA E T (s.ev m) (s.ev x) (s.ev y) t = .ok (.raw undef) ((t.killR j true).putE j e') := by
    unfold updA at h
    split at h
    · rename_i j u a u' z e1 e2 e3
      split at h
      · rename_i k w l hob
        split at h
        · rename_i hu
          split at h
          · rename_i hu'
            split at h
            · rename_i hmt
              simp only [OR.get, Option.some.injEq, Prod.mk.injEq] at h
              obtain ⟨rfl, rfl, _⟩ := h
              refine ⟨j, .own (.map true k w) (some (mput (eqD k) (castD hu a) (castD hu' z) l)), e1, rfl, rfl, fun t ht => ?_⟩
              unfold updA
              rw [e1, e2, e3]
              subst hu hu'
              simp only [ht, hob, hmt, dif_pos]
            · cases h
          · cases h
        · cases h
      · cases h
    · cases h
  obtain ⟨j, e', e1, rfl, rfl, hk⟩ := key
  refine Hangs.fill (i := j) (ow := true) (e' := e') (by rw [hT, e1]; simp [AV.lent]) (fun _ => rfl) (fun t ha => ?_)
  rw [hl, (ag ha hm).1, (ag ha hx).1, (ag ha hy).1, hk t ((ag ha hm).2 j (by rw [e1]; simp [AV.ment]))]
  rfl

theorem aop_loc {o : Oper} (hpick : ∀ a b c, o.op ≠ .pick a b c) {p : Prop} {v : AV} {s1 : St} (h : (aop E o s).get = some (p, v, s1)) : Hangs E o s p v := by
  have hin : ∀ x, x ∈ o.op.operands.toList ↔ x ∈ o.op.operands.toList := fun _ => Iff.rfl
  cases ho : o.op with
  | move x =>
    have hx : x ∈ o.op.operands.toList := by rw [ho]; simp [Op.operands]
    refine .ro h (fun t ha => ?_) (fun i hi => ⟨x, hx, ?_⟩)
    · unfold aop; rw [ho]; simp only [(ag ha hx).1]; rfl
    · unfold aop at hi; rw [ho] at hi; exact hi
  | assign x =>
    have hx : x ∈ o.op.operands.toList := by rw [ho]; simp [Op.operands]
    refine .ro h (fun t ha => ?_) (fun i hi => ⟨x, hx, ?_⟩)
    · unfold aop; rw [ho]; simp only [(ag ha hx).1]; rfl
    · unfold aop at hi; rw [ho] at hi; exact hi
  | load T x =>
    have hx : x ∈ o.op.operands.toList := by rw [ho]; simp [Op.operands]
    have hl : ∀ t, aop E o t = loadA E T (t.ev x) t := fun t => by unfold aop; rw [ho]
    refine .ro h (fun t ha => ?_) (fun i hi => ⟨x, hx, ?_⟩)
    · obtain ⟨e1, e2⟩ := ag ha hx
      rw [hl, hl, e1]; exact loadA_st e2
    · rw [hl] at hi; exact loadA_ment hi
  | nilCheck x =>
    have hx : x ∈ o.op.operands.toList := by rw [ho]; simp [Op.operands]
    refine .ro h (fun t ha => ?_) (fun i hi => ⟨x, hx, ?_⟩)
    · unfold aop; rw [ho]; simp only [(ag ha hx).1]; split <;> rfl
    · unfold aop at hi; rw [ho] at hi
      simp only at hi
      split at hi <;> first | (cases hi; done) | (rename_i e; rw [e]; exact hi)
  | binOp op T x y T' =>
    have hx : x ∈ o.op.operands.toList := by rw [ho]; simp [Op.operands]
    have hy : y ∈ o.op.operands.toList := by rw [ho]; simp [Op.operands]
    have hl : ∀ t, aop E o t = binE E T op (t.ev x) (t.ev y) t := fun t => by unfold aop; rw [ho]
    refine .ro h (fun t ha => ?_) (fun i hi => ?_)
    · rw [hl, hl, (ag ha hx).1, (ag ha hy).1]; exact binE_st ..
    · exfalso
      rw [hl] at hi
      unfold binE binA eqA binI binS arith at hi
      repeat' (split at hi)
      all_goals (cases hi)
  | unOp op T x =>
    have hx : x ∈ o.op.operands.toList := by rw [ho]; simp [Op.operands]
    have hl : ∀ t, aop E o t = unA op (t.ev x) t := fun t => by unfold aop; rw [ho]
    refine .ro h (fun t ha => ?_) (fun i hi => ?_)
    · rw [hl, hl, (ag ha hx).1]; exact unA_st ..
    · exfalso
      rw [hl] at hi
      unfold unA arith at hi
      repeat' (split at hi)
      all_goals (cases hi)
  | convert T' T x => exact convert_loc ho h
  | fieldAddr T x n => exact fieldAddr_loc ho h
  | indexAddr T x y => exact indexAddr_loc ho h
  | index T x y => exact index_loc ho h
  | field T x n => exact field_loc ho h
  | slice T x lo hi mx => exact slice_loc ho h
  | makeSlice T x y => exact makeSlice_loc ho h
  | build T parts => exact build_loc ho h
  | buildSlice T n parts => exact buildSlice_loc ho h
  | makeMap T r => exact makeMap_loc ho h
  | lookup T x y ok => exact lookup_loc ho h
  | mapUpdate T m x y => exact update_loc ho h
  | box T x => exact box_loc ho h
  | store T a x => exact store_loc ho h
  | extract x n =>
    have hx : x ∈ o.op.operands.toList := by rw [ho]; simp [Op.operands]
    refine .ro h (fun t ha => ?_) (fun i hi => ⟨x, hx, ?_⟩)
    · unfold aop; rw [ho]; simp only [(ag ha hx).1]
      split
      · split <;> rfl
      · rfl
    · unfold aop at hi; rw [ho] at hi
      simp only at hi
      split at hi
      · rename_i l e
        split at hi
        · rename_i v hv
          rw [e]; show l.ment i = true; exact nth_ment hv hi
        · cases hi
      · cases hi
  | makeFunc fn first caps =>
    have hcm : ∀ x ∈ caps.toList, x ∈ o.op.operands.toList := fun x hx => by rw [ho]; simp only [Op.operands]; simp at hx ⊢; exact .inr hx
    have hcs : ∀ t, Agree s t o.op.operands.toList → t.evs caps.toList = s.evs caps.toList := fun t ha => evs_st (fun x hx => (ag ha (hcm x hx)).1)
    refine .ro h (fun t ha => ?_) (fun i hi => ?_)
    · unfold aop; rw [ho]
      cases fn with
      | func f => simp only [hcs t ha]; split <;> rfl
      | _ => rfl
    · unfold aop at hi; rw [ho] at hi
      cases fn with
      | func f =>
        simp only at hi
        split at hi
        · obtain ⟨x, hx, hi⟩ := evs_ment (s := s) (i := i) (xs := caps.toList) hi
          exact ⟨x, hcm x hx, hi⟩
        · cases hi
      | _ => cases hi
  | alloc T =>
    have key : ∃ t0 d, look T E.tt = some t0 ∧ o.dst = some d ∧ s.fresh d = true := by
      unfold aop at h; rw [ho] at h
      simp only at h
      split at h
      · split at h
        · exact ⟨_, _, by assumption, by assumption, by assumption⟩
        · cases h
      · cases h
    obtain ⟨t0, d, h1, h2, h3⟩ := key
    have he : ∀ t, t.fresh d = true → aop E o t = .ok (.ptr d []) (t.putE d (.var t0.ty t0.ty.dflt)) := fun t ht => by unfold aop; rw [ho]; simp only [h1, h2, ht]
    rw [he s h3] at h
    simp only [OR.get, Option.some.injEq, Prod.mk.injEq] at h
    obtain ⟨rfl, rfl, rfl⟩ := h
    exact .obj h2 (g := []) (fun i hi => by simpa [AV.ment] using hi) h3 (by simp) (fun t _ _ ht => by rw [he t ht]; rfl)
  | call c =>
    cases hc : c.callee with
    | value f => exact call_loc ho hc h
    | builtin b =>
      cases b <;> first
        | (exact len_loc ho hc h)
        | (exact cap_loc ho hc h)
        | (exact append_loc ho hc h)
        | (exact copy_loc ho hc h)
        | (exact clear_loc ho hc h)
        | (exact maxmin_loc ho (.inl hc) h)
        | (exact maxmin_loc ho (.inr hc) h)
        | (exfalso; unfold aop at h; rw [ho] at h; simp only [hc] at h; cases h)
    | _ => exfalso; unfold aop at h; rw [ho] at h; simp only [hc] at h; cases h
  | pick a b c => exact absurd ho (hpick a b c)
  | _ => exfalso; unfold aop at h; rw [ho] at h; cases h

end
end Go.Ex

namespace Go.Ex

def Eqv (s t : St) : Prop := (∀ n, look n s.fr = look n t.fr) ∧ (∀ i, look i s.hp = look i t.hp)

theorem Eqv.refl (s : St) : Eqv s s := ⟨fun _ => rfl, fun _ => rfl⟩
theorem Eqv.symm {s t : St} (h : Eqv s t) : Eqv t s := ⟨fun n => (h.1 n).symm, fun n => (h.2 n).symm⟩
theorem Eqv.trans {s t u : St} (h : Eqv s t) (k : Eqv t u) : Eqv s u := ⟨fun n => (h.1 n).trans (k.1 n), fun n => (h.2 n).trans (k.2 n)⟩

theorem look_putS {m : Nat} {s : St} {d : Option Nat} {v : AV} : look m (s.put d v).fr = if d = some m then some v else look m s.fr := by
  cases d with
  | none => simp [St.put]
  | some d =>
    simp only [St.put, look_put, Option.some.injEq]
    by_cases e : m = d
    · subst e; simp
    · rw [if_neg e, if_neg (fun h => e h.symm)]

theorem hp_putS {s : St} {d : Option Nat} {v : AV} : (s.put d v).hp = s.hp := by cases d <;> rfl

theorem uniq_putS {s : St} {d : Option Nat} {v : AV} (h : uniq s.fr) : uniq (s.put d v).fr := by
  cases d with
  | none => exact h
  | some d => exact uniq_put _ _ h

theorem Eqv.put {s t : St} (h : Eqv s t) (d : Option Nat) (v : AV) : Eqv (s.put d v) (t.put d v) :=
  ⟨fun n => by rw [look_putS, look_putS, h.1 n], fun i => by rw [hp_putS, hp_putS, h.2 i]⟩

theorem Eqv.get {s t : St} (h : Eqv s t) (m : Nat) : s.get m = t.get m := by simp only [St.get, h.1 m]
theorem Eqv.ev {s t : St} (h : Eqv s t) (x : Operand) : s.ev x = t.ev x := by cases x <;> first | rfl | exact h.get _

theorem NewIds.eqv {s t : St} (h : Eqv s t) {ids : List Nat} (hf : NewIds s ids) : NewIds t ids :=
  fun n hn => ⟨(h.2 n).symm.trans (hf n hn).1, fun m v hv => (hf n hn).2 m v ((h.1 m).trans hv)⟩

/-- two states alike in slots and in the objects that these speak of -/
def AgreeS (s t : St) (L : List Nat) : Prop := ∀ m ∈ L, t.get m = s.get m ∧ ∀ i, (s.get m).ment i = true → t.obj i = s.obj i

theorem Eqv.agreeS {s t : St} (h : Eqv s t) (L : List Nat) : AgreeS s t L := fun m _ => ⟨(h.get m).symm, fun i _ => (h.2 i).symm⟩

theorem ofConst_ment (v : Value) (i : Nat) : (ofConst v).ment i = false := by
  unfold ofConst
  split
  · split <;> rfl
  · rfl
  · split <;> rfl
  · rfl

theorem ev_ment {s : St} {x : Operand} {i : Nat} (h : (s.ev x).ment i = true) : ∃ m, x = .tmp m ∧ (s.get m).ment i = true := by
  cases x with
  | tmp m => exact ⟨m, rfl, h⟩
  | const v => simp [St.ev, ofConst_ment] at h
  | global g => cases h
  | func f => cases h

theorem AgreeS.agree {s t : St} {L : List Nat} (h : AgreeS s t L) {xs : List Operand} (hL : ∀ m, Operand.tmp m ∈ xs → m ∈ L) : Agree s t xs := by
  intro x hx
  refine ⟨?_, fun i hi => ?_⟩
  · cases x with
    | tmp m => exact (h m (hL m hx)).1
    | _ => rfl
  · obtain ⟨m, rfl, hm⟩ := ev_ment hi
    exact (h m (hL m hx)).2 i hm

/-- a state that has turned, and its slot d -/
structure Put (s s1 : St) (d : Option Nat) (T ids : List Nat) (f : AV → AV) (h : Nat → Option Ent) (v : AV) : Prop where
  fr : ∀ n, look n s1.fr = if d = some n then some v else (look n s.fr).map f
  hp : ∀ i, look i s1.hp = if i ∈ T ∨ i ∈ ids then h i else look i s.hp

section
variable {s t s1 t1 : St} {d : Option Nat} {T ids : List Nat} {f : AV → AV} {h : Nat → Option Ent} {v : AV}
theorem Put.eqv (hp : Put s s1 d T ids f h v) (he : Eqv s t) : Put t s1 d T ids f h v :=
  ⟨fun n => by rw [hp.fr, he.1 n], fun i => by rw [hp.hp, he.2 i]⟩
theorem Put.det (hp : Put s s1 d T ids f h v) (hp' : Put t t1 d T ids f h v) (he : Eqv s t) : Eqv s1 t1 :=
  ⟨fun n => by rw [hp.fr, hp'.fr, he.1 n], fun i => by rw [hp.hp, hp'.hp, he.2 i]⟩
theorem Put.get (hp : Put s s1 d T ids f h v) (hf : Trim T f) {m : Nat} (hm : d ≠ some m) : s1.get m = f (s.get m) := by
  simp only [St.get, hp.fr, if_neg hm]
  cases look m s.fr with
  | none => exact (hf.plain _ rfl).symm
  | some u => rfl
end

theorem trim_nth {T : List Nat} {f : AV → AV} (hf : Trim T f) : ∀ {j : Nat} {l : AV}, aop.nth j (f l) = (aop.nth j l).map f := by
  have nope : ∀ {j : Nat} {l : AV}, (∀ a b, l ≠ .cons a b) → aop.nth j l = none := by
    intro j l h
    cases l with
    | cons a b => exact absurd rfl (h a b)
    | _ => cases j <;> rfl
  have hn : ∀ u : AV, (∀ a b, u ≠ .cons a b) → ∀ a b, f u ≠ .cons a b := by
    intro u hu a b e
    cases u with
    | cons a b => exact absurd rfl (hu a b)
    | tup l => rw [hf.tup] at e; cases e
    | clo g l => rw [hf.clo] at e; cases e
    | bx l => rw [hf.bx] at e; cases e
    | ptr i p => rcases hf.atom _ (rfl : (AV.ptr i p).ref = true) with h | h <;> rw [h] at e <;> cases e
    | at_ i p => rcases hf.atom _ (rfl : (AV.at_ i p).ref = true) with h | h <;> rw [h] at e <;> cases e
    | sub i p x y => rcases hf.atom _ (rfl : (AV.sub i p x y).ref = true) with h | h <;> rw [h] at e <;> cases e
    | _ => rw [hf.plain _ rfl] at e; cases e
  intro j
  induction j with
  | zero =>
    intro l
    cases l with
    | cons a b => rw [hf.cons]; rfl
    | _ => rw [nope (hn _ (by intro a b e; cases e)), nope (by intro a b e; cases e)]; rfl
  | succ j ih =>
    intro l
    cases l with
    | cons a b => rw [hf.cons]; exact ih
    | _ => rw [nope (hn _ (by intro a b e; cases e)), nope (by intro a b e; cases e)]; rfl

theorem vwB_eq (o : Oper) : (∀ v, vwB o v = v) ∨ (o.guard = none ∧ ∃ x j, o.op = .extract x j ∧ ∀ v, vwB o v = (match v with
    | .tup l => (match aop.nth j l with
      | some v => .tup (.cons v .nil)
      | none => .any)
    | _ => .any)) := by
  unfold vwB
  split
  · rename_i x j hg ho; exact .inr ⟨hg, x, j, ho, fun _ => rfl⟩
  · exact .inl fun _ => rfl

theorem vwB_trim {T : List Nat} {f : AV → AV} (hf : Trim T f) (o : Oper) (v : AV) : vwB o (f v) = f (vwB o v) := by
  rcases vwB_eq o with h | ⟨_, x, j, _, h⟩
  · rw [h, h]
  · rw [h, h]
    have hany : f .any = .any := hf.plain _ rfl
    cases v with
    | tup l =>
      rw [hf.tup]
      simp only [trim_nth hf]
      cases hn : aop.nth j l with
      | none => exact hany.symm
      | some u =>
        show AV.tup (.cons (f u) .nil) = f (.tup (.cons u .nil))
        rw [hf.tup, hf.cons, hf.plain .nil rfl]
    | cons a b => rw [hf.cons]; exact hany.symm
    | clo g l => rw [hf.clo]; exact hany.symm
    | bx l => rw [hf.bx]; exact hany.symm
    | ptr i p => rcases hf.atom _ (rfl : (AV.ptr i p).ref = true) with e | e <;> rw [e] <;> exact hany.symm
    | at_ i p => rcases hf.atom _ (rfl : (AV.at_ i p).ref = true) with e | e <;> rw [e] <;> exact hany.symm
    | sub i p x y => rcases hf.atom _ (rfl : (AV.sub i p x y).ref = true) with e | e <;> rw [e] <;> exact hany.symm
    | _ => rw [hf.plain _ rfl]; try exact hany.symm

theorem vwB_ment {o : Oper} {v : AV} {i : Nat} (h : (vwB o v).ment i = true) : v.ment i = true := by
  rcases vwB_eq o with e | ⟨_, x, j, _, e⟩
  · rwa [e] at h
  · rw [e] at h
    split at h
    · rename_i l
      split at h
      · rename_i u hu
        have : u.ment i = true := by simpa [AV.ment] using h
        show l.ment i = true
        exact nth_ment hu this
      · cases h
    · cases h

/-- two states alike in what an operation sees of slots -/
def AgreeV (o : Oper) (s t : St) (L : List Nat) : Prop := ∀ m ∈ L, vwB o (t.get m) = vwB o (s.get m) ∧ ∀ i, (vwB o (s.get m)).ment i = true → t.obj i = s.obj i

theorem AgreeV.plain {o : Oper} (h : ∀ v, vwB o v = v) {s t : St} {L : List Nat} (ha : AgreeV o s t L) : AgreeS s t L := fun m hm => by
  have := ha m hm
  simpa only [h] using this
theorem Eqv.agreeV {s t : St} (h : Eqv s t) (o : Oper) (L : List Nat) : AgreeV o s t L := fun m _ => ⟨by rw [h.get m], fun i _ => (h.2 i).symm⟩

/-- what a step does -/
def Eff (o : Oper) (run : St → Option (Prop × St)) (d : Option Nat) (L T : List Nat) (s : St) (p : Prop) : Prop :=
  ∃ v ids f h, Trim T f ∧ NewIds s ids ∧ (∀ n ∈ ids, n % 1000 = (d.getD 0) % 1000) ∧
    (∀ i, v.ment i = true → (∃ m ∈ L, (vwB o (s.get m)).ment i = true) ∨ i ∈ ids) ∧
    ∀ t, uniq t.fr → AgreeV o s t L → NewIds t ids → ∃ t1, run t = some (p, t1) ∧ uniq t1.fr ∧ Put t t1 d T ids f h v

section
variable {E : Env} {ops : Array Oper} {s t : St}

theorem runR_eff {o : Oper} {p : Prop} {s1 : St} (h : runR E o s = some (p, s1)) {L : List Nat} (hL : ∀ m, Operand.tmp m ∈ o.op.operands.toList → m ∈ L) : Eff o (runR E o) o.dst L (takes E o s) s p := by
  rcases vwB_eq o with hvw | ⟨hgn, x, j, hop, hvw⟩
  rotate_left
  · have hd : dstOk E.nt o.dst = true := by
      unfold runR at h
      split at h
      · cases h
      · assumption
    have hr : ∀ t, runR E o t = (match (match t.ev x with | .tup l => (match aop.nth j l with | some v => OR.ok v t | none => .fail "extract") | _ => .fail "extract").get with | none => none | some (p, v, s') => some (p, s'.put o.dst v)) := by
      intro t
      unfold runR aop
      rw [hd, hop]
      rfl
    have hT : takes E o s = [] := by unfold takes; rw [hop]
    rw [hT]
    rw [hr] at h
    have key : ∃ m l v, x = .tmp m ∧ s.get m = .tup l ∧ aop.nth j l = some v ∧ p = True := by
      cases x with
      | tmp m =>
        cases hv : s.get m with
        | tup l =>
          have hv' : s.ev (.tmp m) = .tup l := hv
          rw [hv'] at h
          cases hn : aop.nth j l with
          | some v =>
            simp only [hn, OR.get, Option.some.injEq, Prod.mk.injEq] at h
            exact ⟨m, l, v, rfl, hv, hn, h.1.symm⟩
          | none => simp only [hn, OR.get] at h; cases h
        | _ =>
          have hv' : s.ev (.tmp m) = _ := hv
          rw [hv'] at h
          cases h
      | const c =>
        exfalso
        have : ∀ l, s.ev (.const c) ≠ .tup l := by
          intro l e
          simp only [St.ev] at e
          unfold ofConst at e
          repeat' split at e
          all_goals cases e
        revert h
        cases hv : s.ev (.const c) with
        | tup l => exact absurd hv (this l)
        | _ => intro h; cases h
      | global g => cases h
      | func f => cases h
    obtain ⟨m, l, v, rfl, hm, hn, rfl⟩ := key
    have hmL : m ∈ L := hL m (by rw [hop]; simp [Op.operands])
    have hvm : vwB o (s.get m) = .tup (.cons v .nil) := by rw [hvw, hm]; simp only [hn]
    refine ⟨v, [], fun u => u, fun _ => none, Trim.id _, by simp [NewIds], by simp, fun i hi => .inl ⟨m, hmL, by rw [hvm]; simpa [AV.ment] using hi⟩, fun t hu ha _ => ?_⟩
    have e1 := (ha m hmL).1
    rw [hvm, hvw] at e1
    have htv : ∃ l', t.get m = .tup l' ∧ aop.nth j l' = some v := by
      split at e1
      · rename_i l' hl'
        split at e1
        · rename_i v' hv'
          cases e1
          exact ⟨l', hl', hv'⟩
        · cases e1
      · cases e1
    obtain ⟨l', f1, f2⟩ := htv
    have hte : t.ev (.tmp m) = .tup l' := f1
    exact ⟨t.put o.dst v, by rw [hr, hte]; simp only [f2]; rfl, uniq_putS hu, ⟨fun n => by rw [look_putS]; simp, fun i => by rw [hp_putS]; simp⟩⟩
  have hvS : ∀ {t : St}, AgreeV o s t L → AgreeS s t L := fun ha => ha.plain hvw
  by_cases hp : ∃ a b c, o.op = .pick a b c
  · obtain ⟨c, a, b, ho⟩ := hp
    have hd : dstOk E.nt o.dst = true := by
      unfold runR at h
      split at h
      · cases h
      · assumption
    have hr : ∀ t, runR E o t = (match t.ev c with | .val .bool g => some (True, t.put o.dst (match g with | true => t.ev a | false => t.ev b)) | _ => none) := by
      intro t
      unfold runR
      rw [hd, ho]
      rfl
    have hT : takes E o s = [] := by unfold takes; rw [ho]
    rw [hT]
    rw [hr] at h
    have hops : o.op.operands.toList = [c, a, b] := by rw [ho]; rfl
    rw [hops] at hL
    have key : ∃ g : Bool, s.ev c = .val .bool g := by
      split at h
      · exact ⟨_, by assumption⟩
      · cases h
    obtain ⟨g, hg⟩ := key
    rw [hg] at h
    simp only [Option.some.injEq, Prod.mk.injEq] at h
    obtain ⟨rfl, rfl⟩ := h
    refine ⟨(if g = true then s.ev a else s.ev b), [], fun u => u, fun _ => none, Trim.id _, by simp [NewIds], by simp, ?_, ?_⟩
    · intro i hi
      cases g with
      | true => obtain ⟨m, hm, hi⟩ := ev_ment hi; exact .inl ⟨m, hL m (by simp [← hm]), by rw [hvw]; exact hi⟩
      | false => obtain ⟨m, hm, hi⟩ := ev_ment hi; exact .inl ⟨m, hL m (by simp [← hm]), by rw [hvw]; exact hi⟩
    · intro t hu ha _
      have hag := (hvS ha).agree hL
      have e1 := (hag c (by simp)).1
      have e2 := (hag a (by simp)).1
      have e3 := (hag b (by simp)).1
      refine ⟨_, by rw [hr, e1, hg, e2, e3], uniq_putS hu, ⟨fun n => by rw [look_putS]; cases g <;> simp, fun i => by rw [hp_putS]; simp⟩⟩
  · have hp' : ∀ a b c, o.op ≠ .pick a b c := fun a b c e => hp ⟨a, b, c, e⟩
    have hd : dstOk E.nt o.dst = true := by
      unfold runR at h
      split at h
      · cases h
      · assumption
    have hr : ∀ t, runR E o t = (match (aop E o t).get with | none => none | some (p, v, s') => some (p, s'.put o.dst v)) := by
      intro t
      unfold runR
      rw [hd]
      cases ho : o.op <;> first | rfl | exact absurd ho (hp' _ _ _)
    rw [hr] at h
    split at h
    · cases h
    · rename_i p' v s' hg
      cases h
      obtain ⟨ids, f, h, k1, k2, k3, k4, k5⟩ := aop_loc hp' hg
      refine ⟨v, ids, f, h, k1, k2, k3, ?_, ?_⟩
      · intro i hi
        rcases k4 i hi with ⟨x, hx, hm⟩ | hm
        · obtain ⟨m, rfl, hm⟩ := ev_ment hm
          exact .inl ⟨m, hL m hx, by rw [hvw]; exact hm⟩
        · exact .inr hm
      · intro t hu ha hf
        obtain ⟨t1, e1, e2, e3⟩ := k5 t hu ((hvS ha).agree hL) hf
        exact ⟨t1.put o.dst v, by rw [hr, e1], uniq_putS e2, ⟨fun n => by rw [look_putS, e3.fr], fun i => by rw [hp_putS, e3.hp]⟩⟩

theorem put_same {g : Nat} {v : AV} (hv : s.get g = v) (hn : v ≠ .any) : Eqv s (s.put (some g) v) := by
  refine ⟨fun n => ?_, fun i => rfl⟩
  rw [look_putS]
  split
  · rename_i e
    cases e
    simp only [St.get] at hv
    cases hl : look g s.fr with
    | none => rw [hl] at hv; exact absurd hv.symm hn
    | some w => rw [hl] at hv; simp at hv; rw [hv]
  · rfl

theorem looks_op {o : Oper} {m : Nat} (hm : Operand.tmp m ∈ o.op.operands.toList) : m ∈ looks ops o := List.mem_append_left _ (List.mem_filterMap.2 ⟨_, hm, rfl⟩)

theorem takes_look {o : Oper} {i : Nat} (hi : i ∈ takes E o s) : ∃ m ∈ looks ops o, (s.get m).ment i = true := by
  obtain ⟨x, hx, hm⟩ := takes_ment hi
  obtain ⟨m, rfl, hm⟩ := ev_ment hm
  exact ⟨m, looks_op hx, hm⟩

theorem takes_get {o : Oper} (h : ∀ m ∈ looks ops o, t.get m = s.get m) : takes E o t = takes E o s :=
  takes_st (fun x hx => by
    cases x with
    | tmp m => exact h m (looks_op hx)
    | _ => rfl)

theorem takes_lookV {o : Oper} {i : Nat} (hi : i ∈ takes E o s) : ∃ m ∈ looks ops o, (vwB o (s.get m)).ment i = true := by
  rcases vwB_eq o with h | ⟨_, x, j, hop, _⟩
  · obtain ⟨m, hm, hmi⟩ := takes_look (ops := ops) hi
    exact ⟨m, hm, by rw [h]; exact hmi⟩
  · unfold takes at hi; rw [hop] at hi; cases hi

theorem takes_getV {o : Oper} (h : ∀ m ∈ looks ops o, vwB o (t.get m) = vwB o (s.get m)) : takes E o t = takes E o s := by
  rcases vwB_eq o with e | ⟨_, x, j, hop, _⟩
  · exact takes_get (fun m hm => by have := h m hm; simpa only [e] using this)
  · unfold takes; rw [hop]

theorem place_eff {o : Oper} (_hu : uniq s.fr) {p : Prop} {s1 : St} (h : placeR E ops o s = some (p, s1)) : Eff o (placeR E ops o) o.dst (looks ops o) (takes E o s) s p := by
  have hL : ∀ m, Operand.tmp m ∈ o.op.operands.toList → m ∈ looks ops o := fun m hm => looks_op hm
  cases hg : o.guard with
  | none =>
    have hr : ∀ t, placeR E ops o t = runR E o t := fun t => by unfold placeR; rw [hg]
    rw [hr] at h
    have := runR_eff h hL
    rwa [← (funext hr : placeR E ops o = runR E o)] at this
  | some jw =>
    obtain ⟨j, want⟩ := jw
    have hvw : ∀ v, vwB o v = v := by
      rcases vwB_eq o with e | ⟨hgn, _⟩
      · exact e
      · rw [hg] at hgn; cases hgn
    have hvS : ∀ {t : St} {L : List Nat}, AgreeV o s t L → AgreeS s t L := fun ha => ha.plain hvw
    cases hs : guardSlot ops j with
    | none => unfold placeR at h; rw [hg] at h; simp [hs] at h
    | some g =>
      have hgL : g ∈ looks ops o := by unfold looks; rw [hg]; simp [hs]
      have hr : ∀ t, placeR E ops o t = (match t.get g with
        | .raw (.tuple _) => match dstOk E.nt o.dst with
          | true => some (True, t.put o.dst (.raw undef))
          | false => none
        | .val .bool b => match dstOk E.nt o.dst with
          | false => none
          | true => match b == want with
            | true => runR E o (t.put (some g) (.val .bool b))
            | false => some (True, (t.put (some g) (.val .bool b)).put o.dst (.raw undef))
        | _ => none) := fun t => by unfold placeR; rw [hg]; dsimp only; rw [hs]; rfl
      have skip : (∀ t, uniq t.fr → t.get g = s.get g → ∃ t1, placeR E ops o t = some (True, t1) ∧ uniq t1.fr ∧ Eqv t1 (t.put o.dst (.raw undef))) → Eff o (placeR E ops o) o.dst (looks ops o) (takes E o s) s True := by
        intro hrun
        refine ⟨.raw undef, [], fun u => u, fun i => look i s.hp, Trim.id _, by simp [NewIds], by simp, fun i hi => by simp [AV.ment] at hi, fun t hut ha _ => ?_⟩
        have ha := hvS ha
        obtain ⟨t1, e1, e2, e3⟩ := hrun t hut (ha g hgL).1
        refine ⟨t1, e1, e2, ⟨fun n => by rw [e3.1, look_putS]; simp, fun i => ?_⟩⟩
        rw [e3.2, hp_putS]
        split
        · rename_i hi
          obtain ⟨m, hm, hmi⟩ := takes_look (ops := ops) (by simpa using hi : i ∈ takes E o s)
          exact (ha m hm).2 i hmi
        · rfl
      rw [hr] at h
      cases hv : s.get g with
      | raw w =>
        rw [hv] at h
        cases w with
        | tuple vs =>
          simp only at h
          cases hd : dstOk E.nt o.dst with
          | false => rw [hd] at h; cases h
          | true =>
            rw [hd] at h
            simp only [Option.some.injEq, Prod.mk.injEq] at h
            obtain ⟨rfl, rfl⟩ := h
            exact skip (fun t hut ht => ⟨_, by rw [hr, ht, hv]; simp only [hd], uniq_putS hut, Eqv.refl _⟩)
        | _ => cases h
      | val u b =>
        rw [hv] at h
        cases u with
        | bool =>
          simp only at h
          cases hd : dstOk E.nt o.dst with
          | false => rw [hd] at h; cases h
          | true =>
            rw [hd] at h
            simp only at h
            cases hb : (b == want) with
            | false =>
              rw [hb] at h
              simp only [Option.some.injEq, Prod.mk.injEq] at h
              obtain ⟨rfl, rfl⟩ := h
              exact skip (fun t hut ht => ⟨_, by rw [hr, ht, hv]; simp only [hd, hb], uniq_putS (uniq_putS hut), ((put_same (ht.trans hv) (by simp)).symm.put _ _)⟩)
            | true =>
              rw [hb] at h
              simp only at h
              have hsame := put_same hv (by simp)
              obtain ⟨v, ids, f, hh, k1, k2, k3, k4, k5⟩ := runR_eff h hL
              have hTe : takes E o (s.put (some g) (.val .bool b)) = takes E o s := takes_st (fun x _ => (hsame.ev x).symm)
              rw [hTe] at k1 k5
              refine ⟨v, ids, f, hh, k1, k2.eqv hsame.symm, k3, ?_, ?_⟩
              · intro i hi
                rcases k4 i hi with ⟨m, hm, hmi⟩ | hm
                · exact .inl ⟨m, hm, by rw [hsame.get]; exact hmi⟩
                · exact .inr hm
              · intro t hut ha hf
                have ha := hvS ha
                have htg : t.get g = .val .bool b := (ha g hgL).1.trans hv
                have hst := put_same htg (by simp)
                obtain ⟨t1, e1, e2, e3⟩ := k5 (t.put (some g) (.val .bool b)) (uniq_putS hut) (fun m hm => by
                  rw [← hst.get, ← hsame.get, hvw, hvw]
                  refine ⟨(ha m hm).1, fun i hi => ?_⟩
                  have := (ha m hm).2 i hi
                  simpa [St.obj, hp_putS] using this) (hf.eqv hst)
                refine ⟨t1, by rw [hr, htg]; simp only [hd, hb, e1], e2, e3.eqv hst.symm⟩
        | _ => cases h
      | _ => rw [hv] at h; cases h

/-- steps of states that are alike -/
theorem place_eqv {o : Oper} (hu : uniq s.fr) (he : Eqv s t) (ht : uniq t.fr) {p : Prop} {s1 : St} (h : placeR E ops o s = some (p, s1)) : ∃ t1, placeR E ops o t = some (p, t1) ∧ uniq t1.fr ∧ Eqv s1 t1 := by
  obtain ⟨v, ids, f, hh, k1, k2, k3, k4, k5⟩ := place_eff hu h
  obtain ⟨s1', e1, _, e3⟩ := k5 s hu ((Eqv.refl s).agreeV _ _) k2
  rw [h] at e1; cases e1
  obtain ⟨t1, f1, f2, f3⟩ := k5 t ht (he.agreeV _ _) (k2.eqv he)
  exact ⟨t1, f1, f2, e3.det f3 he⟩

theorem place_uniq {o : Oper} (hu : uniq s.fr) {p : Prop} {s1 : St} (h : placeR E ops o s = some (p, s1)) : uniq s1.fr := by
  obtain ⟨t1, h1, h2, _⟩ := place_eqv hu (Eqv.refl s) hu h
  rw [h] at h1; cases h1; exact h2

theorem clean_ment : ∀ {v : AV} {i : Nat}, v.clean = true → v.ment i = false := by
  intro v
  induction v with
  | cons a b iha ihb =>
    intro i h
    simp only [AV.clean, Bool.and_eq_true] at h
    simp [AV.ment, iha h.1, ihb h.2]
  | tup l ih => intro i h; exact ih h
  | clo f l ih => intro i h; exact ih h
  | bx l ih => intro i h; exact ih h
  | ptr i p => intro i h; cases h
  | at_ i p => intro i h; cases h
  | sub i p a b => intro i h; cases h
  | _ => intro i h; rfl

theorem place_clean {o : Oper} (hu : uniq s.fr) {p : Prop} {s1 : St} (h : placeR E ops o s = some (p, s1)) {m : Nat} (hm : o.dst ≠ some m) (hc : (s.get m).clean = true) : (s1.get m).clean = true := by
  obtain ⟨v, ids, f, hh, k1, k2, k3, k4, k5⟩ := place_eff hu h
  obtain ⟨s1', e1, _, e3⟩ := k5 s hu ((Eqv.refl s).agreeV _ _) k2
  rw [h] at e1; cases e1
  rw [e3.get k1 hm, k1.fix _ (fun i _ => clean_ment hc)]
  exact hc

end
end Go.Ex

namespace Go.Ex

section
variable {E : Env} {ops : Array Oper} {s t : St}

theorem get_some {m : Nat} {v : AV} (h : look m s.fr = some v) : s.get m = v := by simp [St.get, h]
theorem get_ment {m i : Nat} (h : (s.get m).ment i = true) : ∃ v, look m s.fr = some v ∧ v.ment i = true := by
  simp only [St.get] at h
  cases hl : look m s.fr with
  | none => rw [hl] at h; cases h
  | some v => rw [hl] at h; exact ⟨v, rfl, h⟩

theorem indep_spec {x y : Oper} (h : indep ops x y = true) : (∀ d, x.dst = some d → d ∉ looks ops y) ∧ (∀ d, y.dst = some d → d ∉ looks ops x) ∧ (x.dst.getD 0) % 1000 ≠ (y.dst.getD 0) % 1000 := by
  simp only [indep, Bool.and_eq_true, Bool.not_eq_true', apartB] at h
  obtain ⟨⟨h3, h4⟩, h5⟩ := h
  refine ⟨?_, ?_, fun e => ?_⟩
  · intro d hd
    rw [hd] at h3
    simp only [Bool.and_eq_true, Bool.not_eq_true'] at h3
    intro hm
    have := h3.1
    simp [hm] at this
  · intro d hd
    rw [hd] at h4
    simp only [Bool.not_eq_true'] at h4
    intro hm
    simp [hm] at h4
  · rw [e] at h5
    simp at h5

theorem new_ment {ids : List Nat} (hn : NewIds s ids) {n m : Nat} (h : n ∈ ids) : (s.get m).ment n = false := by
  cases hm : (s.get m).ment n with
  | false => rfl
  | true =>
    obtain ⟨v, hv, hvi⟩ := get_ment hm
    rw [(hn n h).2 m v hv] at hvi; cases hvi

theorem ref_one {u : AV} (hr : u.ref = true) {i j : Nat} (h1 : u.ment i = true) (h2 : u.ment j = true) : i = j := by
  cases u <;> simp only [AV.ref] at hr <;> first | (cases hr; done) | (simp only [AV.ment] at h1 h2; exact (Nat.eq_of_beq_eq_true h1).trans (Nat.eq_of_beq_eq_true h2).symm)

theorem plain_ment {u : AV} (h : u.plain = true) {i : Nat} : u.ment i = false := by
  cases u <;> simp only [AV.plain] at h <;> first | rfl | (cases h; done)

theorem Trim.stay {T : List Nat} {f : AV → AV} (hf : Trim T f) {n : Nat} (hn : n ∉ T) : ∀ u : AV, u.ment n = true → (f u).ment n = true := by
  refine AV.shape _ (fun u hu h => ?_) (fun u hu h => ?_) ?_ ?_ ?_ ?_
  · rw [plain_ment hu] at h; cases h
  · rw [hf.keep u hu (fun i hi => ?_)]
    · exact h
    · cases hm : u.ment i with
      | false => rfl
      | true => exact absurd (ref_one hu hm h ▸ hi) hn
  · intro a b ha hb h
    rw [hf.cons]
    simp only [AV.ment, Bool.or_eq_true] at h ⊢
    exact h.imp ha hb
  · intro l hl h; rw [hf.tup]; exact hl h
  · intro k l hl h; rw [hf.clo]; exact hl h
  · intro l hl h; rw [hf.bx]; exact hl h

/-- two operations that do not touch one another, the other way round -/
theorem swap {x y : Oper} (hi : indep ops x y = true) (hu : uniq s.fr) (hx : ∀ d, x.dst = some d → (s.get d).clean = true) {p q : Prop} {s1 s2 : St} (h1 : placeR E ops x s = some (p, s1)) (h2 : placeR E ops y s1 = some (q, s2))
    (hP : PairP ops x s (takes E x s) y (takes E y s1)) :
    ∃ s1' s2', placeR E ops y s = some (q, s1') ∧ placeR E ops x s1' = some (p, s2') ∧ uniq s1'.fr ∧ uniq s2'.fr ∧ Eqv s2' s2 ∧ takes E y s = takes E y s1 ∧ takes E x s1' = takes E x s ∧
      (∀ m ∈ looks ops x, vwB x (s1'.get m) = vwB x (s.get m)) ∧ ∀ (z : Oper) m, ∀ i ∈ takes E x s, (vwB z (s1'.get m)).ment i = true → (vwB z (s.get m)).ment i = true := by
  obtain ⟨ax, ay, hmod⟩ := indep_spec hi
  obtain ⟨P1, P2, P3⟩ := hP
  have hu1 := place_uniq hu h1
  obtain ⟨v, ids, f, g, k1, k2, k3, k4, k5⟩ := place_eff hu h1
  obtain ⟨_, e1, _, hs1⟩ := k5 s hu ((Eqv.refl s).agreeV _ _) k2
  rw [h1] at e1; cases e1
  obtain ⟨v', ids', f', g', m1, m2, m3, m4, m5⟩ := place_eff hu1 h2
  obtain ⟨_, e2, _, hs2⟩ := m5 s1 hu1 ((Eqv.refl s1).agreeV _ _) m2
  rw [h2] at e2; cases e2
  have hdd : ∀ d, x.dst = some d → y.dst = some d → False := fun d e1 e2 => hmod (by rw [e1, e2])
  -- what y looks at has not turned
  have hget : ∀ m ∈ looks ops y, vwB y (s1.get m) = vwB y (s.get m) := by
    intro m hm
    rw [hs1.get k1 (fun e => ax m e hm), vwB_trim k1, k1.fix _ (fun i hi => P1 m hm i hi)]
  have hTy : takes E y s = takes E y s1 := (takes_getV hget).symm
  have hTy2 : ∀ i ∈ takes E y s1, ∃ m ∈ looks ops y, (vwB y (s.get m)).ment i = true := by
    intro i hi
    obtain ⟨m, hm, hmi⟩ := takes_lookV (ops := ops) hi
    exact ⟨m, hm, by rw [← hget m hm]; exact hmi⟩
  have d1 : ∀ i ∈ takes E x s, i ∉ takes E y s1 := by
    intro i hi hj
    obtain ⟨m, hm, hmi⟩ := hTy2 i hj
    rw [P1 m hm i hi] at hmi; cases hmi
  have d2 : ∀ i ∈ ids, i ∉ takes E y s1 := by
    intro i hi hj
    obtain ⟨m, hm, hmi⟩ := hTy2 i hj
    have hmi := vwB_ment hmi
    rw [new_ment k2 hi] at hmi; cases hmi
  have d3 : ∀ i ∈ takes E x s, i ∉ ids' := fun i hi hj => P3 i hi (m3 i hj)
  have d4 : ∀ i ∈ ids, i ∉ ids' := fun i hi hj => hmod ((k3 i hi).symm.trans (m3 i hj))
  have hlook : ∀ i, i ∉ takes E x s → i ∉ ids → look i s1.hp = look i s.hp := fun i h1 h2 => by rw [hs1.hp, if_neg (by rintro (h | h); exact h1 h; exact h2 h)]
  have hag : AgreeV y s1 s (looks ops y) := by
    intro m hm
    refine ⟨(hget m hm).symm, fun i hi => ?_⟩
    rw [hget m hm] at hi
    refine (hlook i (fun h => ?_) (fun h => ?_)).symm
    · rw [P1 m hm i h] at hi; cases hi
    · have hi := vwB_ment hi
      rw [new_ment k2 h] at hi; cases hi
  have hfr' : NewIds s ids' := by
    intro n hn
    refine ⟨?_, fun m w hw => ?_⟩
    · rw [← hlook n (fun h => d3 n h hn) (fun h => d4 n h hn)]; exact (m2 n hn).1
    · by_cases hd : x.dst = some m
      · have := hx m hd
        rw [get_some hw] at this
        exact clean_ment this
      · cases hwn : w.ment n with
        | false => rfl
        | true =>
          have := k1.stay (fun h => d3 n h hn) w hwn
          have h3 := (m2 n hn).2 m (f w) (by rw [hs1.fr, if_neg hd, hw]; rfl)
          rw [this] at h3; cases h3
  obtain ⟨s1', f1, fu, hs1'⟩ := m5 s hu hag hfr'
  have hget2 : ∀ m ∈ looks ops x, vwB x (s1'.get m) = vwB x (s.get m) := by
    intro m hm
    rw [hs1'.get m1 (fun e => ay m e hm), vwB_trim m1, m1.fix _ (fun i hi => P2 m hm i hi)]
  have hag2 : AgreeV x s s1' (looks ops x) := by
    intro m hm
    refine ⟨hget2 m hm, fun i hi => ?_⟩
    show look i s1'.hp = look i s.hp
    rw [hs1'.hp, if_neg]
    rintro (h | h)
    · rw [P2 m hm i h] at hi; cases hi
    · have hi := vwB_ment hi
      rw [new_ment hfr' h] at hi; cases hi
  -- what y yields speaks of nothing that x takes or lays
  have hv' : ∀ i, v'.ment i = true → i ∉ takes E x s ∧ i ∉ ids := by
    intro i hi
    rcases m4 i hi with ⟨m, hm, hmi⟩ | hmi
    · rw [hget m hm] at hmi
      refine ⟨fun h => ?_, fun h => ?_⟩
      · rw [P1 m hm i h] at hmi; cases hmi
      · have hmi := vwB_ment hmi
        rw [new_ment k2 h] at hmi; cases hmi
    · exact ⟨fun h => d3 i h hmi, fun h => d4 i h hmi⟩
  have hv : ∀ i, v.ment i = true → i ∉ takes E y s1 := by
    intro i hi
    rcases k4 i hi with ⟨m, hm, hmi⟩ | hmi
    · exact fun h => by rw [P2 m hm i h] at hmi; cases hmi
    · exact d2 i hmi
  have hfr2 : NewIds s1' ids := by
    intro n hn
    refine ⟨?_, fun m w hw => ?_⟩
    · rw [hs1'.hp, if_neg]
      · exact (k2 n hn).1
      · rintro (h | h)
        · exact d2 n hn h
        · exact d4 n hn h
    · rw [hs1'.fr] at hw
      split at hw
      · cases hw
        cases hm : v'.ment n with
        | false => rfl
        | true => exact absurd hn (hv' n hm).2
      · cases hl : look m s.fr with
        | none => rw [hl] at hw; cases hw
        | some u =>
          rw [hl] at hw
          cases hw
          cases hm : (f' u).ment n with
          | false => rfl
          | true => have := m1.ment u hm; rw [(k2 n hn).2 m u hl] at this; cases this
  obtain ⟨s2', g1, gu, hs2'⟩ := k5 s1' fu hag2 hfr2
  refine ⟨s1', s2', f1, g1, fu, gu, ⟨fun n => ?_, fun i => ?_⟩, hTy, takes_getV hget2, hget2, ?_⟩
  · rw [hs2'.fr, hs2.fr, hs1'.fr, hs1.fr]
    by_cases a : x.dst = some n
    · rw [if_pos a, if_neg (fun b => hdd n a b), if_pos a, Option.map_some, m1.fix v]
      intro i hi
      cases hm : v.ment i with
      | false => rfl
      | true => exact absurd hi (hv i hm)
    · rw [if_neg a, if_neg a]
      by_cases b : y.dst = some n
      · rw [if_pos b, if_pos b, Option.map_some, k1.fix v']
        intro i hi
        cases hm : v'.ment i with
        | false => rfl
        | true => exact absurd hi (hv' i hm).1
      · rw [if_neg b, if_neg b, Option.map_map, Option.map_map]
        congr 1
        funext u
        exact k1.comm m1 u
  · rw [hs2'.hp, hs2.hp, hs1'.hp, hs1.hp]
    by_cases a : i ∈ takes E x s ∨ i ∈ ids
    · rw [if_pos a, if_neg, if_pos a]
      rintro (b | b)
      · rcases a with a | a
        · exact d1 i a b
        · exact d2 i a b
      · rcases a with a | a
        · exact d3 i a b
        · exact d4 i a b
    · rw [if_neg a, if_neg a]
  · intro z m i hi hm
    by_cases b : y.dst = some m
    · have : s1'.get m = v' := get_some (by rw [hs1'.fr, if_pos b])
      rw [this] at hm
      exact absurd hi (hv' i (vwB_ment hm)).1
    · rw [hs1'.get m1 b, vwB_trim m1] at hm
      exact m1.ment _ hm

end
end Go.Ex

namespace Go.Ex

section
variable {E : Env} {ops : Array Oper} {M : Nat → Nat} {s t : St}

def rem (ops : Array Oper) (l : List Nat) : List Oper := l.filterMap fun i => ops[i]?

theorem rem_cons {i : Nat} {o : Oper} {l : List Nat} (h : ops[i]? = some o) : rem ops (i :: l) = o :: rem ops l := by simp [rem, h]
theorem rem_app {l m : List Nat} : rem ops (l ++ m) = rem ops l ++ rem ops m := by simp [rem, List.filterMap_append]

def CleanFor (s : St) (l : List Oper) : Prop := ∀ o ∈ l, ∀ d, o.dst = some d → (s.get d).clean = true

/-- no two write one slot -/
def Apart : List Oper → Prop
  | [] => True
  | o :: l => (∀ d, o.dst = some d → ∀ x ∈ l, x.dst ≠ some d) ∧ Apart l

theorem CleanFor.sub {l l' : List Oper} (h : CleanFor s l) (hs : ∀ o ∈ l', o ∈ l) : CleanFor s l' := fun o ho => h o (hs o ho)

/-- those but the text's last one -/
def nl (ops : Array Oper) (l : List Nat) : List Nat := l.filter (fun j => decide (j + 1 < ops.size))
theorem nl_app {l m : List Nat} : nl ops (l ++ m) = nl ops l ++ nl ops m := by simp [nl]
theorem nl_pre {l : List Nat} {i : Nat} (hi : i < ops.size) (h : ∀ j ∈ l, j < i) : nl ops l = l :=
  List.filter_eq_self.2 (fun j hj => by have := h j hj; simp; omega)
theorem nl_sub {l : List Nat} : ∀ o ∈ rem ops (nl ops l), o ∈ rem ops l := fun o ho => by
  obtain ⟨j, h1, h2⟩ := List.mem_filterMap.1 ho
  exact List.mem_filterMap.2 ⟨j, (List.mem_filter.1 h1).1, h2⟩

theorem CleanFor.step {o : Oper} {l : List Oper} (hu : uniq s.fr) (hc : CleanFor s l) (hd : ∀ x ∈ l, ∀ d, x.dst = some d → o.dst ≠ some d) {p : Prop} {s1 : St} (h : placeR E ops o s = some (p, s1)) : CleanFor s1 l :=
  fun x hx d hxd => place_clean hu h (hd x hx d hxd) (hc x hx d hxd)

/-- earlier operations, the state of each as good as it was -/
def AsGood (E : Env) (ops : Array Oper) (acc acc' : List (Nat × St)) : Prop :=
  ∀ e' ∈ acc', ∃ e ∈ acc, e.1 = e'.1 ∧ ∀ x, ops[e.1]? = some x → (∀ m ∈ looks ops x, vwB x (e'.2.get m) = vwB x (e.2.get m)) ∧ takes E x e'.2 = takes E x e.2 ∧ ∀ (z : Oper) m, ∀ k ∈ takes E x e.2, (vwB z (e'.2.get m)).ment k = true → (vwB z (e.2.get m)).ment k = true

theorem PairP.good {x : Oper} {sx sx' : St} {y : Oper} {Ty Ty' : List Nat} (h : PairP ops x sx (takes E x sx) y Ty) (h1 : ∀ m ∈ looks ops x, vwB x (sx'.get m) = vwB x (sx.get m)) (h2 : takes E x sx' = takes E x sx) (h3 : ∀ (z : Oper) m, ∀ k ∈ takes E x sx, (vwB z (sx'.get m)).ment k = true → (vwB z (sx.get m)).ment k = true) (hT : Ty' = Ty) :
    PairP ops x sx' (takes E x sx') y Ty' := by
  subst hT
  obtain ⟨P1, P2, P3⟩ := h
  rw [h2]
  refine ⟨fun m hm i hi => ?_, fun m hm i hi => by rw [h1 m hm]; exact P2 m hm i hi, P3⟩
  cases hh : (vwB y (sx'.get m)).ment i with
  | false => rfl
  | true => have := h3 y m i hi hh; rw [P1 m hm i hi] at this; cases this

theorem takes_eqv {o : Oper} (h : Eqv s t) : takes E o t = takes E o s := takes_st (fun x _ => (h.ev x).symm)

theorem runsA_mono : ∀ {l : List Nat} {acc acc' : List (Nat × St)} {s t s' : St}, AsGood E ops acc acc' → uniq s.fr → Eqv s t → uniq t.fr → RunsA E ops M acc l s s' → ∃ t', RunsA E ops M acc' l t t' ∧ Eqv s' t'
  | [], acc, acc', s, t, s', _, _, he, _, h => ⟨t, rfl, by rw [← show s = s' from h]; exact he⟩
  | i :: l, acc, acc', s, t, s', hg, hu, he, ht, ⟨o, ho, hc, p, s1, h1, h2, h3⟩ => by
    obtain ⟨t1, k1, k2, k3⟩ := place_eqv hu he ht h1
    obtain ⟨t', m1, m2⟩ := runsA_mono (acc := (i, s) :: acc) (acc' := (i, t) :: acc') (fun e' he' => by
      rcases List.mem_cons.1 he' with rfl | he'
      · exact ⟨(i, s), by simp, rfl, fun x _ => ⟨fun m _ => by show vwB x (t.get m) = vwB x (s.get m); rw [he.get m], takes_eqv he, fun z m k _ hm => by have hm : (vwB z (t.get m)).ment k = true := hm; rw [← he.get m] at hm; exact hm⟩⟩
      · obtain ⟨e, h4, h5, h6⟩ := hg e' he'; exact ⟨e, by simp [h4], h5, h6⟩) (place_uniq hu h1) k3 k2 h3
    refine ⟨t', ⟨o, ho, fun e' he' => ?_, p, t1, k1, h2, m1⟩, m2⟩
    obtain ⟨e, h4, h5, h6⟩ := hg e' he'
    rw [← h5]
    rcases hc e h4 with h | ⟨x, hx, hP⟩
    · exact .inl h
    · obtain ⟨g1, g2, g3⟩ := h6 x hx
      exact .inr ⟨x, hx, hP.good g1 g2 g3 (takes_eqv he)⟩

/-- an operation that hangs on none of those ahead of it, taken first -/
theorem bubble {i : Nat} {o : Oper} (ho : ops[i]? = some o) {post : List Nat} : ∀ {pre : List Nat} {acc : List (Nat × St)} {s s' : St}, Apart (rem ops (pre ++ i :: post)) → (∀ j ∈ pre, (M i).testBit j = false ∧ ∀ x, ops[j]? = some x → indep ops x o = true) → uniq s.fr → CleanFor s (rem ops pre) →
    RunsA E ops M acc (pre ++ i :: post) s s' →
    ∃ p s1 s2, placeR E ops o s = some (p, s1) ∧ p ∧ RunsA E ops M acc (pre ++ post) s1 s2 ∧ Eqv s2 s' ∧ ∀ e ∈ acc, (M i).testBit e.1 = true ∨ ∃ x, ops[e.1]? = some x ∧ PairP ops x e.2 (takes E x e.2) o (takes E o s)
  | [], acc, s, s', _, _, hu, _, ⟨o', ho', hc, p, s1, h1, h2, h3⟩ => by
    rw [ho] at ho'; cases ho'
    obtain ⟨t', m1, m2⟩ := runsA_mono (acc := (i, s) :: acc) (acc' := acc) (fun e he => ⟨e, by simp [he], rfl, fun x _ => ⟨fun _ _ => rfl, rfl, fun _ _ _ _ h => h⟩⟩) (place_uniq hu h1) (Eqv.refl s1) (place_uniq hu h1) h3
    exact ⟨p, s1, t', h1, h2, m1, m2.symm, hc⟩
  | j :: pre, acc, s, s', hap, hin, hu, hcl, ⟨x, hx, hc, p, s1, h1, h2, h3⟩ => by
    have hu1 := place_uniq hu h1
    have er : rem ops (j :: pre ++ i :: post) = x :: rem ops (pre ++ i :: post) := rem_cons hx
    rw [er] at hap
    rw [rem_cons hx] at hcl
    have hdj : ∀ y ∈ rem ops pre, ∀ d, y.dst = some d → x.dst ≠ some d := fun y hy d hyd hxd => hap.1 d hxd y (by rw [rem_app]; exact List.mem_append_left _ hy) hyd
    have hcl1 : CleanFor s1 (rem ops pre) := CleanFor.step hu (fun y hy => hcl y (by simp [hy])) hdj h1
    obtain ⟨q, sa, sb, k1, k2, k3, k4, k5⟩ := bubble ho (pre := pre) (acc := (j, s) :: acc) hap.2 (fun y hy => hin y (by simp [hy])) hu1 hcl1 h3
    obtain ⟨hnb, hind⟩ := hin j (by simp)
    have hP : PairP ops x s (takes E x s) o (takes E o s1) := by
      rcases k5 (j, s) (by simp) with h | ⟨x', hx', hP⟩
      · rw [hnb] at h; cases h
      · have hx' : ops[j]? = some x' := hx'
        rw [hx] at hx'; cases hx'; exact hP
    obtain ⟨s1', s2', m1, m2, m3, m4, m5, m6, m7, m8, m9⟩ := swap (hind x hx) hu (fun d hd => hcl x (by simp) d hd) h1 k1 hP
    obtain ⟨t', n1, n2⟩ := runsA_mono (acc := (j, s) :: acc) (acc' := (j, s1') :: acc) (fun e' he' => by
      rcases List.mem_cons.1 he' with rfl | he'
      · refine ⟨(j, s), by simp, rfl, fun y hy => ?_⟩
        have hy : ops[j]? = some y := hy
        rw [hx] at hy; cases hy
        exact ⟨m8, m7, m9⟩
      · exact ⟨e', by simp [he'], rfl, fun y _ => ⟨fun _ _ => rfl, rfl, fun _ _ _ _ h => h⟩⟩) (place_uniq hu1 k1) m5.symm m4 k3
    refine ⟨q, s1', t', m1, k2, ⟨x, hx, fun e he => ?_, p, s2', m2, h2, n1⟩, n2.symm.trans k4, fun e he => ?_⟩
    · rcases hc e he with h | ⟨y, hy, hP⟩
      · exact .inl h
      · exact .inr ⟨y, hy, by rw [m7]; exact hP⟩
    · rcases k5 e (by simp [he]) with h | ⟨y, hy, hP⟩
      · exact .inl h
      · exact .inr ⟨y, hy, by rw [m6]; exact hP⟩

end
end Go.Ex

namespace Go.Ex

section
variable {E : Env} {ops : Array Oper} {B : Base} {S : Nat → Prop} {ι : Ix} {s : St} {a : Act} {w : World}

def idxs (n : Nat) (listed : Array Bool) : List Nat := (List.range n).filter fun i => !listed.getD i true

theorem mem_idxs {n i : Nat} {listed : Array Bool} : i ∈ idxs n listed ↔ i < n ∧ listed.getD i true = false := by
  simp [idxs]

theorem idxs_sorted (n : Nat) (listed : Array Bool) : (idxs n listed).Pairwise (· < ·) := List.Pairwise.filter _ List.pairwise_lt_range

theorem idxs_set {n i : Nat} {listed : Array Bool} (hs : listed.size = n) (hi : i < n) : idxs n (listed.setIfInBounds i true) = (idxs n listed).filter (fun k => !(k == i)) := by
  unfold idxs
  rw [List.filter_filter]
  refine List.filter_congr (fun k hk => ?_)
  by_cases e : k = i
  · subst e
    have : k < listed.size := by omega
    simp [this]
  · have : (listed.setIfInBounds i true).getD k true = listed.getD k true := getD_set_ne true (Ne.symm e)
    rw [this]
    simp [e]

theorem idxs_split {n i : Nat} {listed : Array Bool} (hi : i ∈ idxs n listed) : ∃ pre post, idxs n listed = pre ++ i :: post ∧ (∀ j ∈ pre, j < i) ∧ (idxs n listed).filter (fun k => !(k == i)) = pre ++ post := by
  obtain ⟨pre, post, e⟩ := List.append_of_mem hi
  have hp := idxs_sorted n listed
  rw [e, List.pairwise_append] at hp
  obtain ⟨h1, h2, h3⟩ := hp
  have hlt : ∀ j ∈ pre, j < i := fun j hj => h3 j hj i (by simp)
  have hgt : ∀ j ∈ post, i < j := fun j hj => (List.pairwise_cons.1 h2).1 j hj
  refine ⟨pre, post, e, hlt, ?_⟩
  rw [e, List.filter_append, List.filter_cons]
  simp only [beq_self_eq_true, Bool.not_true, Bool.false_eq_true, if_false]
  rw [List.filter_eq_self.2 (fun j hj => by have := hlt j hj; simp; omega), List.filter_eq_self.2 (fun j hj => by have := hgt j hj; simp; omega)]

/-- what the check gives -/
theorem draw_spec (h : drawOk ops = true) : ∀ i o, ops[i]? = some o → (∀ e ∈ o.after, Region.binds .any e = true → e.on < i) ∧
    (∀ j, j < ops.size → ((masksGo ops.toList []).getD i 0).testBit j = true → ∃ e ∈ o.after, Region.binds .any e = true ∧ (e.on = j ∨ ((masksGo ops.toList []).getD e.on 0).testBit j = true)) ∧
    (∀ j x, j < i → ops[j]? = some x → ((masksGo ops.toList []).getD i 0).testBit j = true ∨ indep ops x o = true) := by
  intro i o ho
  have hi : i < ops.toList.length := by
    have := (Array.getElem?_eq_some_iff.1 ho).1
    simpa using this
  simp only [drawOk, List.all_eq_true, List.mem_range] at h
  have h1 := h i hi
  have hl : ops.toList[i]? = some o := by simpa using ho
  rw [hl] at h1
  simp only [Bool.and_eq_true, List.all_eq_true, List.mem_range] at h1
  obtain ⟨⟨k1, k2⟩, k3⟩ := h1
  refine ⟨?_, ?_, ?_⟩
  · intro e he hb
    simp only [depOk, List.all_eq_true] at k1
    have := k1 e (by simpa using he)
    rw [hb] at this
    simpa [Nat.blt_eq] using this
  · intro j hj hm
    simp only [maskOk, List.all_eq_true, List.mem_range] at k2
    have := k2 j (by simpa using hj)
    rw [hm] at this
    simp only [Bool.not_true, Bool.false_or, List.any_eq_true, Bool.and_eq_true, Bool.or_eq_true] at this
    obtain ⟨e, he, hb, h3⟩ := this
    exact ⟨e, by simpa using he, hb, h3.imp Nat.eq_of_beq_eq_true id⟩
  · intro j x hj hx
    have := k3 j hj
    have hx' : ops.toList[j]? = some x := by simpa using hx
    rw [hx'] at this
    simpa using this

def ClosedL (ops : Array Oper) (listed : Array Bool) : Prop := ∀ k o, ops[k]? = some o → listed.getD k true = true → ∀ e ∈ o.after, Region.binds .any e = true → listed.getD e.on false = true

theorem getD_flip {listed : Array Bool} {k : Nat} (h : listed.getD k false = true) : listed.getD k true = true := by
  rcases Nat.lt_or_ge k listed.size with h' | h'
  · simp [h'] at h ⊢; exact h
  · simp [Array.getElem?_eq_none h'] at h

theorem anc_listed {M : Nat → Nat} (hM : ∀ i o, ops[i]? = some o → (∀ e ∈ o.after, Region.binds .any e = true → e.on < i) ∧ (∀ j, j < ops.size → (M i).testBit j = true → ∃ e ∈ o.after, Region.binds .any e = true ∧ (e.on = j ∨ (M e.on).testBit j = true)))
    {listed : Array Bool} (hc : ClosedL ops listed) : ∀ (i : Nat) (o : Oper), ops[i]? = some o → (∀ e ∈ o.after, Region.binds .any e = true → listed.getD e.on false = true) → ∀ j, j < ops.size → (M i).testBit j = true → listed.getD j false = true := by
  intro i
  induction i using Nat.strongRecOn with
  | _ i ih =>
    intro o ho hp j hj hm
    obtain ⟨e, he, hb, h3⟩ := (hM i o ho).2 j hj hm
    have hlt := (hM i o ho).1 e he hb
    rcases h3 with rfl | h3
    · exact hp e he hb
    · have hi : i < ops.size := (Array.getElem?_eq_some_iff.1 ho).1
      have hel : ops[e.on]? = some (ops[e.on]'(by omega)) := Array.getElem?_eq_getElem (by omega)
      exact ih e.on hlt _ hel (hc e.on _ hel (getD_flip (hp e he hb))) j hj h3

theorem drawn_sound (hE : EnvOk E) (hn : B.n = E.nt) (hd : drawOk ops = true) {Q : Exit → Act → World → Prop} {s0 : St} (hQ : ∀ S ι a w, RS B S ι s0 a w → Q .normal a w) :
    ∀ (fuel : Nat) (listed : Array Bool) (S : Nat → Prop) (ι : Ix) (s s' : St) (a : Act) (w : World), listed.size = ops.size → (idxs ops.size listed).length = fuel → ClosedL ops listed → Apart (rem ops (idxs ops.size listed)) → uniq s.fr → CleanFor s (rem ops (nl ops (idxs ops.size listed))) →
      RunsA E ops (fun i => (masksGo ops.toList []).getD i 0) [] (idxs ops.size listed) s s' → Eqv s' s0 → RS B S ι s a w → wpAny E.P .any ops Q fuel listed a w := by
  have hM := draw_spec hd
  have rs_eqv : ∀ {S : Nat → Prop} {ι : Ix} {s t : St} {a : Act} {w : World}, Eqv s t → RS B S ι s a w → RS B S ι t a w := by
    intro S ι s t a w he h
    have hvx : ∀ {v : AV} {vs : List Value}, VX w.heap S ι s.hp v vs → VX w.heap S ι t.hp v vs := by
      intro v vs hv
      exact VX.other (fun i _ => (he.2 i).symm) (fun i _ => SameAt.refl ι i) hv
    exact ⟨⟨h.hs.os, h.hs.tape, h.hs.out, h.hs.size, h.hs.frame, h.hs.slt, h.hs.s0, h.hs.s1, fun i e hi => h.hs.ob i e ((he.2 i).trans hi), fun i e hi => h.hs.bl i e ((he.2 i).trans hi), fun i j ei ej hi hj => h.hs.dj i j ei ej ((he.2 i).trans hi) ((he.2 j).trans hj), fun q hq => by obtain ⟨r1, ⟨e, r2⟩, r3⟩ := h.hs.pin q hq; exact ⟨r1, ⟨e, (he.2 q.1).symm.trans r2⟩, r3⟩⟩, h.dfr, h.sz,
      fun m v hv => hvx (h.fr m v ((he.1 m).trans hv))⟩
  intro fuel
  induction fuel with
  | zero =>
    intro listed S ι s s' a w hsz hlen hcl hap hu hcf hrun he hrs
    have hnil : idxs ops.size listed = [] := List.length_eq_zero_iff.1 hlen
    rw [hnil] at hrun
    have hss : s = s' := hrun
    subst hss
    refine ⟨?_, hQ S ι a w (rs_eqv he hrs)⟩
    rw [List.eq_nil_iff_forall_not_mem]
    intro i hi
    obtain ⟨h1, o, h2, _⟩ := mem_ready.1 hi
    have : i ∈ idxs ops.size listed := mem_idxs.2 ⟨(Array.getElem?_eq_some_iff.1 h2).1, h1⟩
    rw [hnil] at this
    cases this
  | succ fuel ih =>
    intro listed S ι s s' a w hsz hlen hcl hap hu hcf hrun he hrs
    refine ⟨fun hr => ?_, fun i hi => ?_⟩
    · exfalso
      cases hix : idxs ops.size listed with
      | nil => rw [hix] at hlen; cases hlen
      | cons i l =>
        have hmem : i ∈ idxs ops.size listed := by rw [hix]; simp
        obtain ⟨h1, h2⟩ := mem_idxs.1 hmem
        have ho : ops[i]? = some ops[i] := Array.getElem?_eq_getElem h1
        have : i ∈ Region.ready .any ops listed := by
          refine mem_ready.2 ⟨h2, ops[i], ho, fun e he hb => ?_⟩
          have hlt := (hM i _ ho).1 e he hb
          cases hle : listed.getD e.on true with
          | true =>
            have : e.on < listed.size := by omega
            simp [this] at hle ⊢; exact hle
          | false =>
            exfalso
            have hm2 : e.on ∈ idxs ops.size listed := mem_idxs.2 ⟨by omega, hle⟩
            have hs := idxs_sorted ops.size listed
            rw [hix] at hs hm2
            rcases List.mem_cons.1 hm2 with e1 | e1
            · omega
            · have := (List.pairwise_cons.1 hs).1 _ e1; omega
        rw [hr] at this
        cases this
    · obtain ⟨h1, o, ho, hpre⟩ := mem_ready.1 hi
      have hin : i < ops.size := (Array.getElem?_eq_some_iff.1 ho).1
      have hmem : i ∈ idxs ops.size listed := mem_idxs.2 ⟨hin, h1⟩
      obtain ⟨pre, post, e1, hlt, e2⟩ := idxs_split hmem
      have er : rem ops (pre ++ i :: post) = rem ops pre ++ o :: rem ops post := by simp [rem, List.filterMap_append, ho]
      have er2 : rem ops (pre ++ post) = rem ops pre ++ rem ops post := by simp [rem, List.filterMap_append]
      rw [e1] at hap hcf hrun
      have hind : ∀ j ∈ pre, ((masksGo ops.toList []).getD i 0).testBit j = false ∧ ∀ x, ops[j]? = some x → indep ops x o = true := by
        intro j hj
        have hnm : ((masksGo ops.toList []).getD i 0).testBit j = false := by
          cases hm : ((masksGo ops.toList []).getD i 0).testBit j with
          | false => rfl
          | true =>
            exfalso
            have hjl := anc_listed (M := fun i => (masksGo ops.toList []).getD i 0) (fun i o ho => ⟨(hM i o ho).1, (hM i o ho).2.1⟩) hcl i o ho hpre j (by have := hlt j hj; omega) hm
            have : j ∈ idxs ops.size listed := by rw [e1]; simp [hj]
            have := (mem_idxs.1 this).2
            rw [getD_flip hjl] at this
            cases this
        refine ⟨hnm, fun x hx => ?_⟩
        rcases (hM i o ho).2.2 j x (hlt j hj) hx with hm | hm
        · rw [hnm] at hm; cases hm
        · exact hm
      have hcl0 : CleanFor s (rem ops (nl ops (pre ++ post))) := hcf.sub (fun y hy => by
        rw [nl_app, rem_app] at hy ⊢
        rcases List.mem_append.1 hy with hy | hy
        · exact List.mem_append_left _ hy
        · refine List.mem_append_right _ ?_
          obtain ⟨j, j1, j2⟩ := List.mem_filterMap.1 hy
          obtain ⟨j3, j4⟩ := List.mem_filter.1 j1
          exact List.mem_filterMap.2 ⟨j, List.mem_filter.2 ⟨List.mem_cons_of_mem _ j3, j4⟩, j2⟩)
      obtain ⟨p, s1, s2, k1, k2, k3, k4, _⟩ := bubble ho hap hind hu (hcf.sub (fun y hy => by
        rw [nl_app, rem_app, nl_pre hin hlt]; exact List.mem_append_left _ hy)) hrun
      rw [er] at hap
      have hset := (idxs_set hsz hin).trans e2
      have hap2 : Apart (rem ops pre ++ rem ops post) ∧ ∀ x ∈ rem ops pre ++ rem ops post, ∀ d, x.dst = some d → o.dst ≠ some d := by
        have : ∀ {A C : List Oper}, Apart (A ++ o :: C) → Apart (A ++ C) ∧ ∀ x ∈ A ++ C, ∀ d, x.dst = some d → o.dst ≠ some d := by
          intro A
          induction A with
          | nil => intro C h; exact ⟨h.2, fun x hx d hxd hod => h.1 d hod x hx hxd⟩
          | cons y A ih =>
            intro C h
            obtain ⟨m1, m2⟩ := ih h.2
            refine ⟨⟨fun d hd x hx => h.1 d hd x (by simp at hx ⊢; rcases hx with hx | hx <;> simp [hx]), m1⟩, fun x hx d hxd hod => ?_⟩
            rcases List.mem_cons.1 hx with rfl | hx
            · exact h.1 d hxd o (by simp) hod
            · exact m2 x hx d hxd hod
        exact this hap
      have hps := place_sound hE hn hrs (ops := ops) o (k := fun x => Tree.cut .skip [] x) (L := fun _ _ x => x = s1) (Rt := fun _ => True) (pl_place.2 ⟨p, s1, k1, k2, rfl⟩)
        (next := wpAny E.P .any ops Q fuel (listed.setIfInBounds i true)) (Q := Q) (fun S' ι' x a' w' hx hxe => by
          have hxe : x = s1 := hxe
          subst hxe
          refine ih (listed.setIfInBounds i true) S' ι' x s2 a' w' (by simp [hsz]) ?_ ?_ ?_ (place_uniq hu k1) ?_ ?_ (k4.trans he) hx
          · rw [hset]; rw [e1] at hlen; simp at hlen ⊢; omega
          · intro k y hy hk e' he' hb'
            by_cases hki : k = i
            · subst hki
              rw [ho] at hy; cases hy
              exact getD_set_true (hpre e' he' hb')
            · rw [getD_set_ne true (Ne.symm hki)] at hk
              exact getD_set_true (hcl k y hy hk e' he' hb')
          · rw [hset, er2]; exact hap2.1
          · rw [hset]
            exact CleanFor.step hu hcl0 (fun y hy => hap2.2 y (by rw [← er2]; exact nl_sub y hy)) k1
          · rw [hset]; exact k3)
      unfold wpOp
      rw [ho]
      simp only
      split
      · rename_i hw; rw [if_pos hw] at hps; exact .inl hps
      · rename_i hw; rw [if_neg hw] at hps; exact hps

theorem filterMap_some {α β : Type _} {f : α → Option β} {g : α → β} : ∀ {l : List α}, (∀ i ∈ l, f i = some (g i)) → l.filterMap f = l.map g
  | [], _ => rfl
  | x :: l, h => by rw [List.filterMap_cons, h x (by simp)]; simp [filterMap_some (l := l) (fun i hi => h i (by simp [hi]))]

theorem rem_all : rem ops (idxs ops.size (Array.replicate ops.size false)) = ops.toList := by
  have : idxs ops.size (Array.replicate ops.size false) = List.range ops.size := by
    unfold idxs
    refine List.filter_eq_self.2 (fun i hi => ?_)
    have : i < ops.size := List.mem_range.1 hi
    simp [this]
  rw [this]
  unfold rem
  apply List.ext_getElem?
  intro i
  have e : (List.range ops.size).filterMap (fun i => ops[i]?) = (List.range ops.size).map (fun i => ops.getD i default) := filterMap_some (fun i hi => by
    have : i < ops.size := List.mem_range.1 hi
    simp [this])
  rw [e]
  by_cases hi : i < ops.size
  · simp [hi]
  · simp [hi]

theorem apart_of : ∀ {l : List Oper}, distinctB (dsts l) = true → Apart l
  | [], _ => trivial
  | o :: l, h => by
    cases hd : o.dst with
    | none =>
      have : dsts (o :: l) = dsts l := by simp [dsts, hd]
      rw [this] at h
      exact ⟨fun d hd' => (by rw [hd] at hd'; cases hd'), apart_of h⟩
    | some d =>
      have : dsts (o :: l) = d :: dsts l := by simp [dsts, hd]
      rw [this] at h
      simp only [distinctB, Bool.and_eq_true, Bool.not_eq_true'] at h
      refine ⟨fun d' hd' x hx hxd => ?_, apart_of h.2⟩
      rw [hd] at hd'
      cases hd'
      have : d ∈ dsts l := List.mem_filterMap.2 ⟨x, hx, hxd⟩
      have h1 := h.1
      simp [this] at h1

theorem idxs_all : idxs ops.size (Array.replicate ops.size false) = List.range ops.size := by
  unfold idxs
  refine List.filter_eq_self.2 (fun i hi => ?_)
  have : i < ops.size := List.mem_range.1 hi
  simp [this]

theorem dsts_last {o : Oper} {l : List Nat} (ho : o ∈ rem ops (nl ops l)) {d : Nat} (hd : o.dst = some d) : d ∈ dsts ops.toList.dropLast := by
  obtain ⟨j, j1, j2⟩ := List.mem_filterMap.1 ho
  have j4 : j + 1 < ops.size := of_decide_eq_true (List.mem_filter.1 j1).2
  refine List.mem_filterMap.2 ⟨o, List.mem_of_getElem? (i := j) ?_, hd⟩
  rw [List.getElem?_dropLast, if_pos (by simp; omega)]
  simpa using j2

/-- a region whose order is drawn, run in the text's order -/
theorem drawn_region (hE : EnvOk E) (hn : B.n = E.nt) {id : Nat} (hd : (drawOk ops && entryOk ops s && E.P.follows .mixedOrders) = true) {Q : Exit → Act → World → Prop} {s' : St} (hr : RunsA E ops (fun i => (masksGo ops.toList []).getD i 0) [] (List.range' 0 ops.toList.length) s s')
    (hQ : ∀ S ι a w, RS B S ι s' a w → Q .normal a w) (h : RS B S ι s a w) : (Code.region id ops true).wp E.P Q a w := by
  simp only [Bool.and_eq_true, entryOk, List.all_eq_true] at hd
  obtain ⟨⟨h1, ⟨h2, h3⟩, h4⟩, h5⟩ := hd
  refine wp_region_any h5 ?_
  have hlen : (idxs ops.size (Array.replicate ops.size false)).length = ops.size := by
    rw [idxs_all]; simp
  refine drawn_sound hE hn h1 hQ ops.size _ S ι s s' a w.drew (by simp) hlen ?_ ?_ (uniq_of h2) ?_ ?_ (Eqv.refl _) (h.turn Flt.nil Past.drew)
  · intro k o hk hl
    have : k < ops.size := (Array.getElem?_eq_some_iff.1 hk).1
    simp [this] at hl
  · rw [rem_all]; exact apart_of h3
  · intro o ho d hd
    exact h4 d (dsts_last ho hd)
  · rw [idxs_all, List.range_eq_range']
    simpa using hr

end
end Go.Ex

namespace Go.Ex

section
variable {E : Env} {ops : Array Oper} {B : Base} {S : Nat → Prop} {ι : Ix} {s : St} {a : Act} {w : World}

theorem rs_eqv {s t : St} (he : Eqv s t) (h : RS B S ι s a w) : RS B S ι t a w := by
  have hvx : ∀ {v : AV} {vs : List Value}, VX w.heap S ι s.hp v vs → VX w.heap S ι t.hp v vs := by
    intro v vs hv
    exact VX.other (fun i _ => (he.2 i).symm) (fun i _ => SameAt.refl ι i) hv
  exact ⟨⟨h.hs.os, h.hs.tape, h.hs.out, h.hs.size, h.hs.frame, h.hs.slt, h.hs.s0, h.hs.s1, fun i e hi => h.hs.ob i e ((he.2 i).trans hi), fun i e hi => h.hs.bl i e ((he.2 i).trans hi), fun i j ei ej hi hj => h.hs.dj i j ei ej ((he.2 i).trans hi) ((he.2 j).trans hj), fun q hq => by obtain ⟨r1, ⟨e, r2⟩, r3⟩ := h.hs.pin q hq; exact ⟨r1, ⟨e, (he.2 q.1).symm.trans r2⟩, r3⟩⟩, h.dfr, h.sz,
    fun m v hv => hvx (h.fr m v ((he.1 m).trans hv))⟩

theorem RS.forget (h : RS B S ι s a w) (d : Nat) : RS B S ι { s with fr := Ex.put d .any s.fr } a w := by
  refine ⟨h.hs, h.dfr, h.sz, fun t v hv => ?_⟩
  rw [look_put] at hv
  split at hv
  · cases hv; exact ⟨_, rfl⟩
  · exact h.fr t v hv

theorem RS.forgetA : ∀ {l : List Oper} {s : St}, RS B S ι s a w → RS B S ι (Ex.forgetA l s) a w
  | [], s, h => h
  | o :: l, s, h => by
    unfold Ex.forgetA
    split
    · split
      · exact RS.forgetA (h.forget _)
      · exact RS.forgetA h
    · exact RS.forgetA h

theorem look_forgetA {m : Nat} : ∀ {l : List Oper} {s : St}, look m (Ex.forgetA l s).fr = look m s.fr ∨ look m (Ex.forgetA l s).fr = some .any
  | [], s => .inl rfl
  | o :: l, s => by
    unfold Ex.forgetA
    split
    · split
      · rename_i d _ _
        rcases look_forgetA (m := m) (l := l) (s := { s with fr := Ex.put d .any s.fr }) with h | h
        · rw [look_put] at h
          split at h
          · exact .inr h
          · exact .inl h
        · exact .inr h
      · exact look_forgetA
    · exact look_forgetA

theorem forgetA_any {o : Oper} {c : Call} {d : Nat} (hop : o.op = .call c) (hc : c.callee = .builtin .append) (hd : o.dst = some d) : ∀ {l : List Oper} {s : St}, o ∈ l → look d (Ex.forgetA l s).fr = some .any
  | [], _, h => by cases h
  | x :: l, s, h => by
    unfold Ex.forgetA
    rcases List.mem_cons.1 h with rfl | h
    · rw [hop]
      simp only [hc, hd]
      rcases look_forgetA (m := d) (l := l) (s := { s with fr := Ex.put d .any s.fr }) with h | h
      · rw [h, look_put, if_pos rfl]
      · exact h
    · split
      · split
        · exact forgetA_any hop hc hd h
        · exact forgetA_any hop hc hd h
      · exact forgetA_any hop hc hd h

/-! ### what is quiet -/
theorem load_pure (hE : EnvOk E) (h : RS B S ι s a w) {o : Oper} {T : TypeId} {x : Operand} (ho : o.op = .load T x) {v : AV} {s' : St} (hl : loadA E T (s.ev x) s = .ok v s') :
    s' = s ∧ ∃ val, (execOp a.eval o).run E.P w = .ok (.value val) w ∧ VX w.heap S ι s.hp v [val] := by
  have he : execOp a.eval o = (do pure (.value (← Instr.loadAt T (a.eval x)))) := by simp [execOp, ho]
  have hv := h.ev x
  unfold loadA at hl
  split at hl
  · rename_i t y hx
    rw [hx] at hv
    obtain ⟨b, off, e, hb, hr, hR⟩ := hv
    split at hl
    · rename_i hc
      cases hl
      have e : a.eval x = .pointer (some ⟨b, off, none⟩) := by simpa using e
      refine ⟨rfl, toV t (cellsAt w.heap b off t.size), exec_value he (w' := w) ?_, _, rfl, hR⟩
      rw [e]
      simp [Instr.loadAt, Instr.sureAddr, run_loadVar (chk_ok hE hc) hR]
    · cases hl
  · rename_i l hx
    rw [hx] at hv
    split at hl
    · rename_i o t n ht
      cases hl
      obtain ⟨val, k1, k2⟩ := load_bx (hE := hE) ht hv
      exact ⟨rfl, val, exec_value he k1, k2⟩
    · cases hl
  · rename_i i p hx
    rw [hx] at hv
    obtain ⟨e, b, off, h1, h2, h3, h4⟩ := hv
    have h4 : a.eval x = .pointer (some ⟨b, off, none⟩) := by simpa using h4
    split at hl
    · rename_i u y hpt
      have hg := part_of h1 hpt
      obtain ⟨O2, k1, k2, k3, k4, k5⟩ := Loc_mem (Loc_bag h3) (h.hs.ob i e h1) h.hs.slt h2 hg h3
      split at hl
      · rename_i hc
        have hr : (Instr.loadAt T (a.eval x)).run E.P w = .ok (toV u (cellsAt w.heap b off u.size)) w := by
          rw [h4]; simp [Instr.loadAt, Instr.sureAddr, run_loadVar (chk_ok hE hc) k3]
        split at hl
        · rename_i hs
          cases hl
          have := k3.nilO hs
          subst this
          exact ⟨rfl, _, exec_value he hr, _, rfl, k3⟩
        · cases hl
          have hp := Loc_place h3
          exact ⟨rfl, _, exec_value he hr, e, u, y, _, h1, h2, hg, ⟨b, off, hp.1, (cellsAt_congr (VH_old hp.2) _ _).symm⟩, rfl⟩
      · cases hl
    · cases hl
  · cases hl

theorem quiet_run (hE : EnvOk E) (h : RS B S ι s a w) {o : Oper} (hq : quiet o = true) {p : Prop} {s1 : St} (hr : placeR E ops o s = some (p, s1)) (hp : p) :
    o.guard = none ∧ dstOk E.nt o.dst = true ∧ ∃ v val, s1 = s.put o.dst v ∧ (execOp a.eval o).run E.P w = .ok (.value val) w ∧ VX w.heap S ι s.hp v [val] := by
  simp only [quiet, Bool.and_eq_true, Option.isNone_iff_eq_none] at hq
  obtain ⟨hg, hq⟩ := hq
  unfold placeR at hr
  rw [hg] at hr
  simp only at hr
  unfold runR at hr
  split at hr
  · cases hr
  · rename_i hd
    refine ⟨hg, hd, ?_⟩
    have key : ∀ (r : OR), (match r.get with | none => none | some (p, v, s') => some (p, s'.put o.dst v)) = some (p, s1) → ORpure E.P S ι o a w s r → ∃ v val, s1 = s.put o.dst v ∧ (execOp a.eval o).run E.P w = .ok (.value val) w ∧ VX w.heap S ι s.hp v [val] := by
      intro r hr hpr
      cases r with
      | fail why => cases hr
      | ok v s' =>
        simp only [OR.get, Option.some.injEq, Prod.mk.injEq] at hr
        obtain ⟨e1, val, k1, k2⟩ := hpr
        exact ⟨v, val, by rw [← hr.2, e1], k1 w, k2⟩
      | okN p' v s' =>
        simp only [OR.get, Option.some.injEq, Prod.mk.injEq] at hr
        obtain ⟨e1, val, k1, k2⟩ := hpr (by rw [hr.1]; exact hp)
        exact ⟨v, val, by rw [← hr.2, e1], k1 w, k2⟩
    split at hq
    · rename_i x ho
      rw [ho] at hr
      simp only [aop, ho, OR.get, Option.some.injEq, Prod.mk.injEq] at hr
      exact ⟨s.ev x, a.eval x, hr.2.symm, by simp [execOp, ho], h.ev x⟩
    · rename_i T x ho
      rw [ho] at hr
      simp only [aop, ho] at hr
      cases hl : loadA E T (s.ev x) s with
      | fail y => rw [hl] at hr; cases hr
      | ok v s' =>
        rw [hl] at hr
        simp only [OR.get, Option.some.injEq, Prod.mk.injEq] at hr
        obtain ⟨e1, val, k1, k2⟩ := load_pure hE h ho hl
        exact ⟨v, val, by rw [← hr.2, e1], k1, k2⟩
      | okN p' v s' =>
        exfalso
        unfold loadA at hl
        repeat' split at hl
        all_goals cases hl
    · rename_i T x n ho
      have := addr_pure hE h (o := o) (by rw [ho]; rfl)
      rw [ho] at hr
      exact key _ hr this
    · rename_i T x n ho
      have := addr_pure hE h (o := o) (by rw [ho]; rfl)
      rw [ho] at hr
      exact key _ hr this
    · rename_i x ho
      have := addr_pure hE h (o := o) (by rw [ho]; rfl)
      rw [ho] at hr
      exact key _ hr this
    · cases hq

theorem quiet_abs {o : Oper} (hq : quiet o = true) {p : Prop} {s1 : St} (hr : placeR E ops o s = some (p, s1)) : ∃ v, s1 = s.put o.dst v := by
  simp only [quiet, Bool.and_eq_true, Option.isNone_iff_eq_none] at hq
  obtain ⟨hg, hq⟩ := hq
  unfold placeR at hr
  rw [hg] at hr
  simp only at hr
  unfold runR at hr
  split at hr
  · cases hr
  · rename_i hd
    have key : ∀ (r : OR) (t : St), (∀ v s', r = .ok v s' → s' = s) → (∀ p v s', r = .okN p v s' → s' = s) → (match r.get with | none => none | some (p, v, s') => some (p, s'.put o.dst v)) = some (p, s1) → ∃ v, s1 = s.put o.dst v := by
      intro r t h1 h2 hr
      cases r with
      | fail why => cases hr
      | ok v s' =>
        simp only [OR.get, Option.some.injEq, Prod.mk.injEq] at hr
        exact ⟨v, by rw [← hr.2, h1 v s' rfl]⟩
      | okN p' v s' =>
        simp only [OR.get, Option.some.injEq, Prod.mk.injEq] at hr
        exact ⟨v, by rw [← hr.2, h2 p' v s' rfl]⟩
    split at hq
    · rename_i x ho
      rw [ho] at hr
      refine key _ s ?_ ?_ hr <;> (intros; simp_all [aop])
    · rename_i T x ho
      rw [ho] at hr
      refine key _ s ?_ ?_ hr
      · intro v s' e
        simp only [aop, ho] at e
        unfold loadA at e
        repeat' split at e
        all_goals (cases e; try rfl)
      · intro q v s' e
        simp only [aop, ho] at e
        unfold loadA at e
        repeat' split at e
        all_goals (cases e; try rfl)
    · rename_i T x n ho
      rw [ho] at hr
      refine key _ s ?_ ?_ hr
      · intro v s' e
        simp only [aop, ho] at e
        repeat' split at e
        all_goals (cases e; try rfl)
      · intro q v s' e
        simp only [aop, ho] at e
        repeat' split at e
        all_goals (cases e; try rfl)
    · rename_i T x n ho
      rw [ho] at hr
      refine key _ s ?_ ?_ hr
      · intro v s' e
        simp only [aop, ho] at e
        repeat' split at e
        all_goals (cases e; try rfl)
      · intro q v s' e
        simp only [aop, ho] at e
        repeat' split at e
        all_goals (cases e; try rfl)
    · rename_i x ho
      rw [ho] at hr
      refine key _ s ?_ ?_ hr
      · intro v s' e
        simp only [aop, ho] at e
        repeat' split at e
        all_goals (cases e; try rfl)
      · intro q v s' e
        simp only [aop, ho] at e
        repeat' split at e
        all_goals (cases e; try rfl)
    · cases hq

theorem quiet_runs {M : Nat → Nat} : ∀ {l : List Nat} {acc : List (Nat × St)} {s s' : St}, RunsA E ops M acc l s s' → (∀ j ∈ l, ∀ o, ops[j]? = some o → quiet o = true) →
    s'.hp = s.hp ∧ ∀ m, (∀ j ∈ l, ∀ o, ops[j]? = some o → o.dst ≠ some m) → look m s'.fr = look m s.fr
  | [], acc, s, s', h, _ => by obtain rfl : s = s' := h; exact ⟨rfl, fun _ _ => rfl⟩
  | j :: l, acc, s, s', ⟨o, ho, _, p, s1, h1, _, h2⟩, hq => by
    obtain ⟨v, rfl⟩ := quiet_abs (hq j (by simp) o ho) h1
    obtain ⟨k1, k2⟩ := quiet_runs h2 (fun j' hj' => hq j' (by simp [hj']))
    refine ⟨k1.trans hp_putS, fun m hm => ?_⟩
    rw [k2 m (fun j' hj' => hm j' (by simp [hj'])), look_putS, if_neg (hm j (by simp) o ho)]

/-! ### what the check of a pending append says -/
theorem pend_spec {M : List Nat} {k n : Nat} (h : pendOk ops M k n = true) : n + 1 = ops.size ∧ k < n ∧ ∃ ok, ops[k]? = some ok ∧ ∀ j, j < n → (M.getD n 0).testBit j = true ∧ (j ≠ k → ∃ o, ops[j]? = some o ∧ (∀ d, ok.dst = some d → o.dst ≠ some d) ∧
    ((M.getD k 0).testBit j = true ∨ (quiet o = true ∧ ∀ d, o.dst = some d → d ∉ looks ops ok))) := by
  simp only [pendOk, Bool.and_eq_true] at h
  obtain ⟨⟨h1, h2⟩, h3⟩ := h
  have hn := Nat.eq_of_beq_eq_true h1
  refine ⟨hn, by simpa [Nat.blt_eq] using h2, ?_⟩
  split at h3
  · rename_i ok hok
    refine ⟨ok, hok, fun j hj => ?_⟩
    simp only [List.all_eq_true, List.mem_range] at h3
    have := h3 j hj
    simp only [Bool.and_eq_true, Bool.or_eq_true] at this
    obtain ⟨m1, m2⟩ := this
    refine ⟨m1, fun hjk => ?_⟩
    rcases m2 with m2 | m2
    · exact absurd (Nat.eq_of_beq_eq_true m2) hjk
    · split at m2
      · rename_i o ho
        simp only [Bool.and_eq_true, Bool.or_eq_true] at m2
        refine ⟨o, ho, fun d hd hod => ?_, m2.2.imp id (fun h => ⟨h.1, fun d hd hdl => ?_⟩)⟩
        · have := m2.1
          simp only [notIn, hod, hd, Option.toList] at this
          simp at this
        · have := h.2
          simp only [notIn, hd] at this
          simp [hdl] at this
      · cases m2
  · cases h3

theorem fin_spec {M : List Nat} {q : PendA} {n : Nat} {o : Oper} {s : St} {p : Prop} {s2 : St} (h : finA E ops M q n o s = some (p, s2)) : ∃ T2 ad s3, o.guard = none ∧ o.op = .store T2 ad (.tmp q.d) ∧ (∀ t, ad = .tmp t → t ≠ q.d) ∧ pendOk ops M q.k n = true ∧ dstOk E.nt o.dst = true ∧
    appS E q.T q.U T2 (s.ev q.x) (s.ev q.y) (s.ev ad) q.d s = some (p, s3) ∧ s2 = s3.put o.dst (.raw undef) := by
  unfold finA at h
  split at h
  · rename_i T2 ad d' hg hop
    split at h
    · rename_i hc
      simp only [Bool.and_eq_true] at hc
      obtain ⟨⟨⟨c1, c2⟩, c3⟩, c4⟩ := hc
      obtain rfl := Nat.eq_of_beq_eq_true c1
      split at h
      · rename_i p' s3 hs
        cases h
        exact ⟨T2, ad, s3, hg, hop, fun t e => by subst e; rintro rfl; simp at c2, c3, c4, hs, rfl⟩
      · cases h
    · cases h
  · cases h

theorem appS_inv (hE : EnvOk E) {x y adv : AV} {T U T2 : TypeId} {d : Nat} {p : Prop} {s2 : St} (hb : appS E T U T2 x y adv d s = some (p, s2)) (hp : p) :
    ∃ i p0 e t0 l m g r q bts, x = .at_ i p0 ∧ adv = .ptr i p0 ∧ look i s.hp = some e ∧ i ∉ g ∧ g.Nodup ∧ (g.all fun i => !pinned i) = true ∧ getP e.ty e.x p0 = some ⟨.slc true t0, l⟩ ∧ chk E T2 (.slc true t0) = true ∧
      setP e.ty e.x p0 (.slc true t0) (l ++ m) = some r ∧ s2 = (((St.drops g (s.put (some d) .any)).kill i e.kd p0).putE i (e.upd r)) ∧ look T E.tt = some ⟨.slc q t0, bts⟩ ∧
      ((∃ e', E.P.underlying U = some (.slice e')) ∨ E.P.underlying U = some .string) ∧ y.app1 s t0 = some (⟨t0, m⟩, g) ∧ l.length + m.length ≤ 140737488355328 ∧ (l.length + m.length) * t0.wb ≤ 140737488355328 ∧
      ((∃ t x, e = .var t x) ∨ ∃ t x j q, e = .own (.slc true t) x ∧ p0 = .idx j :: q) := by
  unfold appS at hb
  split at hb
  · rename_i i p0 j q q1 t0 bts u1 bts1 hT hU
    split at hb
    · rename_i e hob hku
      simp only [Bool.and_eq_true] at hku
      obtain ⟨hij, hku⟩ := hku
      have hij := Nat.eq_of_beq_eq_true hij
      subst hij
      split at hb
      · rename_i u l hg
        split at hb
        · rename_i t m g happ
          split at hb
          · rename_i hu
            split at hb
            · rename_i ht
              subst hu; subst ht
              split at hb
              · rename_i r hset
                split at hb
                · rename_i hck
                  cases hb
                  simp only [Bool.and_eq_true, Bool.not_eq_true'] at hck
                  obtain ⟨⟨⟨⟨hck, hst⟩, hgi⟩, hgn⟩, hgp⟩ := hck
                  obtain ⟨rfl, h63, hby⟩ := hp
                  have hgi : i ∉ g := by intro hm; simp [hm] at hgi
                  have hk : (∃ e', E.P.underlying U = some (.slice e')) ∨ E.P.underlying U = some .string := by
                    cases u1 <;> first | cases hku | skip
                    · exact .inr (tyOk_str (tt_ok hE hU))
                    · obtain ⟨et, k', f1, _⟩ := tyOk_slc (tt_ok hE hU)
                      exact .inl ⟨et, f1⟩
                  exact ⟨i, q, e, _, l, m, g, r, _, _, rfl, rfl, hob, hgi, noDup_nodup hgn, hgp, hg, hck, hset, rfl, hT, hk, happ, h63, hby, (stay_spec hst).2⟩
                · cases hb
              · cases hb
            · cases hb
          · cases hb
        · cases hb
      · cases hb
    · cases hb
  · cases hb

theorem Apart.cut : ∀ {A C : List Oper} {o : Oper}, Apart (A ++ o :: C) → Apart (A ++ C) ∧ ∀ x ∈ A ++ C, ∀ d, x.dst = some d → o.dst ≠ some d
  | [], C, o, h => ⟨h.2, fun x hx d hxd hod => h.1 d hod x hx hxd⟩
  | y :: A, C, o, h => by
    obtain ⟨m1, m2⟩ := Apart.cut h.2
    refine ⟨⟨fun d hd x hx => h.1 d hd x (by simp at hx ⊢; rcases hx with hx | hx <;> simp [hx]), m1⟩, fun x hx d hxd hod => ?_⟩
    rcases List.mem_cons.1 hx with rfl | hx
    · exact h.1 d hxd o (by simp) hod
    · exact m2 x hx d hxd hod

theorem Apart.sub {f : Nat → Bool} : ∀ {l : List Nat}, Apart (rem ops l) → Apart (rem ops (l.filter f))
  | [], h => h
  | i :: l, h => by
    cases ho : ops[i]? with
    | none =>
      have e : rem ops (i :: l) = rem ops l := by simp [rem, ho]
      rw [e] at h
      have := Apart.sub (f := f) h
      rw [List.filter_cons]
      split
      · have e : rem ops (i :: l.filter f) = rem ops (l.filter f) := by simp [rem, ho]
        rw [e]; exact this
      · exact this
    | some o =>
      rw [rem_cons ho] at h
      rw [List.filter_cons]
      split
      · rw [rem_cons ho]
        refine ⟨fun d hd x hx => h.1 d hd x ?_, Apart.sub h.2⟩
        obtain ⟨j, hj, hjx⟩ := List.mem_filterMap.1 hx
        exact List.mem_filterMap.2 ⟨j, (List.mem_filter.1 hj).1, hjx⟩
      · exact Apart.sub h.2

theorem mem_rem {j : Nat} {o : Oper} {l : List Nat} (hj : j ∈ l) (ho : ops[j]? = some o) : o ∈ rem ops l := List.mem_filterMap.2 ⟨j, hj, ho⟩

/-- the place of one among those that are left, others left out -/
theorem idxs_without {n i : Nat} {listed : Array Bool} {f : Nat → Bool} (hs : listed.size = n) (hi : i ∈ idxs n listed) (hf : f i = true) : ∃ pre post, (idxs n listed).filter f = pre ++ i :: post ∧ (∀ j ∈ pre, j < i) ∧
    (idxs n (listed.setIfInBounds i true)).filter f = pre ++ post := by
  obtain ⟨pre, post, e, h1, h2⟩ := idxs_split hi
  refine ⟨pre.filter f, post.filter f, by rw [e, List.filter_append, List.filter_cons, if_pos hf], fun j hj => h1 j (List.mem_filter.1 hj).1, ?_⟩
  rw [idxs_set hs (mem_idxs.1 hi).1, h2, List.filter_append]

theorem idxs_skip {n i : Nat} {listed : Array Bool} {f g : Nat → Bool} (hs : listed.size = n) (hi : i < n) (hg : ∀ j, g j = (f j && !(j == i))) : (idxs n (listed.setIfInBounds i true)).filter f = (idxs n listed).filter g := by
  rw [idxs_set hs hi, List.filter_filter]
  exact List.filter_congr (fun j _ => (hg j).symm)

theorem idxs_len {n i fuel : Nat} {listed : Array Bool} (hs : listed.size = n) (hi : i ∈ idxs n listed) (hl : (idxs n listed).length = fuel + 1) : (idxs n (listed.setIfInBounds i true)).length = fuel := by
  obtain ⟨pre, post, e, h1, h2⟩ := idxs_split hi
  rw [idxs_set hs (mem_idxs.1 hi).1, h2]
  rw [e] at hl
  simp at hl ⊢; omega

section
variable {q : PendA} {n : Nat} {s1 : St}

theorem ClosedL.set {listed : Array Bool} (hcl : ClosedL ops listed) {i : Nat} {o : Oper} (ho : ops[i]? = some o) (hpre : ∀ e ∈ o.after, Region.binds .any e = true → listed.getD e.on false = true) : ClosedL ops (listed.setIfInBounds i true) := by
  intro k y hy hk e' he' hb'
  by_cases hki : k = i
  · subst hki
    rw [ho] at hy; cases hy
    exact getD_set_true (hpre e' he' hb')
  · rw [getD_set_ne true (Ne.symm hki)] at hk
    exact getD_set_true (hcl k y hy hk e' he' hb')

theorem listed_set {listed : Array Bool} {i : Nat} (hi : i < listed.size) : (listed.setIfInBounds i true).getD i true = true := by simp [hi]
theorem listed_set_false {listed : Array Bool} {i : Nat} (hi : i < listed.size) : (listed.setIfInBounds i true).getD i false = true := by simp [hi]

theorem ready_some (hd : drawOk ops = true) {listed : Array Bool} (hsz : listed.size = ops.size) (hne : idxs ops.size listed ≠ []) : Region.ready .any ops listed ≠ [] := by
  have hM := draw_spec hd
  intro hr
  cases hix : idxs ops.size listed with
  | nil => exact hne hix
  | cons i l =>
    have hmem : i ∈ idxs ops.size listed := by rw [hix]; simp
    obtain ⟨h1, h2⟩ := mem_idxs.1 hmem
    have ho : ops[i]? = some ops[i] := Array.getElem?_eq_getElem h1
    have : i ∈ Region.ready .any ops listed := by
      refine mem_ready.2 ⟨h2, ops[i], ho, fun e he hb => ?_⟩
      have hlt := (hM i _ ho).1 e he hb
      cases hle : listed.getD e.on true with
      | true =>
        have : e.on < listed.size := by omega
        simp [this] at hle ⊢; exact hle
      | false =>
        exfalso
        have hm2 : e.on ∈ idxs ops.size listed := mem_idxs.2 ⟨by omega, hle⟩
        have hs := idxs_sorted ops.size listed
        rw [hix] at hs hm2
        rcases List.mem_cons.1 hm2 with e1 | e1
        · omega
        · have := (List.pairwise_cons.1 hs).1 _ e1; omega
    rw [hr] at this
    cases this

/-- the second half: the append is done, the store still to come -/
theorem drawn_late (hE : EnvOk E) (hn : B.n = E.nt) (hd : drawOk ops = true) {Q : Exit → Act → World → Prop} (hap : Apart ops.toList) (hA : AppOp E ops q) {o2 : Oper} (ho2 : ops[n]? = some o2) {p : Prop} {s2 : St} (hfin : finA E ops (masksGo ops.toList []) q n o2 s1 = some (p, s2)) (hp : p)
    (hQ : ∀ S ι a w, RS B S ι s2 a w → Q .normal a w) {i : Nat} {e : Ent} {p0 : List Step} {t0 : Ty} {l m : List t0.den} {g : List Nat} (hx : s1.ev q.x = .at_ i p0) (he : look i s1.hp = some e) (hok : okP e.ty e.x p0) (hg : getP e.ty e.x p0 = some ⟨.slc true t0, l⟩)
    (happ : (s1.ev q.y).app1 s1 t0 = some (⟨t0, m⟩, g)) {v' : Value} :
    ∀ (fuel : Nat) (listed : Array Bool) (S : Nat → Prop) (ι : Ix) (s s' : St) (a : Act) (w : World), listed.size = ops.size → (idxs ops.size listed).length = fuel → ClosedL ops listed → listed.getD q.k false = true → listed.getD n true = false → uniq s.fr → CleanFor s (rem ops ((idxs ops.size listed).filter (fun j => !(j == n)))) →
      RunsA E ops (fun i => (masksGo ops.toList []).getD i 0) [] ((idxs ops.size listed).filter (fun j => !(j == n))) s s' → Eqv s' s1 → RS B S ι s a w → a.eval (.tmp q.d) = v' → (∀ b off, Loc w.heap ι i e p0 = some (b, off) → Pend B S ι s1.hp g i e p0 t0 l m b off v' w) →
      wpAny E.P .any ops Q fuel listed a w := by
  have hM := draw_spec hd
  obtain ⟨T2, ad, s3, f1, f2, f3, f4, f5, f6, rfl⟩ := fin_spec hfin
  obtain ⟨hns, hkn, ok, hok1, hsp⟩ := pend_spec f4
  obtain ⟨oa, c, a1, a2, a3, a4, a5, a6, a7, a8⟩ := hA
  have e9 : oa = ok := by rw [a1] at hok1; cases hok1; rfl
  subst e9
  have hndst : ∀ j o, j < n → j ≠ q.k → ops[j]? = some o → o.dst ≠ some q.d := by
    intro j o hj hjk ho
    obtain ⟨o', h1, h2, _⟩ := (hsp j hj).2 hjk
    rw [ho] at h1; cases h1
    exact h2 q.d a3
  intro fuel
  induction fuel with
  | zero =>
    intro listed S ι s s' a w hsz hlen hcl hlk hln hu hcf hrun hev hrs hv hpd
    exfalso
    have hnil : idxs ops.size listed = [] := List.length_eq_zero_iff.1 hlen
    have : n ∈ idxs ops.size listed := mem_idxs.2 ⟨by omega, hln⟩
    rw [hnil] at this; cases this
  | succ fuel ih =>
    intro listed S ι s s' a w hsz hlen hcl hlk hln hu hcf hrun hev hrs hv hpd
    refine ⟨fun hr => absurd hr (ready_some hd hsz (by intro h; rw [h] at hlen; cases hlen)), fun i' hi => ?_⟩
    obtain ⟨h1, o, ho, hpre⟩ := mem_ready.1 hi
    have hin : i' < ops.size := (Array.getElem?_eq_some_iff.1 ho).1
    have hmem : i' ∈ idxs ops.size listed := mem_idxs.2 ⟨hin, h1⟩
    have hanc : ∀ j, j < ops.size → ((masksGo ops.toList []).getD i' 0).testBit j = true → listed.getD j false = true := anc_listed (M := fun i => (masksGo ops.toList []).getD i 0) (fun i o ho => ⟨(hM i o ho).1, (hM i o ho).2.1⟩) hcl i' o ho hpre
    by_cases hin2 : i' = n
    · -- the store
      subst hin2
      rw [ho2] at ho; cases ho
      have hall : ∀ j, j ∈ idxs ops.size listed → j = i' := by
        intro j hj
        obtain ⟨j1, j2⟩ := mem_idxs.1 hj
        by_cases e : j = i'
        · exact e
        · have := hanc j j1 (hsp j (by omega)).1
          rw [getD_flip this] at j2; cases j2
      have hnil : (idxs ops.size listed).filter (fun j => !(j == i')) = [] := by
        rw [List.filter_eq_nil_iff]
        intro j hj; simp [hall j hj]
      rw [hnil] at hrun
      obtain rfl : s = s' := hrun
      have hrs1 := rs_eqv hev hrs
      have hrs2 : RS B S ι (s1.put (some q.d) .any) a w := hrs1.forget q.d
      obtain ⟨i2, p2, e2, t2, l2, m2, g2, r, qq, bts, b1, b2, b3, b4, b5, b6, b7, b8, b9, b10, b11, b12, b13, b14, b15, b16⟩ := appS_inv hE f6 hp
      rw [hx] at b1
      obtain ⟨rfl, rfl⟩ : i = i2 ∧ p0 = p2 := by simpa using b1
      rw [he] at b3; cases b3
      rw [hg] at b7
      simp only [Option.some.injEq, Sigma.mk.injEq, Ty.slc.injEq, true_and] at b7
      obtain ⟨b7, b7'⟩ := b7
      subst b7
      obtain rfl : l = l2 := eq_of_heq b7'
      rw [happ] at b13
      simp only [Option.some.injEq, Prod.mk.injEq, Sigma.mk.injEq, heq_eq_eq, true_and] at b13
      obtain ⟨rfl, rfl⟩ := b13
      have hadr := hrs1.ev ad
      rw [b2] at hadr
      obtain ⟨e', b, off, c1, c2, c3, c4⟩ := hadr
      rw [he] at c1; cases c1
      have c4 : a.eval ad = .pointer (some ⟨b, off, none⟩) := by simpa using c4
      have hst := pend_store hE hrs2 (g := g) b6 b4 (e := e) he hok hg (hpd b off c3) f2 c4 hv b8 b9
      have hlen' := idxs_len hsz hmem hlen
      have hnil2 : idxs ops.size (listed.setIfInBounds i' true) = [] := by
        rw [idxs_set hsz hin]
        rw [List.filter_eq_nil_iff]
        intro j hj; simp [hall j hj]
      have hf0 : fuel = 0 := by rw [hnil2] at hlen'; exact hlen'.symm
      subst hf0
      have hw : o2.wp E.P a w (wpAny E.P .any ops Q 0 (listed.setIfInBounds i' true)) Q := by
        refine hst _ _ (fun S' ι' w' val h1 h2 => ⟨?_, hQ S' ι' _ w' ?_⟩)
        · rw [List.eq_nil_iff_forall_not_mem]
          intro j hj
          obtain ⟨j1, oj, j2, _⟩ := mem_ready.1 hj
          have : j ∈ idxs ops.size (listed.setIfInBounds i' true) := mem_idxs.2 ⟨(Array.getElem?_eq_some_iff.1 j2).1, j1⟩
          rw [hnil2] at this; cases this
        · rw [← b10] at h1 h2
          exact h1.put (by rw [hn]; exact f5) h2
      unfold wpOp
      rw [ho2]
      simp only [Region.wanted, f1, if_true]
      exact .inl hw
    · -- something quiet
      have hlt : i' < n := by omega
      have hki : i' ≠ q.k := by rintro rfl; rw [getD_flip hlk] at h1; cases h1
      obtain ⟨o', ho', hdd, hqq⟩ := (hsp i' hlt).2 hki
      rw [ho] at ho'; cases ho'
      have hqt : quiet o = true := by
        rcases hqq with hqq | hqq
        · exfalso
          have hclk : ∀ e ∈ oa.after, Region.binds .any e = true → listed.getD e.on false = true := hcl q.k oa a1 (getD_flip hlk)
          have := anc_listed (M := fun i => (masksGo ops.toList []).getD i 0) (fun i o ho => ⟨(hM i o ho).1, (hM i o ho).2.1⟩) hcl q.k oa a1 hclk i' hin hqq
          rw [getD_flip this] at h1; cases h1
        · exact hqq.1
      obtain ⟨pre, post, e1, hlt', e2⟩ := idxs_without (f := fun j => !(j == n)) hsz hmem (by simpa using hin2)
      rw [e1] at hcf hrun
      have er : rem ops (pre ++ i' :: post) = rem ops pre ++ o :: rem ops post := by simp [rem, List.filterMap_append, ho]
      have er2 : rem ops (pre ++ post) = rem ops pre ++ rem ops post := by simp [rem, List.filterMap_append]
      have hapr : Apart (rem ops (pre ++ i' :: post)) := by
        rw [← e1]
        refine Apart.sub ?_
        have : rem ops (idxs ops.size listed) = rem ops ((List.range ops.size).filter (fun i => !listed.getD i true)) := rfl
        rw [this]
        refine Apart.sub ?_
        have h9 := rem_all (ops := ops)
        rw [idxs_all] at h9
        rw [h9]; exact hap
      have hind : ∀ j ∈ pre, ((masksGo ops.toList []).getD i' 0).testBit j = false ∧ ∀ x, ops[j]? = some x → indep ops x o = true := by
        intro j hj
        have hji : j ∈ idxs ops.size listed := by
          have : j ∈ (idxs ops.size listed).filter (fun j => !(j == n)) := by rw [e1]; simp [hj]
          exact (List.mem_filter.1 this).1
        have hnm : ((masksGo ops.toList []).getD i' 0).testBit j = false := by
          cases hm : ((masksGo ops.toList []).getD i' 0).testBit j with
          | false => rfl
          | true =>
            exfalso
            have hjl := hanc j (mem_idxs.1 hji).1 hm
            have := (mem_idxs.1 hji).2
            rw [getD_flip hjl] at this
            cases this
        refine ⟨hnm, fun x hx => ?_⟩
        rcases (hM i' o ho).2.2 j x (hlt' j hj) hx with hm | hm
        · rw [hnm] at hm; cases hm
        · exact hm
      obtain ⟨pp, sa, sb, k1, k2, k3, k4, _⟩ := bubble ho hapr hind hu (hcf.sub (fun y hy => by rw [rem_app]; exact List.mem_append_left _ hy)) hrun
      obtain ⟨q1, q2, v, val, rfl, q3, q4⟩ := quiet_run hE hrs hqt k1 k2
      rw [er] at hapr hcf
      have hap2 := Apart.cut hapr
      have hnext : wpAny E.P .any ops Q fuel (listed.setIfInBounds i' true) (a.put o.dst val) w := by
        refine ih (listed.setIfInBounds i' true) S ι (s.put o.dst v) sb (a.put o.dst val) w (by simp [hsz]) (idxs_len hsz hmem hlen) (hcl.set ho hpre) (getD_set_true hlk) (by rw [getD_set_ne true hin2]; exact hln) (place_uniq hu k1) ?_ (by rw [e2]; exact k3) (k4.trans hev) (hrs.put (by rw [hn]; exact q2) q4) ?_ hpd
        · rw [e2, er2]
          exact CleanFor.step hu (fun y hy => hcf y (by simp at hy ⊢; rcases hy with hy | hy <;> simp [hy])) hap2.2 k1
        · rw [← hv]
          have hne := hndst i' o hlt hki ho
          cases hod : o.dst with
          | none => rfl
          | some d =>
            rw [hod] at hne
            exact aput_other (fun e => hne (by rw [e]))
      unfold wpOp
      rw [ho]
      simp only [Region.wanted, q1, if_true]
      refine .inl ?_
      unfold Oper.wp
      rw [q3]
      exact hnext

/-- the first half: the append still to come -/
theorem drawn_early (hE : EnvOk E) (hn : B.n = E.nt) (hd : drawOk ops = true) {Q : Exit → Act → World → Prop} (hap : Apart ops.toList) (hA : AppOp E ops q) {o2 : Oper} (ho2 : ops[n]? = some o2) {p : Prop} {s2 : St} (hfin : finA E ops (masksGo ops.toList []) q n o2 s1 = some (p, s2)) (hp : p)
    (hQ : ∀ S ι a w, RS B S ι s2 a w → Q .normal a w) :
    ∀ (fuel : Nat) (listed : Array Bool) (S : Nat → Prop) (ι : Ix) (s s' : St) (a : Act) (w : World), listed.size = ops.size → (idxs ops.size listed).length = fuel → ClosedL ops listed → listed.getD q.k true = false → listed.getD n true = false → uniq s.fr → CleanFor s (rem ops ((idxs ops.size listed).filter (fun j => !(j == n) && !(j == q.k)))) →
      RunsA E ops (fun i => (masksGo ops.toList []).getD i 0) [] ((idxs ops.size listed).filter (fun j => !(j == n) && !(j == q.k))) s s' → Eqv s' s1 → look q.d s.fr = some .any → RS B S ι s a w →
      wpAny E.P .any ops Q fuel listed a w := by
  have hM := draw_spec hd
  obtain ⟨T2, ad, s3, f1, f2, f3, f4, f5, f6, _⟩ := fin_spec hfin
  obtain ⟨hns, hkn, ok, hok1, hsp⟩ := pend_spec f4
  have hA' := hA
  obtain ⟨oa, c, a1, a2, a3, a4, a5, a6, a7, a8⟩ := hA
  have e9 : oa = ok := by rw [a1] at hok1; cases hok1; rfl
  subst e9
  intro fuel
  induction fuel with
  | zero =>
    intro listed S ι s s' a w hsz hlen hcl hlk hln hu hcf hrun hev hany hrs
    exfalso
    have hnil : idxs ops.size listed = [] := List.length_eq_zero_iff.1 hlen
    have : n ∈ idxs ops.size listed := mem_idxs.2 ⟨by omega, hln⟩
    rw [hnil] at this; cases this
  | succ fuel ih =>
    intro listed S ι s s' a w hsz hlen hcl hlk hln hu hcf hrun hev hany hrs
    refine ⟨fun hr => absurd hr (ready_some hd hsz (by intro h; rw [h] at hlen; cases hlen)), fun i' hi => ?_⟩
    obtain ⟨h1, o, ho, hpre⟩ := mem_ready.1 hi
    have hin : i' < ops.size := (Array.getElem?_eq_some_iff.1 ho).1
    have hmem : i' ∈ idxs ops.size listed := mem_idxs.2 ⟨hin, h1⟩
    have hanc : ∀ j, j < ops.size → ((masksGo ops.toList []).getD i' 0).testBit j = true → listed.getD j false = true := anc_listed (M := fun i => (masksGo ops.toList []).getD i 0) (fun i o ho => ⟨(hM i o ho).1, (hM i o ho).2.1⟩) hcl i' o ho hpre
    by_cases hin2 : i' = n
    · exfalso
      subst hin2
      have := hanc q.k (by omega) (hsp q.k hkn).1
      rw [getD_flip this] at hlk; cases hlk
    have hlt : i' < n := by omega
    by_cases hki : i' = q.k
    · -- the append
      subst hki
      rw [a1] at ho; cases ho
      have hquiet : ∀ j ∈ (idxs ops.size listed).filter (fun j => !(j == n) && !(j == q.k)), ∀ oj, ops[j]? = some oj → quiet oj = true ∧ oj.dst ≠ some q.d ∧ ∀ d, oj.dst = some d → d ∉ looks ops oa := by
        intro j hj oj hoj
        obtain ⟨j1, j2⟩ := List.mem_filter.1 hj
        simp only [Bool.and_eq_true, Bool.not_eq_true', beq_eq_false_iff_ne, ne_eq] at j2
        have jn : j < n := by have := (mem_idxs.1 j1).1; omega
        obtain ⟨o', g1, g2, g3⟩ := (hsp j jn).2 j2.2
        rw [hoj] at g1; cases g1
        refine ⟨?_, g2 q.d a3, ?_⟩
        all_goals
          rcases g3 with g3 | g3
          · exfalso
            have := hanc j (by omega) g3
            have h9 := (mem_idxs.1 j1).2
            rw [getD_flip this] at h9; cases h9
        · exact g3.1
        · exact g3.2
      obtain ⟨hhp, hfr⟩ := quiet_runs hrun (fun j hj oj hoj => (hquiet j hj oj hoj).1)
      obtain ⟨i, p0, e, t0, l, m, g, r, qq, bts, b1, b2, b3, b4, b5, b6, b7, b8, b9, b10, b11, b12, b13, b14, b15, b16⟩ := appS_inv hE f6 hp
      have hlook : ∀ j, look j s.hp = look j s1.hp := fun j => by rw [← hhp]; exact hev.2 j
      have hget : ∀ x, x ∈ oa.op.operands.toList → s.ev x = s1.ev x := by
        intro x hx
        cases x with
        | tmp t =>
          have : look t s'.fr = look t s.fr := hfr t (fun j hj oj hoj hd' => (hquiet j hj oj hoj).2.2 t hd' (looks_op hx))
          show s.get t = s1.get t
          rw [← hev.get t]
          simp only [St.get, this]
        | _ => rfl
      have hxm : q.x ∈ oa.op.operands.toList := by rw [a5]; exact ops_arg (by rw [a7]; simp)
      have hym : q.y ∈ oa.op.operands.toList := by rw [a5]; exact ops_arg (by rw [a7]; simp)
      have hxs : s.ev q.x = .at_ i p0 := (hget _ hxm).trans b1
      have hes : look i s.hp = some e := (hlook i).trans b3
      have happs : (s.ev q.y).app1 s t0 = some (⟨t0, m⟩, g) := by
        rw [hget _ hym, app1_st (s := s1) (t := s) (fun j _ => hlook j)]
        exact b13
      have hok : okP e.ty e.x p0 := by
        obtain ⟨e2, u, y2, cs, r1, hok, _⟩ := evx hrs hxs
        rw [hes] at r1; cases r1
        exact hok
      obtain ⟨b, off, hl⟩ := loc_stay (hrs.hs.ob i e hes) hrs.hs.slt b16 hok b7
      obtain ⟨v', w', c1, c2, c3, c4⟩ := append_keep hE hrs a5 a6 a7 a8 b12 b11 hxs hes b16 b7 hl happs b4 b5 b14 b15
      have hl' : Loc w'.heap ι i e p0 = some (b, off) := by obtain ⟨_, h9, _⟩ := c4; exact h9
      have hput : RS B S ι s (a.put (some q.d) v') w' := by
        have h9 := c2.put (d := some q.d) (by rw [hn]; exact a4) (v := .any) (val := v') ⟨v', rfl⟩
        refine rs_eqv (s := s.put (some q.d) .any) (t := s) ⟨fun t => ?_, fun _ => rfl⟩ h9
        rw [look_putS]
        split
        · rename_i e9; cases e9; exact hany.symm
        · rfl
      have hval : (a.put (some q.d) v').eval (.tmp q.d) = v' := aput_same (by rw [hrs.sz, hn]; simpa [dstOk, Nat.blt_eq] using a4)
      have hset : (idxs ops.size (listed.setIfInBounds q.k true)).filter (fun j => !(j == n)) = (idxs ops.size listed).filter (fun j => !(j == n) && !(j == q.k)) := idxs_skip hsz hin (fun j => rfl)
      have hnext : wpAny E.P .any ops Q fuel (listed.setIfInBounds q.k true) (a.put (some q.d) v') w' := by
        refine drawn_late hE hn hd hap hA' ho2 hfin hp hQ (i := i) (e := e) (p0 := p0) (t0 := t0) (l := l) (m := m) (g := g) b1 b3 hok b7 b13 (v' := v') fuel (listed.setIfInBounds q.k true) S ι s s' _ w' (by simp [hsz]) (idxs_len hsz hmem hlen) (hcl.set a1 hpre) (listed_set_false (by omega)) (by rw [getD_set_ne true (by omega)]; exact hln) hu (by rw [hset]; exact hcf) (by rw [hset]; exact hrun) hev hput hval ?_
        intro b' off' hb'
        rw [hl'] at hb'; cases hb'
        obtain ⟨O', g1, g2, g3, g4, g5⟩ := c4
        exact ⟨O', g1, g2, g3, g4, fun cc hcc => ⟨(g5 cc hcc).1, fun j ej hj hjg hlj => (g5 cc hcc).2.1 j ej hj hjg ((hlook j).trans hlj), (g5 cc hcc).2.2⟩⟩
      unfold wpOp
      rw [a1]
      simp only [Region.wanted, a2, if_true]
      refine .inl ?_
      unfold Oper.wp
      rw [c1]
      show wpAny E.P .any ops Q fuel (listed.setIfInBounds q.k true) (a.put oa.dst v') w'
      rw [a3]
      exact hnext
    · -- another one
      obtain ⟨pre, post, e1, hlt', e2⟩ := idxs_without (f := fun j => !(j == n) && !(j == q.k)) hsz hmem (by simp [hin2, hki])
      rw [e1] at hcf hrun
      have er : rem ops (pre ++ i' :: post) = rem ops pre ++ o :: rem ops post := by simp [rem, List.filterMap_append, ho]
      have er2 : rem ops (pre ++ post) = rem ops pre ++ rem ops post := by simp [rem, List.filterMap_append]
      have hapr : Apart (rem ops (pre ++ i' :: post)) := by
        rw [← e1]
        refine Apart.sub ?_
        have : rem ops (idxs ops.size listed) = rem ops ((List.range ops.size).filter (fun i => !listed.getD i true)) := rfl
        rw [this]
        refine Apart.sub ?_
        have h9 := rem_all (ops := ops)
        rw [idxs_all] at h9
        rw [h9]; exact hap
      have hind : ∀ j ∈ pre, ((masksGo ops.toList []).getD i' 0).testBit j = false ∧ ∀ x, ops[j]? = some x → indep ops x o = true := by
        intro j hj
        have hji : j ∈ idxs ops.size listed := by
          have : j ∈ (idxs ops.size listed).filter (fun j => !(j == n) && !(j == q.k)) := by rw [e1]; simp [hj]
          exact (List.mem_filter.1 this).1
        have hnm : ((masksGo ops.toList []).getD i' 0).testBit j = false := by
          cases hm : ((masksGo ops.toList []).getD i' 0).testBit j with
          | false => rfl
          | true =>
            exfalso
            have hjl := hanc j (mem_idxs.1 hji).1 hm
            have := (mem_idxs.1 hji).2
            rw [getD_flip hjl] at this
            cases this
        refine ⟨hnm, fun x hx => ?_⟩
        rcases (hM i' o ho).2.2 j x (hlt' j hj) hx with hm | hm
        · rw [hnm] at hm; cases hm
        · exact hm
      obtain ⟨pp, sa, sb, k1, k2, k3, k4, _⟩ := bubble ho hapr hind hu (hcf.sub (fun y hy => by rw [rem_app]; exact List.mem_append_left _ hy)) hrun
      have hnd : o.dst ≠ some q.d := by
        obtain ⟨o', g1, g2, _⟩ := (hsp i' hlt).2 hki
        rw [ho] at g1; cases g1
        exact g2 q.d a3
      have hany' : look q.d sa.fr = some .any := by
        obtain ⟨v, ids, f, hf, z1, z2, z3, z4, z5⟩ := place_eff (ops := ops) hu k1
        obtain ⟨sa', y1, _, y2⟩ := z5 s hu ((Eqv.refl s).agreeV _ _) z2
        rw [k1] at y1; cases y1
        rw [y2.fr, if_neg hnd, hany]
        simp [z1.plain _ (rfl : AV.plain .any = true)]
      rw [er] at hapr hcf
      have hap2 := Apart.cut hapr
      have hps := place_sound hE hn hrs (ops := ops) o (k := fun x => Tree.cut .skip [] x) (L := fun _ _ x => x = sa) (Rt := fun _ => True) (pl_place.2 ⟨pp, sa, k1, k2, rfl⟩)
        (next := wpAny E.P .any ops Q fuel (listed.setIfInBounds i' true)) (Q := Q) (fun S' ι' x a' w' hx hxe => by
          have hxe : x = sa := hxe
          subst hxe
          refine ih (listed.setIfInBounds i' true) S' ι' x sb a' w' (by simp [hsz]) (idxs_len hsz hmem hlen) (hcl.set ho hpre) (by rw [getD_set_ne true hki]; exact hlk) (by rw [getD_set_ne true hin2]; exact hln) (place_uniq hu k1) ?_ (by rw [e2]; exact k3) (k4.trans hev) hany' hx
          rw [e2, er2]
          exact CleanFor.step hu (fun y hy => hcf y (by simp at hy ⊢; rcases hy with hy | hy <;> simp [hy])) hap2.2 k1)
      unfold wpOp
      rw [ho]
      simp only
      split
      · rename_i hw; rw [if_pos hw] at hps; exact .inl hps
      · rename_i hw; rw [if_neg hw] at hps; exact hps

/-- a drawn region with an append to a place -/
theorem drawn_pend (hE : EnvOk E) (hn : B.n = E.nt) {id : Nat} (hd : (drawOk ops && entryOk ops s && E.P.follows .mixedOrders) = true) {Q : Exit → Act → World → Prop} (hA : AppOp E ops q) {s' : St}
    (hr : RunsA E ops (fun i => (masksGo ops.toList []).getD i 0) [] ((List.range' 0 (ops.toList.length - 1)).filter (fun j => !(j == q.k))) s s') {k : St → Tree (E.rs ++ wts E.ps)} {L : Code → List Item → St → Prop} {R : DL (E.rs ++ wts E.ps) → Prop}
    (hf : FinRun E ops (masksGo ops.toList []) q s' k L R) (hany : look q.d s.fr = some .any)
    (hQ : ∀ S ι s2 a w, RS B S ι s2 a w → (k s2).holds L R → Q .normal a w) (h : RS B S ι s a w) : (Code.region id ops true).wp E.P Q a w := by
  simp only [Bool.and_eq_true, entryOk, List.all_eq_true] at hd
  obtain ⟨⟨h1, ⟨h2, h3⟩, h4⟩, h5⟩ := hd
  refine wp_region_any h5 ?_
  obtain ⟨o2, p, s2, g1, g2, g3, g4⟩ := hf
  obtain ⟨T2, ad, s3, f1, f2, f3, f4, f5, f6, _⟩ := fin_spec g2
  obtain ⟨hns, hkn, _⟩ := pend_spec f4
  have hlen : (idxs ops.size (Array.replicate ops.size false)).length = ops.size := by
    rw [idxs_all]; simp
  have hset : (idxs ops.size (Array.replicate ops.size false)).filter (fun j => !(j == ops.size - 1) && !(j == q.k)) = (List.range' 0 (ops.toList.length - 1)).filter (fun j => !(j == q.k)) := by
    rw [idxs_all, show List.range ops.size = List.range (ops.size - 1) ++ [ops.size - 1] from by rw [← List.range_succ]; congr 1; omega, List.filter_append, List.filter_cons]
    simp only [beq_self_eq_true, Bool.not_true, Bool.false_and, Bool.false_eq_true, if_false, List.filter_nil, List.append_nil, Array.length_toList]
    rw [List.range_eq_range']
    refine List.filter_congr (fun j hj => ?_)
    have : j ≠ ops.size - 1 := by have := (List.mem_range'_1.1 hj).2; omega
    simp [this]
  refine drawn_early (n := ops.size - 1) hE hn h1 (apart_of h3) hA g1 g2 g3 (fun S ι a w hh => hQ S ι _ a w hh g4) ops.size _ S ι s s' a w.drew (by simp) hlen ?_ ?_ ?_ (uniq_of h2) ?_ (by rw [hset]; exact hr) (Eqv.refl _) hany (h.turn Flt.nil Past.drew)
  · intro k o hk hl
    have : k < ops.size := (Array.getElem?_eq_some_iff.1 hk).1
    simp [this] at hl
  · have : q.k < ops.size := by omega
    simp [this]
  · have : ops.size - 1 < ops.size := by omega
    simp [this]
  · intro o ho d hd
    obtain ⟨j, hj, hjo⟩ := List.mem_filterMap.1 ho
    refine h4 d (dsts_last (l := [j]) (List.mem_filterMap.2 ⟨j, List.mem_filter.2 ⟨by simp, ?_⟩, hjo⟩) hd)
    obtain ⟨hj1, hj2⟩ := List.mem_filter.1 hj
    have := (mem_idxs.1 hj1).1
    simp only [Bool.and_eq_true, Bool.not_eq_true', beq_eq_false_iff_ne, ne_eq] at hj2
    simp; omega
end
end
end Go.Ex

namespace Go.Ex

section
variable {E : Env} {B : Base} {S S' : Nat → Prop} {ι : Ix} {s : St} {a : Act} {w : World} {hp : List (Nat × Ent)} {H H' : Array Go.Obj}

/-- from here the function comes to its end, and R holds there -/
def At (P : Program) (fn : Func) (R : Ending → World → Prop) (k : List Item) (a : Act) (w : World) : Prop :=
  ∀ (b : Frame) (cs : List Frame), ∃ (e : Exit) (a' : Act) (w' : World), bodyPost P fn R e a' w' ∧ Arrives P (lone (b.at a k) cs w) b [] cs e a' w'

section at_
variable {P : Program} {fn : Func} {R : Ending → World → Prop} {k k' : List Item}

theorem At.step (hs : ∀ (b : Frame) (cs : List Frame), step P (lone (b.at a k) cs w) = .next (lone (b.at a k') cs w)) (h : At P fn R k' a w) : At P fn R k a w :=
  fun b cs => let ⟨e, a', w', q, r⟩ := h b cs; ⟨e, a', w', q, .of_steps (.one (hs b cs)) r⟩

theorem At.region {id : Nat} {ops : Array Oper} {d : Bool} (h : (Code.region id ops d).wp P (fun e a w => e = .normal ∧ At P fn R k a w) a w) : At P fn R (.code (.region id ops d) :: k) a w := by
  intro b cs
  obtain ⟨e, a', w', ⟨rfl, h2⟩, harr⟩ := h b k cs
  obtain ⟨e, a'', w'', q, r⟩ := h2 b cs
  exact ⟨e, a'', w'', q, .of_steps harr r⟩

theorem At.done (h : bodyPost P fn R .normal a w) : At P fn R [] a w := fun _ _ => ⟨.normal, a, w, h, Steps.refl _ _⟩
theorem At.ret (h : bodyPost P fn R .ret a w) : At P fn R (.code .ret :: k) a w := fun _ _ => ⟨.ret, a, w, h, _, .one step_ret⟩

theorem calls_of_at {f : FuncId} {c : Code} {args : Array Value} (hf : P.funcs[f]? = some fn) (hb : fn.body = some c)
    (h : At P fn R [.code c] { tmps := args ++ Array.replicate (fn.ntmps - args.size) undef, defers := [] } w) : Calls P f args w R := by
  intro cs
  let b : Frame := { (default : Frame) with fn := f, kind := .normal }
  have henter : Frame.enter P f args .normal = b.at { tmps := args ++ Array.replicate (fn.ntmps - args.size) undef, defers := [] } [.code c] := by
    simp [Frame.enter, Frame.at, hf, hb, b]
  obtain ⟨e, a', w', hq, harr⟩ := h b cs
  rw [← henter] at harr
  cases e with
  | normal =>
    obtain ⟨hd, v, hr, hR⟩ := hq
    exact ⟨.returned v, w', _, hR, Steps.trans harr (.one step_end), rfl, rfl, hd, rfl, fn, hf, hr⟩
  | ret =>
    obtain ⟨hd, v, hr, hR⟩ := hq
    obtain ⟨todo, hs⟩ := harr
    exact ⟨.returned v, w', _, hR, hs, rfl, rfl, hd, rfl, fn, hf, hr⟩
  | panic chain =>
    obtain ⟨hd, hR⟩ := hq
    obtain ⟨todo, hs⟩ := harr
    exact ⟨.panicked chain, w', _, hR, hs, rfl, rfl, hd, fn, hf⟩
  | exit id => exact hq.elim
  | goto l => exact hq.elim
  | outgrown => exact ⟨.outgrown, w', b, hq, harr.resolve_left (by simp [b]), rfl, trivial⟩
end at_

/-! ### what is kept at a cut -/
theorem RS.dropAll (live : List Nat) (s0 : St) : ∀ {l : List (Nat × Ent)} {s : St}, RS B S ι s a w → RS B S ι (dropAll live s0 l s) a w
  | [], _, h => h
  | (i, _) :: l, s, h => by
    simp only [Ex.dropAll]
    split
    · exact RS.dropAll live s0 h
    · rename_i hp
      simp only [Bool.or_eq_false_iff] at hp
      exact RS.dropAll live s0 (h.drop hp.1)

/-- a slot, spoken of otherwise -/
theorem RS.slot (h : RS B S ι s a w) {m : Nat} {v : AV} (hv : VX w.heap S ι s.hp v [a.tmps.getD m undef]) : RS B S ι { s with fr := Ex.put m v s.fr } a w := by
  refine ⟨h.hs, h.dfr, h.sz, fun t u hu => ?_⟩
  simp only [look_put] at hu
  split at hu
  · rename_i e; subst e; cases hu; exact hv
  · exact h.fr t u hu

/-- a value of the call's own, laid at a name of its own; the slot that held it speaks of it -/
theorem RS.lodge (h : RS B S ι s a w) {m d : Nat} (hf : s.fresh d = true) {t : Ty} {x : t.den} {O : List Nat} {cs : List Value} (hv : a.tmps.getD m undef = toV t cs) (hR : Rep w.heap S t O cs x) (hF : Flt B S ι s.hp w O) :
    ∃ ι', RS B S ι' { s.putE d (.own t x) with fr := Ex.put m (.at_ d []) s.fr } a w :=
  ⟨_, (h.hold hf hR hF).slot (m := m) (v := .at_ d []) (by rw [hv]; exact at_new hR.length)⟩

/-- two numbers that say the same of two objects -/
def SameAs (ι ι' : Ix) (i j : Nat) : Prop := ι'.root j = ι.root i ∧ ι'.cells j = ι.cells i ∧ ι'.own j = ι.own i

theorem SameAs.place {ι' : Ix} {i j : Nat} (h : SameAs ι ι' i j) {H : Array Go.Obj} {e : Ent} {p : List Step} : Place H ι' j e p = Place H ι i e p := by
  obtain ⟨h1, h2, h3⟩ := h
  cases e <;> simp only [Place, VH, VR, h1, h2]
theorem SameAs.loc {ι' : Ix} {i j : Nat} (h : SameAs ι ι' i j) {H : Array Go.Obj} {e : Ent} {p : List Step} : Loc H ι' j e p = Loc H ι i e p := by
  simp only [Loc, h.place]
theorem SameAs.cells_ {ι' : Ix} {i j : Nat} (h : SameAs ι ι' i j) {H : Array Go.Obj} {e : Ent} {p : List Step} {u : Ty} {cs : List Value} : Cells H ι' j e p u cs ↔ Cells H ι i e p u cs := by
  have hv : VH H ι' j e = VH H ι i e := by obtain ⟨h1, h2, h3⟩ := h; cases e <;> simp only [VH, h2]
  simp only [Cells, h.place, hv]

/-- an object under another name -/
theorem RS.ren (h : RS B S ι s a w) {i j : Nat} (hi : pinned i = false) {u : Ty} {x : u.den} (h1 : look i s.hp = some (.own u x)) (hf : s.fresh j = true) :
    ∃ ι', RS B S ι' { fr := mapA (AV.ren i j) s.fr, hp := Ex.put j (.own u x) (del i s.hp) } a w := by
  obtain ⟨f1, f2⟩ := fresh_inv hf
  have hij : i ≠ j := by rintro rfl; rw [f1] at h1; cases h1
  let ι' : Ix := { root := fun k => if k = j then ι.root i else ι.root k, cells := fun k => if k = j then ι.cells i else ι.cells k, own := fun k => if k = j then ι.own i else ι.own k }
  have hsj : SameAs ι ι' i j := ⟨by simp [ι'], by simp [ι'], by simp [ι']⟩
  have hsk : ∀ k, k ≠ j → SameAt ι ι' k := fun k hk => ⟨by simp [ι', hk], by simp [ι', hk], by simp [ι', hk]⟩
  have hF : Flt B S ι (St.drops [i] s).hp w (ι.own i) := by
    obtain ⟨⟨O, hO, hR⟩, hnd⟩ := (h.hs.ob i _ h1 : OB w.heap S ι i (.own u x))
    exact Flt.drops h.hs hnd (fun b hb => ⟨i, _, by simp, h1, hb⟩)
  have hob : OB w.heap S ι' j (.own u x) := by
    obtain ⟨⟨O, hO, hR⟩, hnd⟩ := (h.hs.ob i _ h1 : OB w.heap S ι i (.own u x))
    obtain ⟨e1, e2, e3⟩ := hsj
    exact ⟨⟨O, by rw [e3]; exact hO, by rw [e2]; exact hR⟩, by rw [e3]; exact hnd⟩
  have hd := h.hs.drop hi
  refine ⟨ι', ⟨hd.add (d := j) (e := .own u x) (ι' := ι') (O := ι.own i) ?_ hsk hob ?_ hF, h.dfr, h.sz, ?_⟩⟩
  · rw [look_del]; split <;> first | rfl | exact f1
  · intro b hb
    have : ι'.own j = ι.own i := hsj.2.2
    show b ∈ ι.own i
    rw [← this]; exact hb
  · intro t v hv
    simp only [look_mapA, Option.map_eq_some_iff] at hv
    obtain ⟨v0, hv0, rfl⟩ := hv
    have hvj := f2 t v0 hv0
    refine VX.map (fun _ _ => rfl) (fun _ h => h) (fun q vs hq hm hv => ?_) (h.fr t v0 hv0)
    have hlk : ∀ k, q.ment k = true → k ≠ i → look k (Ex.put j (.own u x) (del i s.hp)) = look k s.hp := by
      intro k hk hki
      have hkj : k ≠ j := by rintro rfl; rw [hm k hk] at hvj; cases hvj
      rw [look_put, if_neg hkj, look_del, if_neg hki]
    have hlj : look j (Ex.put j (Ent.own u x) (del i s.hp)) = some (.own u x) := by rw [look_put, if_pos rfl]
    dsimp only
    split
    · rename_i hmi
      refine VX.other (fun k hk => hlk k hk ?_) (fun k hk => hsk k ?_) hv
      · rintro rfl; rw [hk] at hmi; cases hmi
      · rintro rfl; rw [hm k hk] at hvj; cases hvj
    · rename_i hmi
      split
      · rename_i k p
        have := Nat.eq_of_beq_eq_true hmi
        subst this
        obtain ⟨e, b, off, k1, k2, k3, k4⟩ := hv
        rw [h1] at k1; cases k1
        exact ⟨_, b, off, hlj, k2, hsj.loc.trans k3, k4⟩
      · rename_i k p
        have := Nat.eq_of_beq_eq_true hmi
        subst this
        obtain ⟨e, u', y, cs, k1, k2, k3, k4, k5⟩ := hv
        rw [h1] at k1; cases k1
        exact ⟨_, u', y, cs, hlj, k2, k3, hsj.cells_.2 k4, k5⟩
      · rename_i k p lo hi'
        have := Nat.eq_of_beq_eq_true hmi
        subst this
        obtain ⟨e, v, k1, k2, k3, k4, k5, k6⟩ := hv
        rw [h1] at k1; cases k1
        refine ⟨_, v, hlj, k2, k3, k4, k5, ?_⟩
        rcases k6 with ⟨t', l, A, cap, q1, q2, q3, q4⟩ | ⟨n, t', l, b, off, q1, q2, q3, q4⟩
        · exact .inl ⟨t', l, A, cap, q1, q2, hsj.cells_.2 q3, q4⟩
        · exact .inr ⟨n, t', l, b, off, q1, q2, hsj.loc.trans q3, q4⟩
      · obtain ⟨y, e⟩ := VX.one hq hv
        exact ⟨y, e⟩

theorem RS.settle (h : RS B S ι s a w) (m : Nat) (t : Ty) : ∃ ι', RS B S ι' (settle m t s) a w := by
  have hg := h.get m
  unfold Ex.settle
  split
  · rename_i hm
    rw [hm] at hg
    have hv : a.tmps.getD m undef = Value.slice none 0 0 := by
      have : [a.tmps.getD m undef] = [Value.slice none 0 0] := hg
      simpa using this
    split
    · rename_i u hf
      exact h.lodge hf (t := .slc true u) (x := ([] : List u.den)) (O := []) (cs := [.slice none 0 0]) hv (.inl ⟨rfl, ⟨none, 0, rfl, fun _ => rfl⟩, rfl⟩) Flt.nil
    · exact ⟨ι, h⟩
  · rename_i i hm
    split
    · rename_i u x hob
      split
      · exact ⟨ι, h⟩
      · rename_i hc
        simp only [Bool.or_eq_false_iff, Bool.not_eq_false'] at hc
        exact h.ren hc.1 hob hc.2
    · exact ⟨ι, h⟩
  · rename_i i lo hi hm
    rw [hm] at hg
    split
    · rename_i u x g hgv
      split
      · exact ⟨ι, h⟩
      · rename_i hc
        simp only [Bool.or_eq_false_iff, Bool.not_eq_false'] at hc
        obtain ⟨O, cs, k1, k2, k3, k4⟩ := give_rep h.hs hgv hg
        have hgi : g = [i] := by
          simp only [AV.give] at hgv
          split at hgv <;> cases hgv
          rfl
        subst hgi
        exact (h.drop hc.1).lodge hc.2 k1 k2 (Flt.drops h.hs k3 k4)
    · exact ⟨ι, h⟩
  · rename_i u x hm
    rw [hm] at hg
    split
    · rename_i hc
      simp only [Bool.and_eq_true] at hc
      obtain ⟨cs, e, hR⟩ := hg
      exact h.lodge hc.2 (by simpa using e) hR Flt.nil
    · exact ⟨ι, h⟩
  · exact ⟨ι, h⟩

theorem RS.settles : ∀ {l : List (Nat × Option Ty)} {ι : Ix} {s : St}, RS B S ι s a w → ∃ ι', RS B S ι' (settles l s) a w
  | [], ι, s, h => ⟨ι, h⟩
  | (_, none) :: l, ι, s, h => RS.settles (l := l) h
  | (m, some t) :: l, ι, s, h => by
    obtain ⟨ι', h'⟩ := h.settle m t
    exact RS.settles (l := l) h'

theorem RS.canon (h : RS B S ι s a w) (x : List (Nat × Option Ty)) : ∃ ι', RS B S ι' (canon x s) a w := by
  have h1 : RS B S ι (Ex.dropAll (x.map (·.1)) s s.hp s) a w := RS.dropAll (x.map (·.1)) s h
  obtain ⟨ι', h2⟩ := RS.settles (l := x) h1
  have h3 := RS.dropAll (x.map (·.1)) (Ex.settles x (Ex.dropAll (x.map (·.1)) s s.hp s)) (l := (Ex.settles x (Ex.dropAll (x.map (·.1)) s s.hp s)).hp) h2
  refine ⟨ι', h3.hs, h3.dfr, h3.sz, ?_⟩
  intro t v hv
  simp only [Ex.canon] at hv
  generalize hs : Ex.dropAll (x.map (·.1)) (Ex.settles x (Ex.dropAll (x.map (·.1)) s s.hp s)) (Ex.settles x (Ex.dropAll (x.map (·.1)) s s.hp s)).hp (Ex.settles x (Ex.dropAll (x.map (·.1)) s s.hp s)) = s1 at hv h3
  have : v = s1.get t := by
    generalize x.map (·.1) = ts at hv
    clear h3 hs
    revert hv
    induction ts with
    | nil => intro hv; cases hv
    | cons t' l ih =>
      intro hv
      simp only [List.map_cons, look] at hv
      cases hb : Nat.beq t t' with
      | true =>
        rw [hb] at hv
        have := Nat.eq_of_beq_eq_true hb
        subst this
        cases hv; rfl
      | false => rw [hb] at hv; exact ih hv
  rw [this]
  have := h3.get t
  simp only [Ex.canon, hs]
  exact this

/-! ### results -/
theorem resA_sound (hE : EnvOk E) (h : RS B S ι s a w) : ∀ {rs : List ResultVar} {l : AV}, resA E s rs = some l →
    ∃ us, (rs.mapM fun r => (match r with
      | .tmp t => pure (a.tmps.getD t undef)
      | .cell c t => do loadVar t (← asAddr (a.tmps.getD c undef)) : Sem Value)).run E.P w = .ok us w ∧ VX w.heap S ι s.hp l us
  | [], l, hl => by
    simp only [resA, Option.some.injEq] at hl
    subst hl
    exact ⟨[], rfl, rfl⟩
  | .tmp t :: rs, l, hl => by
    simp only [resA] at hl
    split at hl
    · rename_i v hv
      cases hl
      obtain ⟨us, h1, h2⟩ := resA_sound hE h hv
      exact ⟨a.tmps.getD t undef :: us, by simp only [List.mapM_cons, Sem.run_bind, Sem.run_pure, Result.andThen, h1], _, us, rfl, h.get t, h2⟩
    · cases hl
  | .cell c T :: rs, l, hl => by
    simp only [resA] at hl
    split at hl
    · rename_i i p hc
      have hv := h.get c
      rw [hc] at hv
      obtain ⟨e, b, off, k1, k2, k3, k4⟩ := hv
      have k4 : a.tmps.getD c undef = .pointer (some ⟨b, off, none⟩) := by simpa using k4
      split at hl
      · rename_i u y hpt
        have hg := part_of k1 hpt
        split at hl
        · rename_i hck
          split at hl
          · rename_i v hv
            obtain ⟨us, h1, h2⟩ := resA_sound hE h hv
            obtain ⟨O2, m1, mn, m2, m3, m4, m5⟩ := Loc_mem (Loc_bag k3) (h.hs.ob i _ k1) h.hs.slt k2 hg k3
            have hld : (do loadVar T (← asAddr (a.tmps.getD c undef)) : Sem Value).run E.P w = .ok (toV u (cellsAt w.heap b off u.size)) w := by
              rw [k4]; simp [asAddr, run_loadVar (chk_ok hE hck) m2]
            refine ⟨toV u (cellsAt w.heap b off u.size) :: us, ?_, ?_⟩
            · simp only [List.mapM_cons]
              rw [Sem.run_bind, hld]
              simp only [Result.andThen, Sem.run_bind, Sem.run_pure, h1]
            · split at hl
              · rename_i hs
                cases hl
                have := m2.nilO hs
                subst this
                exact ⟨_, us, rfl, ⟨_, rfl, m2⟩, h2⟩
              · cases hl
                obtain ⟨r3, r4⟩ := Loc_place k3
                exact ⟨_, us, rfl, ⟨_, u, y, _, k1, k2, hg, ⟨b, off, r3, by rw [cellsAt_congr (VH_old r4)]⟩, rfl⟩, h2⟩
          · cases hl
        · cases hl
      · cases hl
    · cases hl

theorem results_run (hE : EnvOk E) (h : RS B S ι s a w) {fn : Func} (hres : fn.results.toList = E.res) {l : AV} (hl : resA E s E.res = some l) :
    ∃ us, (results fn a.tmps).run E.P w = .ok (retV us) w ∧ VX w.heap S ι s.hp l us := by
  obtain ⟨us, h1, h2⟩ := resA_sound hE h hl
  refine ⟨us, ?_, h2⟩
  rw [← hres] at h1
  have : (fn.results.mapM fun r => (match r with
      | .tmp t => pure (a.tmps.getD t undef)
      | .cell c t => do loadVar t (← asAddr (a.tmps.getD c undef)) : Sem Value)).run E.P w = .ok us.toArray w := by
    rw [Array.mapM_eq_mapM_toList, Sem.run_map, h1]; rfl
  simp only [results]
  rw [Sem.run_bind]
  refine (congrArg (fun r : Result (Array Value) => r.andThen fun vs w' => Sem.run E.P (pure (if h : vs.size = 1 then vs[0] else Value.tuple vs)) w') this).trans ?_
  simp only [Result.andThen, Sem.run_pure]
  match us with
  | [] => rfl
  | [v] => rfl
  | v :: v2 :: l => rfl

/-- one result -/
theorem retOne_rep (h : HS B S ι s.hp w) {t : Ty} {used used' : List Nat} {av : AV} {x : t.den} {v : Value} (hr : retOne s t used av = some (x, used')) (hv : VX w.heap S ι s.hp av [v]) :
    ∃ O cs, v = toV t cs ∧ Rep w.heap S t O cs x ∧ O.Nodup ∧ (∀ b ∈ O, ∃ i e, i ∈ used' ∧ i ∉ used ∧ pinned i = false ∧ look i s.hp = some e ∧ b ∈ blks ι i e) ∧ ∀ i ∈ used, i ∈ used' := by
  unfold retOne at hr
  split at hr
  · rename_i i
    split at hr
    · cases hr
    · rename_i hc
      simp only [Bool.or_eq_false_iff] at hc
      obtain ⟨hc1, hc2⟩ := hc
      have hnu : i ∉ used := by intro hm; simp [hm] at hc1
      obtain ⟨e, u, y, cs, h1, h2, h3, h4, h5⟩ := hv
      have key : ∀ {e0 : Ent}, s.obj i = some e0 → (hu : e0.ty = t) → ∀ {x}, x = castD hu e0.x → ∃ O cs, v = toV t cs ∧ Rep w.heap S t O cs x ∧ O.Nodup ∧ (∀ b ∈ O, ∃ j e, j ∈ i :: used ∧ j ∉ used ∧ pinned j = false ∧ look j s.hp = some e ∧ b ∈ blks ι j e) ∧ ∀ j ∈ used, j ∈ i :: used := by
        rintro e0 hob rfl x rfl
        obtain rfl := ent_of h1 hob
        rw [getP_nil] at h3; cases h3
        obtain ⟨O2, m1, m2, m3⟩ := sub_rep h h1 h2 getP_nil h4
        exact ⟨O2, cs, by simpa using h5, m3, m2, fun b hb => ⟨i, _, by simp, hnu, hc2, h1, own_blks (m1 b hb)⟩, fun j hj => by simp [hj]⟩
      split at hr
      · rename_i u' x' hob
        split at hr
        · rename_i hu; cases hr; exact key (e0 := .var u' x') hob hu rfl
        · cases hr
      · rename_i u' x' hob
        split at hr
        · rename_i hu; cases hr; exact key (e0 := .own u' x') hob hu rfl
        · cases hr
      · cases hr
  · rename_i i lo hi
    split at hr
    · cases hr
    · rename_i hc
      simp only [Bool.or_eq_false_iff] at hc
      obtain ⟨hc1, hc2⟩ := hc
      have hnu : i ∉ used := by intro hm; simp [hm] at hc1
      split at hr
      · rename_i u x' g hgv
        split at hr
        · rename_i hu
          cases hr
          subst hu
          obtain ⟨O, cs, k1, k2, k3, k4⟩ := give_rep h hgv hv
          have hgi : g = [i] := by
            simp only [AV.give] at hgv
            split at hgv <;> cases hgv
            rfl
          subst hgi
          refine ⟨O, cs, k1, k2, k3, fun b hb => ?_, fun j hj => by simp [hj]⟩
          obtain ⟨j, e, j1, j2, j3⟩ := k4 b hb
          simp only [List.mem_cons, List.not_mem_nil, or_false] at j1
          subst j1
          exact ⟨j, e, by simp, hnu, hc2, j2, j3⟩
        · cases hr
      · cases hr
  · rename_i i
    split at hr
    · cases hr
    · rename_i hc
      simp only [Bool.or_eq_false_iff] at hc
      obtain ⟨hc1, hc2⟩ := hc
      have hnu : i ∉ used := by intro hm; simp [hm] at hc1
      split at hr
      · rename_i u y hob
        split at hr
        · rename_i hu
          subst hu
          cases hr
          obtain ⟨e, b, off, h1, h2, h3, h4⟩ := hv
          obtain rfl := ent_of h1 hob
          obtain ⟨⟨O, hO, hR⟩, hf, hnd⟩ := h.ob i _ h1
          have hl : (ι.root i).1 = b ∧ (ι.root i).2 = off := by
            have := (Loc_place h3).1
            simp only [Place, Nav_nil, VR, Option.some.injEq, Prod.mk.injEq] at this
            exact this
          obtain ⟨rfl, rfl⟩ := hl
          refine ⟨(ι.root i).1 :: O, [.pointer (some ⟨(ι.root i).1, (ι.root i).2, none⟩)], by simpa [toV, Ty.agg] using h4, .inr ⟨_, _, _, O, rfl, rfl, hf.blk, hR, rfl, hf⟩, ((hO.cons _).nodup_iff).2 hnd, fun c hc => ⟨i, _, by simp, hnu, hc2, h1, ?_⟩, fun j hj => by simp [hj]⟩
          simp only [blks]
          exact ((hO.cons _).mem_iff).1 hc
        · cases hr
      · cases hr
  · rename_i f i
    split at hr
    · cases hr
    · rename_i hc
      simp only [Bool.or_eq_false_iff] at hc
      obtain ⟨hc1, hc2⟩ := hc
      have hnu : i ∉ used := by intro hm; simp [hm] at hc1
      split at hr
      · rename_i u y hob
        split at hr
        · rename_i hu
          subst hu
          cases hr
          obtain ⟨us, hv1, v0, us0, rfl, ⟨e, b, off, h1, h2, h3, h4⟩, hv2⟩ := hv
          have hv2 : us0 = [] := hv2
          subst hv2
          have h4 : v0 = .pointer (some ⟨b, off, none⟩) := by simpa using h4
          subst h4
          obtain rfl := ent_of h1 hob
          obtain ⟨⟨O, hO, hR⟩, hf, hnd⟩ := h.ob i _ h1
          have hl : (ι.root i).1 = b ∧ (ι.root i).2 = off := by
            have := (Loc_place h3).1
            simp only [Place, Nav_nil, VR, Option.some.injEq, Prod.mk.injEq] at this
            exact this
          obtain ⟨rfl, rfl⟩ := hl
          refine ⟨(ι.root i).1 :: O, [boxV (some f) ⟨(ι.root i).1, (ι.root i).2, none⟩], by simpa [toV, Ty.agg, boxV] using hv1, .inr ⟨_, _, _, O, rfl, rfl, hf.blk, hR, rfl, hf⟩, ((hO.cons _).nodup_iff).2 hnd, fun c hc => ⟨i, _, by simp, hnu, hc2, h1, ?_⟩, fun j hj => by simp [hj]⟩
          simp only [blks]
          exact ((hO.cons _).mem_iff).1 hc
        · cases hr
      · cases hr
  · split at hr
    · rename_i x' hx
      cases hr
      obtain ⟨cs, e, hR⟩ := as_rep hx hv
      exact ⟨[], cs, e, hR, List.nodup_nil, by simp, fun _ h => h⟩
    · cases hr

/-- results of their types, each object going out once -/
theorem retA_sound (h : HS B S ι s.hp w) : ∀ {rs : List Ty} {used : List Nat} {l : AV} {y : DL rs} {us : List Value}, retA s rs used l = some y → VX w.heap S ι s.hp l us →
    ∃ O, ResRep w.heap S rs O us y ∧ O.Nodup ∧ ∀ b ∈ O, ∃ i e, i ∉ used ∧ pinned i = false ∧ look i s.hp = some e ∧ b ∈ blks ι i e
  | [], used, l, y, us, hr, hv => by
    cases l <;> simp only [retA] at hr <;> first | cases hr | skip
    exact ⟨[], ⟨rfl, hv⟩, List.nodup_nil, by simp⟩
  | t :: ts, used, l, y, us, hr, hv => by
    cases l <;> simp only [retA] at hr <;> first | cases hr | skip
    rename_i av bv
    obtain ⟨v, us', rfl, ha, hb⟩ := hv
    split at hr
    · rename_i x used' h1
      split at hr
      · rename_i y' h2
        cases hr
        obtain ⟨O1, cs, k1, k2, k3, k4, k5⟩ := retOne_rep h h1 ha
        obtain ⟨O2, m1, m2, m3⟩ := retA_sound h h2 hb
        refine ⟨O1 ++ O2, ⟨v, us', O1, O2, cs, rfl, rfl, k1, k2, m1⟩, List.nodup_append.2 ⟨k3, m2, ?_⟩, ?_⟩
        · rintro c hc d hd rfl
          obtain ⟨i, e, i1, _, _, i2, i3⟩ := k4 c hc
          obtain ⟨j, e', j1, _, j2, j3⟩ := m3 c hd
          exact h.dj i j e e' i2 j2 (by rintro rfl; exact j1 i1) c i3 j3
        · intro c hc
          rcases List.mem_append.1 hc with hc | hc
          · obtain ⟨i, e, _, i1, i4, i2, i3⟩ := k4 c hc
            exact ⟨i, e, i1, i4, i2, i3⟩
          · obtain ⟨j, e', j1, j4, j2, j3⟩ := m3 c hc
            exact ⟨j, e', fun hj => j1 (k5 j hj), j4, j2, j3⟩
      · cases hr
    · cases hr

/-- the objects that parameters brought in to be written, and where they stay -/
def pinsOf : (ks : List PK) → List Value → Nat → List (Nat × (Nat × Nat) × List Value)
  | .rw _ :: ks, v :: vs, i => (match v with
    | .pointer (some a) => (2000000 + i, (a.block, a.off), [])
    | _ => (2000000 + i, (0, 0), [])) :: pinsOf ks vs (i + 1)
  | .mu _ :: ks, v :: vs, i => (2000000 + i, (0, 0), [v]) :: pinsOf ks vs (i + 1)
  | _ :: ks, _ :: vs, i => pinsOf ks vs (i + 1)
  | _, _, _ => []

theorem outA_sound (h : HS B S ι s.hp w) {H0 : Array Go.Obj} {S0 : Nat → Prop} : ∀ {ks : List PK} {vs : List Value} {x : DK ks} {L0 : List Nat} {j : Nat} {z : DL (wts ks)}, KsRep H0 S0 ks vs x L0 → (∀ q ∈ pinsOf ks vs j, q ∈ B.pins) → outA s ks j = some z →
    ∃ Lo, OutRep w.heap S ks vs z Lo ∧ Lo.Nodup ∧ ∀ b ∈ Lo, ∃ i e, 2000000 + j ≤ i ∧ look i s.hp = some e ∧ b ∈ blks ι i e
  | [], vs, x, L0, j, z, hK, _, hz => ⟨[], ⟨hK.1, rfl⟩, List.nodup_nil, by simp⟩
  | k :: ks, vs, x, L0, j, z, ⟨v, us, L1, L2, e1, e2, hk, hK⟩, hp, hz => by
    subst e1 e2
    have plain : ∀ {z' : DL (wts ks)}, (∀ q ∈ pinsOf ks us (j + 1), q ∈ B.pins) → outA s ks (j + 1) = some z' → ∃ Lo, OutRep w.heap S ks us z' Lo ∧ Lo.Nodup ∧ ∀ b ∈ Lo, ∃ i e, 2000000 + j ≤ i ∧ look i s.hp = some e ∧ b ∈ blks ι i e := by
      intro z' hp hz
      obtain ⟨Lo, k1, k2, k3⟩ := outA_sound h hK hp hz
      exact ⟨Lo, k1, k2, fun b hb => by obtain ⟨i, e, i1, i2, i3⟩ := k3 b hb; exact ⟨i, e, by omega, i2, i3⟩⟩
    have join : ∀ {L1 Lo : List Nat} {e0 : Ent}, look (2000000 + j) s.hp = some e0 → L1.Nodup → (∀ b ∈ L1, b ∈ blks ι (2000000 + j) e0) → Lo.Nodup → (∀ b ∈ Lo, ∃ i e, 2000000 + (j + 1) ≤ i ∧ look i s.hp = some e ∧ b ∈ blks ι i e) →
        (L1 ++ Lo).Nodup ∧ ∀ b ∈ L1 ++ Lo, ∃ i e, 2000000 + j ≤ i ∧ look i s.hp = some e ∧ b ∈ blks ι i e := by
      intro L1 Lo e0 h1 n1 m1 n2 m2
      refine ⟨List.nodup_append.2 ⟨n1, n2, ?_⟩, ?_⟩
      · rintro c hc d hd rfl
        obtain ⟨i, e, i1, i2, i3⟩ := m2 c hd
        exact h.dj (2000000 + j) i e0 e h1 i2 (by omega) c (m1 c hc) i3
      · intro b hb
        rcases List.mem_append.1 hb with hb | hb
        · exact ⟨_, e0, Nat.le_refl _, h1, m1 b hb⟩
        · obtain ⟨i, e, i1, i2, i3⟩ := m2 b hb; exact ⟨i, e, by omega, i2, i3⟩
    cases k with
    | v t => obtain ⟨Lo, k1, k2⟩ := plain hp hz; exact ⟨Lo, ⟨v, us, rfl, k1⟩, k2⟩
    | rd t => obtain ⟨Lo, k1, k2⟩ := plain hp hz; exact ⟨Lo, ⟨v, us, rfl, k1⟩, k2⟩
    | clo f ts => obtain ⟨Lo, k1, k2⟩ := plain hp hz; exact ⟨Lo, ⟨v, us, rfl, k1⟩, k2⟩
    | nilS => obtain ⟨Lo, k1, k2⟩ := plain hp hz; exact ⟨Lo, ⟨v, us, rfl, k1⟩, k2⟩
    | own t => obtain ⟨Lo, k1, k2⟩ := plain hp hz; exact ⟨Lo, ⟨v, us, rfl, k1⟩, k2⟩
    | rw t =>
      obtain ⟨b0, off0, O0, rfl, _, _, _⟩ := hk
      simp only [outA] at hz
      split at hz
      · rename_i u x' y' hob hz'
        split at hz
        · rename_i hu
          cases hz
          subst hu
          have hob : look (2000000 + j) s.hp = some (.var u x') := hob
          obtain ⟨Lo, k1, k2, k3⟩ := outA_sound h hK (fun q hq => hp q (by simp only [pinsOf]; exact List.mem_cons_of_mem _ hq)) hz'
          obtain ⟨_, _, p3, p4⟩ := h.pin (2000000 + j, (b0, off0), []) (hp _ (by simp [pinsOf]))
          have p3 : ι.root (2000000 + j) = (b0, off0) := p3
          obtain ⟨⟨O, hO, hR⟩, hfr, hnd⟩ := (h.ob _ _ hob : OB w.heap S ι (2000000 + j) (.var u x'))
          rw [p3] at hR hfr hnd
          have hnd' : (b0 :: O).Nodup := List.nodup_cons.2 ⟨fun hb => (List.nodup_cons.1 hnd).1 (hO.mem_iff.1 hb), hO.nodup_iff.2 (List.nodup_cons.1 hnd).2⟩
          obtain ⟨j1, j2⟩ := join hob hnd' (fun b hb => by
            rcases List.mem_cons.1 hb with rfl | hb
            · simp [blks, p3]
            · simp [blks, hO.mem_iff.1 hb]) k2 k3
          exact ⟨(b0 :: O) ++ Lo, ⟨b0, off0, O, us, Lo, rfl, hR, hfr, rfl, k1⟩, j1, j2⟩
        · cases hz
      · cases hz
    | mu t =>
      obtain ⟨cs0, rfl, hR0⟩ := hk
      simp only [outA] at hz
      split at hz
      · rename_i u x' y' hob hz'
        split at hz
        · rename_i hu
          cases hz
          subst hu
          have hob : look (2000000 + j) s.hp = some (.own (.slc true t) x') := hob
          obtain ⟨Lo, k1, k2, k3⟩ := outA_sound h hK (fun q hq => hp q (by simp only [pinsOf]; exact List.mem_cons_of_mem _ hq)) hz'
          obtain ⟨_, _, p3, p4⟩ := h.pin (2000000 + j, (0, 0), [toV (.slc true t) cs0]) (hp _ (by simp [pinsOf]))
          have p4 : ι.cells (2000000 + j) = [toV (.slc true t) cs0] := p4
          obtain ⟨⟨O, hO, hR⟩, hnd⟩ := (h.ob _ _ hob : OB w.heap S ι (2000000 + j) (.own (.slc true t) x'))
          rw [p4] at hR
          obtain ⟨j1, j2⟩ := join hob (hO.nodup_iff.2 hnd) (fun b hb => hO.mem_iff.1 hb) k2 k3
          exact ⟨O ++ Lo, ⟨[toV (.slc true t) cs0], O, us, Lo, rfl, rfl, hR, rfl, k1⟩, j1, j2⟩
        · cases hz
      · cases hz

end
end Go.Ex

namespace Go.Ex

/-! ### ranges: what every reading keeps -/
def rngL {α : Type} (p : α → Prop) (l : List α) : Prop := ∀ x ∈ l, p x

def rng : (t : Ty) → t.den → Prop
  | .int k, n => inK k n
  | .bool, _ => True
  | .str, s => List.length s ≤ maxLen
  | .unit, _ => True
  | .fn _, _ => True
  | .hole _, _ => True
  | .map _ k v, x => match x with
    | none => True
    | some l => rngL (fun p => rng k p.1 ∧ rng v p.2) l
  | .box _ _ t, x => match x with
    | none => True
    | some y => rng t y
  | .pair a b, x => rng a x.1 ∧ rng b x.2
  | .arr n t, l => List.length l = n ∧ rngL (rng t) l
  | .slc _ t, l => List.length l ≤ maxLen ∧ rngL (rng t) l

def AV.rng : AV → Prop
  | .val t x => Ex.rng t x
  | .rptr t x => Ex.rng t x
  | _ => True

def frRng : List (Nat × AV) → Prop
  | [] => True
  | (_, v) :: l => v.rng ∧ frRng l

def hpRng : List (Nat × Ent) → Prop
  | [] => True
  | (_, .var t x) :: l => Ex.rng t x ∧ hpRng l
  | (_, .own t x) :: l => Ex.rng t x ∧ hpRng l
  | (_, .bag) :: l => hpRng l

def St.rng (s : St) : Prop := frRng s.fr ∧ hpRng s.hp

def PK.rng : (k : PK) → k.den → Prop
  | .v t, x => Ex.rng t x
  | .rd t, x => Ex.rng t x
  | .clo _ ts, x => rdRng ts x
  | .own t, x => Ex.rng t x
  | .rw t, x => Ex.rng t x
  | .mu t, x => Ex.rng (.slc true t) x
  | .nilS, _ => True
where rdRng : (ts : List Ty) → DL ts → Prop
  | [], _ => True
  | t :: ts, x => Ex.rng t x.1 ∧ rdRng ts x.2

def ksRng : (ks : List PK) → DK ks → Prop
  | [], _ => True
  | k :: ks, x => k.rng x.1 ∧ ksRng ks x.2

section
variable {E : Env} {B : Base} {S S' : Nat → Prop} {ι : Ix} {s : St} {a : Act} {w : World} {hp : List (Nat × Ent)} {H H' : Array Go.Obj}

theorem RepL.rng {t : Ty} (hr : ∀ {O : List Nat} {cs : List Value} {x : t.den}, Rep H S t O cs x → Ex.rng t x) : ∀ {l : List t.den} {O : List Nat} {cs : List Value}, RepL (Rep H S t) t.size O cs l → rngL (Ex.rng t) l
  | [], _, _, _ => by intro x hx; cases hx
  | x :: l, _, _, ⟨O1, O2, _, h1, h2⟩ => by
    intro y hy
    rcases List.mem_cons.1 hy with rfl | hy
    · exact hr h1
    · exact RepL.rng hr h2 y hy

theorem RepM.rng {t u : Ty} (hr : ∀ {cs : List Value} {x : t.den}, Rep H S t [] cs x → Ex.rng t x) (hr' : ∀ {cs : List Value} {x : u.den}, Rep H S u [] cs x → Ex.rng u x) : ∀ {es : List MapEntry} {l : List (t.den × u.den)}, RepM (Rep H S t []) (Rep H S u []) t u es l → rngL (fun p => Ex.rng t p.1 ∧ Ex.rng u p.2) l
  | [], l, h => by rw [show l = [] from h]; intro x hx; cases hx
  | e :: es, l, ⟨x, y, l', cs, ds, e1, _, h1, _, h2, h3⟩ => by
    rw [e1]; intro p hp
    rcases List.mem_cons.1 hp with rfl | hp
    · exact ⟨hr h1, hr' h2⟩
    · exact RepM.rng hr hr' h3 p hp

theorem Rep.rng : ∀ {t : Ty} {O : List Nat} {cs : List Value} {x : t.den}, Rep H S t O cs x → Ex.rng t x := by
  intro t
  induction t with
  | int k => intro O cs x h; exact h.2.2
  | bool => intro O cs x h; trivial
  | str => intro O cs x h; exact h.2.2
  | fn f => intro O cs x _; exact trivial
  | hole t _ => intro O cs x _; exact trivial
  | map o k v ihk ihv =>
    rintro O cs x (⟨rfl, _⟩ | ⟨l, b, es, ck, rfl, _, _, h4, _⟩)
    · trivial
    · exact RepM.rng (fun h => ihk h) (fun h => ihv h) h4
  | box o g t ih =>
    rintro O cs x (⟨rfl, _⟩ | ⟨y, b, off, O', rfl, _, _, h3, _⟩)
    · trivial
    · exact ih h3
  | unit => intro O cs x h; trivial
  | pair a c iha ihc => rintro O cs x ⟨O1, O2, _, h1, h2⟩; exact ⟨iha h1, ihc h2⟩
  | arr n t ih => rintro O cs x ⟨h1, h2⟩; exact ⟨h1, RepL.rng (fun h => ih h) h2⟩
  | slc o t ih =>
    rintro O cs x h
    rcases h with ⟨_, _, h3⟩ | ⟨b, off, cap, O', c1, c2, c3, c4, c5, c6⟩
    · subst h3; exact ⟨Nat.zero_le _, by intro x hx; cases hx⟩
    · exact ⟨Nat.le_trans c2 c3.1, RepL.rng (fun h => ih h) c5⟩

theorem VX.rng {v : AV} {vs : List Value} (h : VX H S ι hp v vs) : v.rng := by
  cases v <;> try trivial
  · obtain ⟨cs, _, h⟩ := h; exact h.rng
  · obtain ⟨b, off, _, _, _, h⟩ := h; exact h.rng

theorem RS.rng (h : RS B S ι s a w) (h1 : uniq s.fr) (h2 : uniq s.hp) : s.rng := by
  have look_tail : ∀ {α : Type} {n m : Nat} {x : α} {l : List (Nat × α)} {y : α}, look m l = none → look n l = some y → look n ((m, x) :: l) = some y := by
    intro α n m x l y h1 h2
    simp only [look]
    cases hb : Nat.beq n m with
    | true =>
      have := Nat.eq_of_beq_eq_true hb
      subst this
      rw [h1] at h2; cases h2
    | false => exact h2
  have fr : ∀ l : List (Nat × AV), uniq l → (∀ t v, look t l = some v → v.rng) → frRng l := by
    intro l
    induction l with
    | nil => intro _ _; trivial
    | cons q l ih =>
      obtain ⟨n, v⟩ := q
      rintro ⟨k0, k2⟩ k3
      have k1 := uniq_look k0
      exact ⟨k3 n v (by simp [look]), ih k2 (fun t v hv => k3 t v (look_tail k1 hv))⟩
  have hpp : ∀ l : List (Nat × Ent), uniq l → (∀ t e, look t l = some e → Ex.rng e.ty e.x) → hpRng l := by
    intro l
    induction l with
    | nil => intro _ _; trivial
    | cons q l ih =>
      obtain ⟨n, e⟩ := q
      rintro ⟨k0, k2⟩ k3
      have k1 := uniq_look k0
      have h0 := k3 n e (by simp [look])
      have h3 := ih k2 (fun t e he => k3 t e (look_tail k1 he))
      cases e <;> first | exact ⟨h0, h3⟩ | exact h3
  refine ⟨fr _ h1 (fun t v hv => (h.fr t v hv).rng), hpp _ h2 (fun i e he => ?_)⟩
  have := h.hs.ob i e he
  cases e with
  | var t x => obtain ⟨⟨O, _, hR⟩, _⟩ := this; exact hR.rng
  | own t x => obtain ⟨⟨O, _, hR⟩, _⟩ := this; exact hR.rng
  | bag => trivial

/-! ### the evaluator is sound -/
def Base.of (w : World) (S : Nat → Prop) (ps : List PK) (vs : List Value) (L : List Nat) (n : Nat) : Base := ⟨w, S, fun b => b ∈ L, n, pinsOf ps vs 0⟩

/-- from this place and this state the function comes to its end with the results y, having written z, whatever the world -/
def Reach (E : Env) (fn : Func) (y : DL E.rs) (z : DL (wts E.ps)) (k : List Item) (s : St) : Prop :=
  ∀ (w0 : World) (S0 : Nat → Prop) (vs : List Value) (x : DK E.ps) (L : List Nat) (S : Nat → Prop) (ι : Ix) (a : Act) (w : World), (∀ b, S0 b → b < w0.heap.size) → KsRep w0.heap S0 E.ps vs x L →
    RS (Base.of w0 S0 E.ps vs L fn.ntmps) S ι s a w → At E.P fn (ResOk w0 S0 E.rs E.ps vs L y z) k a w

structure FnOk (E : Env) (fn : Func) : Prop where
  nt : fn.ntmps = E.nt
  res : fn.results.toList = E.res

theorem app_inj : ∀ {a b : List Ty} {x x' : DL a} {y y' : DL b}, DL.app x y = DL.app x' y' → x = x' ∧ y = y'
  | [], _, _, _, _, _, h => ⟨rfl, h⟩
  | _ :: _, _, x, x', _, _, h => by
    have h1 := congrArg Prod.fst h
    have h2 := congrArg Prod.snd h
    obtain ⟨h3, h4⟩ := app_inj h2
    exact ⟨Prod.ext h1 h3, h4⟩

theorem finish_sound (hE : EnvOk E) {fn : Func} (hf : FnOk E fn) {y : DL E.rs} {z : DL (wts E.ps)} {L' : Code → List Item → St → Prop} (ht : (finish E s).holds L' (· = DL.app y z)) {w0 : World} {S0 : Nat → Prop} {vs : List Value} {x : DK E.ps} {L : List Nat} (hK : KsRep w0.heap S0 E.ps vs x L)
    (h : RS (Base.of w0 S0 E.ps vs L fn.ntmps) S ι s a w) (e : Exit) (he : e = .normal ∨ e = .ret) :
    bodyPost E.P fn (ResOk w0 S0 E.rs E.ps vs L y z) e a w := by
  unfold finish at ht
  split at ht
  · exact ht.elim
  · rename_i l hl
    split at ht
    · rename_i y' z' hy hz
      have ht : DL.app y' z' = DL.app y z := ht
      obtain ⟨rfl, rfl⟩ := app_inj ht
      obtain ⟨us, h1, h2⟩ := results_run hE h hf.res hl
      obtain ⟨O, k1, k2, k3⟩ := retA_sound h.hs hy h2
      obtain ⟨Lo, m1, m2, m3⟩ := outA_sound h.hs hK (fun q hq => hq) hz
      have hR : ResOk w0 S0 E.rs E.ps vs L y' z' (.returned (retV us)) w := by
        refine ⟨us, O, Lo, S, rfl, ⟨h.hs.os, h.hs.tape, h.hs.out, h.hs.size, fun c hc hL => h.hs.frame c hc hL⟩, h.hs.s0, fun b hb => ?_, k1, m1, List.nodup_append.2 ⟨k2, m2, ?_⟩, fun b hb => ?_⟩
        · rcases h.hs.s1 b hb with h1 | h1
          · exact .inl h1
          · exact .inr ⟨h1, h.hs.slt b hb⟩
        · rintro c hc d hd rfl
          obtain ⟨i, e, i0, ip, i1, i2⟩ := k3 c hc
          obtain ⟨j, e', j0, j1, j2⟩ := m3 c hd
          refine h.hs.dj i j e e' i1 j1 ?_ c i2 j2
          rintro rfl
          have : pinned i = true := by simp only [pinned, Nat.ble_eq]; omega
          rw [ip] at this; cases this
        · have : ∃ i e, look i s.hp = some e ∧ b ∈ blks ι i e := by
            rcases List.mem_append.1 hb with hb | hb
            · obtain ⟨i, e, _, _, n2, n3⟩ := k3 b hb; exact ⟨i, e, n2, n3⟩
            · obtain ⟨i, e, _, n2, n3⟩ := m3 b hb; exact ⟨i, e, n2, n3⟩
          obtain ⟨i, e, n2, n3⟩ := this
          exact h.hs.bl i e n2 b n3
      rcases he with rfl | rfl
      · exact ⟨h.dfr, _, h1, hR⟩
      · exact ⟨h.dfr, _, h1, hR⟩
    · exact ht.elim

theorem holds_cond {rs : List Ty} {L : Code → List Item → St → Prop} {R : DL rs → Prop} {b : Bool} {t e : Tree rs} : (cond b t e).holds L R ↔ (b = true → t.holds L R) ∧ (b = false → e.holds L R) := by
  cases b <;> simp

theorem ks_notake : ∀ {ks : List PK} {H : Array Go.Obj} {S : Nat → Prop} {vs : List Value} {x : DK ks} {L : List Nat}, ks.any PK.takes = false → KsRep H S ks vs x L → L = []
  | [], _, _, _, _, _, _, h => h.2
  | k :: ks, _, _, _, _, _, hp, ⟨v, us, L1, L2, _, e, h1, h2⟩ => by
    rw [List.any_cons, Bool.or_eq_false_iff] at hp
    have e2 := ks_notake hp.2 h2
    have e1 : L1 = [] := by
      cases k <;> first | (exfalso; simp [PK.takes] at hp; done) | exact h1.1
    rw [e, e1, e2]; rfl

theorem exec_sound (hE : EnvOk E) {fn : Func} (hf : FnOk E fn) {y : DL E.rs} {z : DL (wts E.ps)} : ∀ {n : Nat} {k : List Item} {s : St}, (exec E n k s).holds (fun c k s => Reach E fn y z (.code c :: .inLoop c :: k) s) (· = DL.app y z) → Reach E fn y z k s
  | 0, k, s, ht => ht.elim
  | n + 1, k, s, ht => by
    intro w0 S0 vs x L S ι a w hS0 hK h
    unfold exec at ht
    split at ht
    · exact At.done (finish_sound hE hf ht hK h _ (.inl rfl))
    · refine At.step (fun b cs => step_inBlock) ?_
      exact exec_sound hE hf ht w0 S0 vs x L S ι a w hS0 hK h
    · rename_i c k'
      refine At.step (fun b cs => step_inLoop) ?_
      obtain ⟨S2, ι2, h2⟩ := demCut_sound (E := E) (l := (look (firstRegion c) E.cuts).getD []) (fun hp b hb => by have hb : b ∈ L := hb; rw [ks_notake hp hK] at hb; cases hb) h
      obtain ⟨ι', h'⟩ := h2.canon ((look (firstRegion c) E.cuts).getD [])
      exact ht w0 S0 vs x L S2 ι' a w hS0 hK h'
    · rename_i c k'
      split at ht
      · exact At.step (fun b cs => step_skip) (exec_sound hE hf ht w0 S0 vs x L S ι a w hS0 hK h)
      · exact At.step (fun b cs => step_seq) (exec_sound hE hf ht w0 S0 vs x L S ι a w hS0 hK h)
      · rename_i xc c1 c2
        split at ht
        · rename_i g hg
          have hgv := VX.bool_inv (evx h hg)
          refine At.step (fun b cs => step_cond hgv) ?_
          cases g with
          | true => exact exec_sound hE hf ht w0 S0 vs x L S ι a w hS0 hK h
          | false => exact exec_sound hE hf ht w0 S0 vs x L S ι a w hS0 hK h
        · exact ht.elim
      · exact At.step (fun b cs => step_block) (exec_sound hE hf ht w0 S0 vs x L S ι a w hS0 hK h)
      · rename_i c'
        obtain ⟨S2, ι2, h2⟩ := demCut_sound (E := E) (l := (look (firstRegion c') E.cuts).getD []) (fun hp b hb => by have hb : b ∈ L := hb; rw [ks_notake hp hK] at hb; cases hb) h
        obtain ⟨ι', h'⟩ := h2.canon ((look (firstRegion c') E.cuts).getD [])
        exact At.step (fun b cs => step_loop) (ht w0 S0 vs x L S2 ι' a w hS0 hK h')
      · split at ht
        · rename_i k2 hx
          exact At.step (fun b cs => step_exit hx) (exec_sound hE hf ht w0 S0 vs x L S ι a w hS0 hK h)
        · exact ht.elim
      · exact At.ret (finish_sound hE hf ht hK h _ (.inr rfl))
      · rename_i id ops draw
        split at ht
        · refine At.region (wp_region_list ?_)
          exact regF_sound hE (by exact hf.nt) (fun hp b hb => by have hb : b ∈ L := hb; rw [ks_notake hp hK] at hb; cases hb) (m := 0) (l := ops.toList) (Q := fun e a w => e = .normal ∧ At E.P fn (ResOk w0 S0 E.rs E.ps vs L y z) k' a w) (fun S' ι' s' a' w' h1 h2 => ⟨rfl, exec_sound hE hf h2 w0 S0 vs x L S' ι' a' w' hS0 hK h1⟩) h ht
        · split at ht
          · rename_i hd
            rcases regD_runs (acc' := []) rfl (by simp) ht with ⟨s', h1, h2⟩ | ⟨q, s', _, hA, h1, h2⟩
            · exact At.region (drawn_region hE (by exact hf.nt) hd h1 (fun S' ι' a' w' h3 => ⟨rfl, exec_sound hE hf h2 w0 S0 vs x L S' ι' a' w' hS0 hK h3⟩) h.forgetA)
            · have hany : look q.d (forgetA ops.toList s).fr = some .any := by
                obtain ⟨oa, c, a1, _, a3, _, a5, a6, _⟩ := hA
                exact forgetA_any a5 a6 a3 (by have := Array.mem_of_getElem? a1; simpa using this)
              exact At.region (drawn_pend hE (by exact hf.nt) hd hA h1 h2 hany (fun S' ι' s2 a' w' h3 h4 => ⟨rfl, exec_sound hE hf h4 w0 S0 vs x L S' ι' a' w' hS0 hK h3⟩) h.forgetA)
          · exact ht.elim
      · exact ht.elim
    · exact ht.elim

theorem Tree.holds.mono {rs : List Ty} {L L' : Code → List Item → St → Prop} {R : DL rs → Prop} : ∀ {t : Tree rs}, t.holds L R → (∀ c k s, L c k s → L' c k s) → t.holds L' R
  | .need _ _, h, hl => ⟨h.1, fun hp => (h.2 hp).mono hl⟩
  | .both _ _ _, h, hl => ⟨fun hp => (h.1 hp).mono hl, h.2.mono hl⟩
  | .cut c k s, h, hl => hl c k s h
  | .ret _, h, _ => h
  | .stuck _, h, _ => h

/-- a loop: an invariant over the state's variables, and a measure -/
theorem Reach.loop (hE : EnvOk E) {fn : Func} (hf : FnOk E fn) {y : DL E.rs} {z : DL (wts E.ps)} {c : Code} {k : List Item} {α : Type} (mk : α → St) (I : α → Prop) (μ : α → Nat) (n : Nat) (hu : ∀ x, uniq (mk x).fr ∧ uniq (mk x).hp)
    (h : ∀ x, I x → (mk x).rng → (exec E n (.code c :: .inLoop c :: k) (mk x)).holds (fun c' k' s' => (c' = c ∧ k' = k ∧ ∃ x', s' = mk x' ∧ I x' ∧ μ x' < μ x) ∨ Reach E fn y z (.code c' :: .inLoop c' :: k') s') (· = DL.app y z)) :
    ∀ x, I x → Reach E fn y z (.code c :: .inLoop c :: k) (mk x) := by
  have key : ∀ m x, μ x = m → I x → Reach E fn y z (.code c :: .inLoop c :: k) (mk x) := by
    intro m
    induction m using Nat.strongRecOn with
    | _ m ih =>
      intro x hm hI w0 S0 vs x0 L S ι a w hS0 hK hrs
      have hx := h x hI (hrs.rng (hu x).1 (hu x).2)
      refine exec_sound hE hf (hx.mono ?_) w0 S0 vs x0 L S ι a w hS0 hK hrs
      rintro c' k' s' (⟨rfl, rfl, x', rfl, h1, h2⟩ | h1)
      · exact ih (μ x') (hm ▸ h2) x' rfl h1
      · exact h1
  exact fun x hI => key (μ x) x rfl hI

end
end Go.Ex

namespace Go.Ex

section
variable {E : Env} {B : Base} {S S' : Nat → Prop} {ι : Ix} {s : St} {a : Act} {w : World} {hp : List (Nat × Ent)} {H H' : Array Go.Obj}

theorem VX.has {v : AV} {i : Nat} : ∀ {vs : List Value}, VX H S ι hp v vs → v.ment i = true → ∃ e, look i hp = some e := by
  induction v with
  | cons a b iha ihb =>
    rintro vs ⟨v, us, _, ha, hb⟩ hm
    simp only [AV.ment, Bool.or_eq_true] at hm
    exact hm.elim (iha ha) (ihb hb)
  | tup l ih => rintro vs ⟨us, _, h⟩ hm; exact ih h hm
  | clo f l ih => rintro vs ⟨us, _, h⟩ hm; exact ih h hm
  | bx l ih => rintro vs ⟨_, _, u, _, _, _, _, h⟩ hm; exact ih h hm
  | ptr j p => rintro vs ⟨e, _, _, h1, _⟩ hm; have := Nat.eq_of_beq_eq_true hm; subst this; exact ⟨e, h1⟩
  | at_ j p => rintro vs ⟨e, _, _, _, h1, _⟩ hm; have := Nat.eq_of_beq_eq_true hm; subst this; exact ⟨e, h1⟩
  | sub j p a b => rintro vs ⟨e, _, h1, _⟩ hm; have := Nat.eq_of_beq_eq_true hm; subst this; exact ⟨e, h1⟩
  | _ => intro vs _ hm; cases hm

/-- what a function finds where it begins -/
structure Begins (B : Base) (S : Nat → Prop) (w : World) (ks : List PK) (vs : List Value) (x : DK ks) (L : List Nat) (i : Nat) (ι : Ix) : Prop where
  hs : HS B S ι (argsHp ks x i) w
  fr : ∀ t v, look t (argsFr ks x i) = some v → i ≤ t ∧ ∃ val, vs[t - i]? = some val ∧ VX w.heap S ι (argsHp ks x i) v [val]
  pins : ∀ q ∈ pinsOf ks vs i, pinned q.1 = true ∧ (∃ e, look q.1 (argsHp ks x i) = some e) ∧ ι.root q.1 = q.2.1 ∧ ι.cells q.1 = q.2.2
  keys : ∀ k e, look k (argsHp ks x i) = some e → ∃ m, i ≤ m ∧ m < 1000 ∧ (k = 1500000 + m ∨ k = 2000000 + m)
  own : ∀ k e, look k (argsHp ks x i) = some e → ∀ b ∈ blks ι k e, b ∈ L
  rest : ∀ k, look k (argsHp ks x i) = none → ι.root k = (0, 0) ∧ ι.cells k = []

theorem begins (hB : B.pins = []) (hw : B.w0 = w) (hS0 : B.S0 = S) (hS : ∀ b, S b → b < w.heap.size) : ∀ {ks : List PK} {vs : List Value} {x : DK ks} {L : List Nat} {i : Nat}, KsRep w.heap S ks vs x L → L.Nodup → (∀ b ∈ L, ¬ S b ∧ B.M b ∧ b < w.heap.size) → i + ks.length ≤ 1000 → ∃ ι, Begins B S w ks vs x L i ι
  | [], vs, x, L, i, hK, _, _, _ => by
    refine ⟨⟨fun _ => (0, 0), fun _ => [], fun _ => []⟩, ⟨?_, ?_, ?_, ?_, ?_, fun k _ => ⟨rfl, rfl⟩⟩⟩
    · subst hw
      subst hS0
      refine ⟨rfl, .refl _, rfl, Nat.le_refl _, fun _ _ _ => rfl, hS, fun _ h => h, fun b hb => .inl hb, ?_, ?_, ?_, ?_⟩
      · intro i e hi; cases hi
      · intro i e hi; cases hi
      · intro i j ei ej hi; cases hi
      · intro q hq; rw [hB] at hq; cases hq
    · intro t v h; cases h
    · intro q hq; simp [pinsOf] at hq
    · intro k e h; cases h
    · intro k e h; cases h
  | k :: ks, vs, x, L, i, ⟨v, us, L1, L2, e1, e2, hk, hK⟩, hn, hL, hi => by
    subst e1 e2
    have hnL := List.nodup_append.1 hn
    obtain ⟨ι, hb⟩ := begins (i := i + 1) hB hw hS0 hS hK hnL.2.1 (fun b hb => hL b (by simp [hb])) (by simp only [List.length_cons] at hi; omega)
    simp only [List.length_cons] at hi
    -- a parameter that is read alone
    have plain : ∀ {v0 : AV}, argsFr (k :: ks) x i = (i, v0) :: argsFr ks x.2 (i + 1) → argsHp (k :: ks) x i = argsHp ks x.2 (i + 1) → pinsOf (k :: ks) (v :: us) i = pinsOf ks us (i + 1) → VX w.heap S ι (argsHp ks x.2 (i + 1)) v0 [v] → ∃ ι, Begins B S w (k :: ks) (v :: us) x (L1 ++ L2) i ι := by
      intro v0 h1 h2 h3 h4
      refine ⟨ι, by rw [h2]; exact hb.hs, ?_, by rw [h3, h2]; exact hb.pins, ?_, ?_, by rw [h2]; exact hb.rest⟩
      · intro t u hu
        rw [h1] at hu
        simp only [look] at hu
        rw [h2]
        cases hbq : Nat.beq t i with
        | true =>
          rw [hbq] at hu
          have := Nat.eq_of_beq_eq_true hbq
          subst this
          cases hu
          exact ⟨Nat.le_refl _, v, by simp, h4⟩
        | false =>
          rw [hbq] at hu
          obtain ⟨k1, val, k2, k3⟩ := hb.fr t u hu
          refine ⟨by omega, val, ?_, k3⟩
          rw [show t - i = (t - (i + 1)) + 1 from by omega]
          simpa using k2
      · intro q e hq
        rw [h2] at hq
        obtain ⟨m, m1, m2, m3⟩ := hb.keys q e hq
        exact ⟨m, by omega, m2, m3⟩
      · intro q e hq b hbb
        rw [h2] at hq
        exact List.mem_append_right _ (hb.own q e hq b hbb)
    -- a parameter with an object
    have obj : ∀ {v0 : AV} {d : Nat} {e : Ent} {ι' : Ix}, argsFr (k :: ks) x i = (i, v0) :: argsFr ks x.2 (i + 1) → argsHp (k :: ks) x i = Ex.put d e (argsHp ks x.2 (i + 1)) → (d = 1500000 + i ∨ d = 2000000 + i) →
        (∀ q ∈ pinsOf (k :: ks) (v :: us) i, q ∈ pinsOf ks us (i + 1) ∨ (pinned q.1 = true ∧ q.1 = d ∧ ι'.root d = q.2.1 ∧ ι'.cells d = q.2.2)) → (∀ j, j ≠ d → SameAt ι ι' j) → OB w.heap S ι' d e → (∀ b ∈ blks ι' d e, b ∈ L1) →
        VX w.heap S ι' (Ex.put d e (argsHp ks x.2 (i + 1))) v0 [v] → ∃ ι, Begins B S w (k :: ks) (v :: us) x (L1 ++ L2) i ι := by
      intro v0 d e ι' h1 h2 hd h3 hs hob hbl h4
      have hnone : look d (argsHp ks x.2 (i + 1)) = none := by
        cases hlk : look d (argsHp ks x.2 (i + 1)) with
        | none => rfl
        | some e' => exfalso; obtain ⟨m, m1, m2, m3⟩ := hb.keys d e' hlk; omega
      have hF : Flt B S ι (argsHp ks x.2 (i + 1)) w L1 := by
        refine ⟨hnL.1, fun b hbb => ?_⟩
        obtain ⟨l1, l2, l3⟩ := hL b (by simp [hbb])
        exact ⟨l1, .inr l2, l3, fun j ej hj hbj => hnL.2.2 b hbb b (hb.own j ej hj b hbj) rfl⟩
      have hns : ∀ {u : AV} {us' : List Value}, VX w.heap S ι (argsHp ks x.2 (i + 1)) u us' → u.ment d = false := by
        intro u us' hu
        cases hm : u.ment d with
        | false => rfl
        | true => obtain ⟨e', he'⟩ := hu.has hm; rw [hnone] at he'; cases he'
      refine ⟨ι', by rw [h2]; exact hb.hs.add hnone hs hob hbl hF, ?_, ?_, ?_, ?_, ?_⟩
      · intro t u hu
        rw [h1] at hu
        simp only [look] at hu
        rw [h2]
        cases hbq : Nat.beq t i with
        | true =>
          rw [hbq] at hu
          have := Nat.eq_of_beq_eq_true hbq
          subst this
          cases hu
          exact ⟨Nat.le_refl _, v, by simp, h4⟩
        | false =>
          rw [hbq] at hu
          obtain ⟨k1, val, k2, k3⟩ := hb.fr t u hu
          refine ⟨by omega, val, ?_, VX.add hs (hns k3) k3⟩
          rw [show t - i = (t - (i + 1)) + 1 from by omega]
          simpa using k2
      · intro q hq
        rw [h2]
        rcases h3 q hq with hq | ⟨q1, q2, q3, q4⟩
        · obtain ⟨r1, ⟨e', r2⟩, r3, r4⟩ := hb.pins q hq
          have hne : q.1 ≠ d := by intro hqd; rw [hqd, hnone] at r2; cases r2
          obtain ⟨s1, s2, s3⟩ := hs q.1 hne
          exact ⟨r1, ⟨e', by rw [look_put, if_neg hne]; exact r2⟩, s1.trans r3, s2.trans r4⟩
        · exact ⟨q1, ⟨e, by rw [look_put, if_pos q2]⟩, by rw [q2]; exact q3, by rw [q2]; exact q4⟩
      · intro q e' hq
        rw [h2, look_put] at hq
        split at hq
        · rename_i hqd; exact ⟨i, Nat.le_refl _, by omega, by omega⟩
        · obtain ⟨m, m1, m2, m3⟩ := hb.keys q e' hq
          exact ⟨m, by omega, m2, m3⟩
      · intro q e' hq b hbb
        rw [h2, look_put] at hq
        split at hq
        · rename_i hqd; subst hqd; cases hq; exact List.mem_append_left _ (hbl b hbb)
        · rename_i hqd
          rw [(hs q hqd).blks] at hbb
          exact List.mem_append_right _ (hb.own q e' hq b hbb)
      · intro q hq
        rw [h2, look_put] at hq
        split at hq
        · cases hq
        · rename_i hqd
          obtain ⟨s1, s2, s3⟩ := hs q hqd
          obtain ⟨r1, r2⟩ := hb.rest q hq
          exact ⟨s1.trans r1, s2.trans r2⟩
    have hrest : ∀ d, d = 1500000 + i ∨ d = 2000000 + i → ι.root d = (0, 0) ∧ ι.cells d = [] := by
      intro d hd
      refine hb.rest d ?_
      cases hlk : look d (argsHp ks x.2 (i + 1)) with
      | none => rfl
      | some e' => exfalso; obtain ⟨m, m1, m2, m3⟩ := hb.keys d e' hlk; omega
    cases k with
    | v t => obtain ⟨_, cs, e1, hR⟩ := hk; exact plain rfl rfl rfl ⟨cs, by rw [e1], hR⟩
    | nilS => exact plain rfl rfl rfl (by rw [hk.2]; rfl)
    | rd t => obtain ⟨_, b, off, e1, k1, k2, k3⟩ := hk; exact plain rfl rfl rfl ⟨b, off, by rw [e1], k1, k2, k3⟩
    | clo f ts =>
      obtain ⟨_, ws, e1, hl⟩ := hk
      refine plain rfl rfl rfl ⟨ws, by rw [e1], ?_⟩
      have : ∀ {ts : List Ty} {ws : List Value} {y : DL ts}, RdL w.heap S ts ws y → VX w.heap S ι (argsHp ks x.2 (i + 1)) (argsFr.rdA ts y) ws := by
        intro ts
        induction ts with
        | nil => intro ws y h; exact h
        | cons t ts ih =>
          rintro ws y ⟨v, us, e, ⟨b, off, e1, k1, k2, k3⟩, hl⟩
          exact ⟨v, us, e, ⟨b, off, by rw [e1], k1, k2, k3⟩, ih hl⟩
      exact this hl
    | own t =>
      obtain ⟨cs, rfl, hR⟩ := hk
      refine obj (d := 1500000 + i) (e := .own t x.1) (ι' := ι.setO (1500000 + i) cs L1) rfl rfl (.inl rfl) (fun q hq => .inl hq) (fun j hj => sameAt_setO hj _ _) ⟨⟨L1, by simp [Ix.setO], by simpa [Ix.setO] using hR⟩, by simpa [Ix.setO] using hnL.1⟩ ?_ (at_new hR.length)
      intro b hb; simpa [blks, Ix.setO] using hb
    | rw t =>
      obtain ⟨b, off, O, rfl, hR, hf, rfl⟩ := hk
      refine obj (d := 2000000 + i) (e := .var t x.1) (ι' := ι.setV (2000000 + i) (b, off) O) rfl rfl (.inr rfl) ?_ (fun j hj => sameAt_setV hj _ _) ⟨⟨O, by simp [Ix.setV], by simpa [Ix.setV] using hR⟩, by simpa [Ix.setV] using hf, by simpa [Ix.setV] using hnL.1⟩ ?_
        (ptr_new (s := ⟨[], argsHp ks x.2 (i + 1)⟩) (r := (b, off)) (o := O) hf.lt)
      · intro q hq
        simp only [pinsOf, List.mem_cons] at hq
        rcases hq with rfl | hq
        · exact .inr ⟨by simp only [pinned, Nat.ble_eq]; omega, rfl, by simp [Ix.setV], by simpa [Ix.setV] using (hrest (2000000 + i) (.inr rfl)).2⟩
        · exact .inl hq
      · intro c hc; simpa [blks, Ix.setV] using hc
    | mu t =>
      obtain ⟨cs, rfl, hR⟩ := hk
      have hcs : cs = [toV (.slc true t) cs] := by
        have := hR.length
        match cs, this with
        | [c], _ => rfl
      refine obj (d := 2000000 + i) (e := .own (.slc true t) x.1) (ι' := ι.setO (2000000 + i) cs L1) rfl rfl (.inr rfl) ?_ (fun j hj => sameAt_setO hj _ _) ⟨⟨L1, by simp [Ix.setO], by simpa [Ix.setO] using hR⟩, by simpa [Ix.setO] using hnL.1⟩ ?_ (at_new hR.length)
      · intro q hq
        simp only [pinsOf, List.mem_cons] at hq
        rcases hq with rfl | hq
        · exact .inr ⟨by simp only [pinned, Nat.ble_eq]; omega, rfl, by simpa [Ix.setO] using (hrest (2000000 + i) (.inr rfl)).1, by simpa [Ix.setO] using hcs⟩
        · exact .inl hq
      · intro b hb; simpa [blks, Ix.setO] using hb

theorem ks_rng : ∀ {ks : List PK} {vs : List Value} {x : DK ks} {L : List Nat}, KsRep H S ks vs x L → ksRng ks x
  | [], _, _, _, _ => trivial
  | k :: ks, vs, x, L, ⟨v1, us, L1, L2, e, _, h1, h2⟩ => by
    refine ⟨?_, ks_rng h2⟩
    cases k with
    | v t => obtain ⟨_, cs, e1, hR⟩ := h1; exact hR.rng
    | rd t => obtain ⟨_, b, off, e1, k1, k2, k3⟩ := h1; exact k3.rng
    | own t => obtain ⟨cs, e1, hR⟩ := h1; exact hR.rng
    | rw t => obtain ⟨b, off, O, e1, hR, _⟩ := h1; exact hR.rng
    | mu t => obtain ⟨cs, e1, hR⟩ := h1; exact hR.rng
    | nilS => trivial
    | clo f ts =>
      obtain ⟨_, ws, e1, hl⟩ := h1
      have : ∀ {ts : List Ty} {ws : List Value} {y : DL ts}, RdL H S ts ws y → PK.rng.rdRng ts y := by
        intro ts
        induction ts with
        | nil => intro ws y h; trivial
        | cons t ts ih =>
          rintro ws y ⟨v, us, e, ⟨b, off, e1, k1, k2, k3⟩, hl⟩
          exact ⟨k3.rng, ih hl⟩
      exact this hl

theorem ks_len : ∀ {ks : List PK} {vs : List Value} {x : DK ks} {L : List Nat}, KsRep H S ks vs x L → vs.length = ks.length
  | [], _, _, _, h => by rw [h.1]; rfl
  | k :: ks, vs, x, L, ⟨v1, us, L1, L2, e, _, _, h2⟩ => by rw [e]; simp [ks_len h2]

/-- **a function's contract, from the evaluator's tree** -/
theorem Ctr.valid_of (_hE : EnvOk E) {f : FuncId} {fn : Func} {c : Code} {rs : List Ty} {ps : List PK} {pre : DK ps → Prop} {fn' : DK ps → DL rs} {out : DK ps → DL (wts ps)} (hrs : E.rs = rs) (hps : E.ps = ps) (hf : E.P.funcs[f]? = some fn) (hb : fn.body = some c) (hname : (fn.name == "runtime.NumGoroutine") = false) (_hF : FnOk E fn)
    (hlen : (Nat.ble ps.length fn.ntmps && Nat.ble ps.length 1000) = true)
    (h : ∀ x : DK ps, pre x → ksRng ps x → Reach E fn (hrs ▸ fn' x) (hps ▸ out x) [.code c] (initSt ps x)) : (Ctr.mk ps rs pre fn' out false).Valid E.P f := by
  subst hrs
  subst hps
  simp only [Bool.and_eq_true, Nat.ble_eq] at hlen
  refine ⟨⟨fn, hf, hname, by rw [hb]; rfl⟩, ?_, fun h => by cases h⟩
  intro w S vs x L hS hpre hK hLn hLb
  refine calls_of_at hf hb ?_
  obtain ⟨ι, hbg⟩ := begins (B := ⟨w, S, fun b => b ∈ L, fn.ntmps, []⟩) (i := 0) rfl rfl rfl hS hK hLn (fun b hb => ⟨(hLb b hb).1, hb, (hLb b hb).2⟩) (by show 0 + E.ps.length ≤ 1000; omega)
  refine h x hpre (ks_rng hK) w S vs x L S ι _ w hS hK ?_
  have hl : vs.length = E.ps.length := ks_len hK
  have hs := hbg.hs
  refine ⟨⟨hs.os, hs.tape, hs.out, hs.size, hs.frame, hs.slt, hs.s0, hs.s1, hs.ob, hs.bl, hs.dj, fun q hq => hbg.pins q hq⟩, rfl, ?_, ?_⟩
  · simp only [Array.size_append, List.size_toArray, Array.size_replicate, Base.of]
    omega
  · intro t v hv
    obtain ⟨_, val, k2, k3⟩ := hbg.fr t v hv
    simp only [Nat.sub_zero] at k2
    have : (vs.toArray ++ Array.replicate (fn.ntmps - vs.toArray.size) undef).getD t undef = val := by
      have hlt := (List.getElem?_eq_some_iff.1 k2).1
      simp only [Array.getD_eq_getD_getElem?]
      rw [Array.getElem?_append_left (by simpa using hlt)]
      simp [k2]
    rw [this]
    exact k3

end
end Go.Ex
