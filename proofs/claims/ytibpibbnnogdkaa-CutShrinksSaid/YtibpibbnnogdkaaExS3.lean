import Derived.Test.YtibpibbnnogdkaaExS2
namespace Go.Ex

section
variable {E : Env} {s t : St}

theorem ag {o : Oper} {x : Operand} (h : Agree s t o.op.operands.toList) (hx : x ∈ o.op.operands.toList) : t.ev x = s.ev x ∧ Alike s t (s.ev x) := ⟨(h x hx).1, (h x hx).2⟩

theorem ob1 {i : Nat} {p : List Step} (h : Alike s t (.ptr i p)) : t.obj i = s.obj i := h i (by simp [AV.ment])
theorem ob2 {i : Nat} {p : List Step} (h : Alike s t (.at_ i p)) : t.obj i = s.obj i := h i (by simp [AV.ment])
theorem ob3 {i : Nat} {p : List Step} {a b : Int} (h : Alike s t (.sub i p a b)) : t.obj i = s.obj i := h i (by simp [AV.ment])

theorem fieldAddr_loc {o : Oper} {T : TypeId} {x : Operand} {n : Nat} (ho : o.op = .fieldAddr T x n) {p : Prop} {v : AV} {s1 : St} (h : (aop E o s).get = some (p, v, s1)) : Hangs E o s p v := by
  have hx : x ∈ o.op.operands.toList := by rw [ho]; simp [Op.operands]
  refine .ro h (fun t ha => ?_) (fun i hi => ⟨x, hx, ?_⟩)
  · obtain ⟨e1, e2⟩ := ag ha hx
    unfold aop
    rw [ho]
    simp only [e1]
    cases hx : s.ev x with
    | ptr i q =>
      rw [hx] at e2
      simp only [part_st (e2 i (by simp [AV.ment]))]
      repeat' (first | rfl | split)
    | _ => first | rfl | (dsimp only; split <;> rfl)
  · unfold aop at hi
    rw [ho] at hi
    simp only at hi
    cases hx : s.ev x with
    | ptr j q =>
      rw [hx] at hi
      simp only at hi
      repeat' (split at hi)
      all_goals first | exact hi | (cases hi; done)
    | _ =>
      rw [hx] at hi
      simp only at hi
      repeat' (split at hi)
      all_goals first | exact hi | (cases hi; done)

theorem indexAddr_loc {o : Oper} {T : TypeId} {x y : Operand} (ho : o.op = .indexAddr T x y) {p : Prop} {v : AV} {s1 : St} (h : (aop E o s).get = some (p, v, s1)) : Hangs E o s p v := by
  have hxo : x ∈ o.op.operands.toList := by rw [ho]; simp [Op.operands]
  have hyo : y ∈ o.op.operands.toList := by rw [ho]; simp [Op.operands]
  refine .ro h (fun t ha => ?_) (fun i hi => ⟨x, hxo, ?_⟩)
  · obtain ⟨e1, e2⟩ := ag ha hxo
    have e3 := (ag ha hyo).1
    unfold aop
    rw [ho]
    simp only [e1, e3]
    split
    · rename_i hx _; rw [hx] at e2; (first | simp only [part_st (ob1 e2)] | simp only [part_st (ob2 e2)]) ; (generalize s.part _ _ = pt; cases pt with | none => rfl | some q => (obtain ⟨u, z⟩ := q; cases u <;> first | rfl | (dsimp only; repeat' (first | rfl | split)) | (rename_i o0 _; cases o0 <;> first | rfl | (dsimp only; repeat' (first | rfl | split)))))
    · repeat' (first | rfl | split)
    · repeat' (first | rfl | split)
    · rename_i hx _; rw [hx] at e2; (first | simp only [part_st (ob1 e2)] | simp only [part_st (ob2 e2)]) ; (generalize s.part _ _ = pt; cases pt with | none => rfl | some q => (obtain ⟨u, z⟩ := q; cases u <;> first | rfl | (dsimp only; repeat' (first | rfl | split)) | (rename_i o0 _; cases o0 <;> first | rfl | (dsimp only; repeat' (first | rfl | split)))))
    · rename_i hx _; rw [hx] at e2; simp only [view_st (ob3 e2)] ; (generalize s.view _ _ _ _ = pt; cases pt with | none => rfl | some q => (obtain ⟨u, z⟩ := q; dsimp only; repeat' (first | rfl | split)))
    · rfl
  · unfold aop at hi
    rw [ho] at hi
    simp only at hi
    split at hi
    · rename_i hx _; rw [hx]; repeat' (split at hi)
      all_goals first | exact hi | (cases hi; done)
    · repeat' (split at hi)
      all_goals (cases hi; done)
    · repeat' (split at hi)
      all_goals (cases hi; done)
    · rename_i hx _; rw [hx]; repeat' (split at hi)
      all_goals first | exact hi | (cases hi; done)
    · rename_i hx _; rw [hx]; repeat' (split at hi)
      all_goals first | exact hi | (cases hi; done)
    · cases hi

theorem index_loc {o : Oper} {T : TypeId} {x y : Operand} (ho : o.op = .index T x y) {p : Prop} {v : AV} {s1 : St} (h : (aop E o s).get = some (p, v, s1)) : Hangs E o s p v := by
  have hxo : x ∈ o.op.operands.toList := by rw [ho]; simp [Op.operands]
  have hyo : y ∈ o.op.operands.toList := by rw [ho]; simp [Op.operands]
  refine .ro h (fun t ha => ?_) (fun i hi => ⟨x, hxo, ?_⟩)
  · obtain ⟨e1, e2⟩ := ag ha hxo
    have e3 := (ag ha hyo).1
    unfold aop
    rw [ho]
    simp only [e1, e3]
    split
    · split <;> rfl
    · split <;> rfl
    · rename_i hx _; rw [hx] at e2; (first | simp only [part_st (ob1 e2)] | simp only [part_st (ob2 e2)]) ; (generalize s.part _ _ = pt; cases pt with | none => rfl | some q => (obtain ⟨u, z⟩ := q; cases u <;> first | rfl | (dsimp only; repeat' (first | rfl | split)) | (rename_i o0 _; cases o0 <;> first | rfl | (dsimp only; repeat' (first | rfl | split)))))
    · rfl
  · unfold aop at hi
    rw [ho] at hi
    simp only at hi
    split at hi
    · repeat' (split at hi)
      all_goals (cases hi; done)
    · repeat' (split at hi)
      all_goals (cases hi; done)
    · rename_i hx _; rw [hx]; repeat' (split at hi)
      all_goals first | exact hi | (cases hi; done)
    · cases hi

theorem field_loc {o : Oper} {T : TypeId} {x : Operand} {n : Nat} (ho : o.op = .field T x n) {p : Prop} {v : AV} {s1 : St} (h : (aop E o s).get = some (p, v, s1)) : Hangs E o s p v := by
  have hxo : x ∈ o.op.operands.toList := by rw [ho]; simp [Op.operands]
  refine .ro h (fun t ha => ?_) (fun i hi => ⟨x, hxo, ?_⟩)
  · obtain ⟨e1, e2⟩ := ag ha hxo
    unfold aop
    rw [ho]
    simp only [e1]
    split
    · split <;> rfl
    · rename_i hx; rw [hx] at e2; (first | simp only [part_st (ob1 e2)] | simp only [part_st (ob2 e2)]) ; (generalize s.part _ _ = pt; cases pt with | none => rfl | some q => (obtain ⟨u, z⟩ := q; cases u <;> first | rfl | (dsimp only; repeat' (first | rfl | split)) | (rename_i o0 _; cases o0 <;> first | rfl | (dsimp only; repeat' (first | rfl | split)))))
    · rfl
  · unfold aop at hi
    rw [ho] at hi
    simp only at hi
    split at hi
    · repeat' (split at hi)
      all_goals (cases hi; done)
    · rename_i hx; rw [hx]; repeat' (split at hi)
      all_goals first | exact hi | (cases hi; done)
    · cases hi

theorem slice_loc {o : Oper} {T : TypeId} {x : Operand} {lo hi mx : Option Operand} (ho : o.op = .slice T x lo hi mx) {p : Prop} {v : AV} {s1 : St} (h : (aop E o s).get = some (p, v, s1)) : Hangs E o s p v := by
  have hops : ∀ y, y = x ∨ lo = some y ∨ hi = some y ∨ mx = some y → y ∈ o.op.operands.toList := by
    rw [ho]
    rintro y (rfl | rfl | rfl | rfl) <;> simp [Op.operands]
  have hxo : x ∈ o.op.operands.toList := hops x (.inl rfl)
  have he : ∀ t, aop E o t = sliceA E T (t.ev x) lo hi mx t := fun t => by unfold aop; rw [ho]
  refine .ro h (fun t ha => ?_) (fun i hi' => ⟨x, hxo, ?_⟩)
  · obtain ⟨e1, e2⟩ := ag ha hxo
    rw [he, he, e1]
    have b1 : ∀ d, bnd t d lo = bnd s d lo := fun d => bnd_st (fun y hy => (ag ha (hops y (.inr (.inl hy)))).1)
    have b2 : ∀ d, bnd t d hi = bnd s d hi := fun d => bnd_st (fun y hy => (ag ha (hops y (.inr (.inr (.inl hy))))).1)
    have b3 : ∀ d, bnd t d mx = bnd s d mx := fun d => bnd_st (fun y hy => (ag ha (hops y (.inr (.inr (.inr hy))))).1)
    unfold sliceA
    simp only [b1, b2, b3]
    split
    · rfl
    · split
      · repeat' (first | rfl | split)
      · repeat' (first | rfl | split)
      · rename_i hx; rw [hx] at e2; (first | simp only [part_st (ob1 e2)] | simp only [part_st (ob2 e2)]) ; (generalize s.part _ _ = pt; cases pt with | none => rfl | some q => (obtain ⟨u, z⟩ := q; cases u <;> first | rfl | (dsimp only; repeat' (first | rfl | split)) | (rename_i o0 _; cases o0 <;> first | rfl | (dsimp only; repeat' (first | rfl | split)))))
      · rename_i hx; rw [hx] at e2; simp only [view_st (ob3 e2)] ; (generalize s.view _ _ _ _ = pt; cases pt with | none => rfl | some q => (obtain ⟨u, z⟩ := q; dsimp only; repeat' (first | rfl | split)))
      · rename_i hx; rw [hx] at e2; (first | simp only [part_st (ob1 e2)] | simp only [part_st (ob2 e2)]) ; (generalize s.part _ _ = pt; cases pt with | none => rfl | some q => (obtain ⟨u, z⟩ := q; cases u <;> first | rfl | (dsimp only; repeat' (first | rfl | split)) | (rename_i o0 _; cases o0 <;> first | rfl | (dsimp only; repeat' (first | rfl | split)))))
      · rfl
  · rw [he] at hi'
    unfold sliceA at hi'
    split at hi'
    · cases hi'
    · split at hi'
      · repeat' (split at hi')
        all_goals (cases hi'; done)
      · repeat' (split at hi')
        all_goals (cases hi'; done)
      · rename_i hx; rw [hx]; repeat' (split at hi')
        all_goals first | exact hi' | (cases hi'; done)
      · rename_i hx; rw [hx]; repeat' (split at hi')
        all_goals first | exact hi' | (cases hi'; done)
      · rename_i hx; rw [hx]; repeat' (split at hi')
        all_goals first | exact hi' | (cases hi'; done)
      · cases hi'

theorem len_loc {o : Oper} {c : Call} (ho : o.op = .call c) (hc : c.callee = .builtin .len) {p : Prop} {v : AV} {s1 : St} (h : (aop E o s).get = some (p, v, s1)) : Hangs E o s p v := by
  obtain ⟨x, T, ha, hT⟩ : ∃ x T, c.args.toList = [x] ∧ c.argTypes.toList = [T] := by
    unfold aop at h
    rw [ho] at h
    simp only [hc] at h
    split at h
    · exact ⟨_, _, by assumption, by assumption⟩
    · cases h
  have hx0 : x ∈ o.op.operands.toList := by rw [ho]; exact ops_arg (by rw [ha]; simp)
  refine .ro h (fun t hag => ?_) (fun i hi => ?_)
  · obtain ⟨e1, e2⟩ := ag hag hx0
    unfold aop
    rw [ho]
    simp only [hc, ha, hT, e1]
    split
    · repeat' (first | rfl | split)
    · repeat' (first | rfl | split)
    · repeat' (first | rfl | split)
    · rename_i hx; rw [hx] at e2; (first | simp only [part_st (ob1 e2)] | simp only [part_st (ob2 e2)]) ; (generalize s.part _ _ = pt; cases pt with | none => rfl | some q => (obtain ⟨u, z⟩ := q; cases u <;> first | rfl | (dsimp only; repeat' (first | rfl | split)) | (rename_i o0 _; cases o0 <;> first | rfl | (dsimp only; repeat' (first | rfl | split)))))
    · rename_i hx; rw [hx] at e2; simp only [view_st (ob3 e2)] ; (generalize s.view _ _ _ _ = pt; cases pt with | none => rfl | some q => (obtain ⟨u, z⟩ := q; dsimp only; repeat' (first | rfl | split)))
    · repeat' (first | rfl | split)
    · rfl
  · exfalso
    unfold aop at hi
    rw [ho] at hi
    simp only [hc, ha, hT] at hi
    repeat' (split at hi)
    all_goals (cases hi)

theorem foldI_st {k : IntKind} {f : Int → Int → Int} : ∀ {l : List Operand} {n : Int}, (∀ x ∈ l, t.ev x = s.ev x) → foldI t k f n l = (foldI s k f n l).withSt t
  | [], n, _ => rfl
  | x :: l, n, h => by
    simp only [foldI, h x (by simp)]
    split
    · split
      · exact foldI_st (fun y hy => h y (by simp [hy]))
      · rfl
    · rfl

theorem foldI_ment {k : IntKind} {f : Int → Int → Int} {i : Nat} : ∀ {l : List Operand} {n : Int}, (foldI s k f n l).av.ment i = true → False
  | [], n, h => by cases h
  | x :: l, n, h => by
    simp only [foldI] at h
    split at h
    · split at h
      · exact foldI_ment h
      · cases h
    · cases h

theorem maxmin_loc {o : Oper} {c : Call} (ho : o.op = .call c) (hc : c.callee = .builtin .max ∨ c.callee = .builtin .min) {p : Prop} {v : AV} {s1 : St} (h : (aop E o s).get = some (p, v, s1)) : Hangs E o s p v := by
  have hxo : ∀ x ∈ c.args.toList, x ∈ o.op.operands.toList := fun x hx => by rw [ho]; exact ops_arg hx
  refine .ro h (fun t hag => ?_) (fun i hi => ?_)
  · unfold aop
    rw [ho]
    rcases hc with hc | hc <;>
    · simp only [hc]
      split
      · rename_i x l ha
        rw [(hag x (hxo x (by rw [ha]; simp))).1]
        split
        · exact foldI_st (fun y hy => (hag y (hxo y (by rw [ha]; simp [hy]))).1)
        · rfl
      · rfl
  · exfalso
    unfold aop at hi
    rw [ho] at hi
    rcases hc with hc | hc
    · simp only [hc] at hi
      split at hi
      · split at hi
        · exact foldI_ment hi
        · cases hi
      · cases hi
    · simp only [hc] at hi
      split at hi
      · split at hi
        · exact foldI_ment hi
        · cases hi
      · cases hi

theorem build_loc {o : Oper} {T : TypeId} {parts : Array (Nat × Operand)} (ho : o.op = .build T parts) {p : Prop} {v : AV} {s1 : St} (h : (aop E o s).get = some (p, v, s1)) : Hangs E o s p v := by
  have hps : ∀ t, Agree s t o.op.operands.toList → ∀ q ∈ parts.toList, t.ev q.2 = s.ev q.2 ∧ Alike s t (s.ev q.2) := fun t ha q hq => ag ha (by rw [ho]; simp only [Op.operands]; simpa using ⟨q.1, by simpa using hq⟩)
  have key : ∃ t0 r g, look T E.tt = some t0 ∧ (t0.ty.agg && parts.toList.all (fun q => inArr t0.ty q.1)) = true ∧ buildL s ⟨t0.ty, t0.ty.dflt⟩ parts.toList = some (r, g) := by
    unfold aop at h; rw [ho] at h
    simp only at h
    split at h
    · split at h
      · split at h
        · exact ⟨_, _, _, by assumption, by assumption, by assumption⟩
        · exact ⟨_, _, _, by assumption, by assumption, by assumption⟩
        · cases h
      · cases h
    · cases h
  obtain ⟨t0, ⟨u, y⟩, g, h1, h2, h3⟩ := key
  have hb : ∀ t, Agree s t o.op.operands.toList → buildL t ⟨t0.ty, t0.ty.dflt⟩ parts.toList = some (⟨u, y⟩, g) := fun t ha => (buildL_st (s := s) (t := t) (hps t ha)).trans h3
  cases g with
  | nil =>
    have he : ∀ t, Agree s t o.op.operands.toList → aop E o t = .ok (.val u y) t := fun t ha => by unfold aop; rw [ho]; simp only [h1, h2, hb t ha]
    refine .ro h (fun t ha => ?_) (fun i hi => ?_)
    · rw [he t ha, he s (.refl _ _)]; rfl
    · rw [he s (.refl _ _)] at hi; cases hi
  | cons g0 g =>
    cases hd : o.dst with
    | none =>
      exfalso
      unfold aop at h; rw [ho] at h
      simp only [h1, h2, h3, hd] at h
      cases h
    | some d =>
      refine Hangs.lay hd (g := g0 :: g) (u := u) (x := y) (W := fun r => r) (p := p) (v := v) (s1 := s1) ?_ (fun _ => rfl) ?_ h (fun t ha => by unfold aop; rw [ho]; simp only [h1, h2, hb t ha, hd])
      · have hp : p = True := by
          unfold aop at h; rw [ho] at h
          simp only [h1, h2, h3, hd] at h
          cases hl : s.lay d (g0 :: g) u y <;> rw [hl] at h
          · cases h
          · cases h; rfl
          · exact absurd hl lay_okN
        intro v s; rw [hp]; rfl
      · intro i hi
        obtain ⟨q, hq, hm⟩ := buildL_ment h3 i hi
        unfold takes
        rw [ho]
        exact lent_ment.2 (ment_evs (List.mem_map.2 ⟨q, hq, rfl⟩) hm)

theorem buildSlice_loc {o : Oper} {T : TypeId} {n : Nat} {parts : Array (Nat × Operand)} (ho : o.op = .buildSlice T n parts) {p : Prop} {v : AV} {s1 : St} (h : (aop E o s).get = some (p, v, s1)) : Hangs E o s p v := by
  have hps : ∀ t, Agree s t o.op.operands.toList → ∀ q ∈ parts.toList, t.ev q.2 = s.ev q.2 ∧ Alike s t (s.ev q.2) := fun t ha q hq => ag ha (by rw [ho]; simp only [Op.operands]; simpa using ⟨q.1, by simpa using hq⟩)
  have key : ∃ t0 b d m t' l g, look T E.tt = some ⟨.slc true t0, b⟩ ∧ o.dst = some d ∧ (s.fresh d && parts.toList.all (fun q => Nat.blt q.1 n) && Nat.ble (n * t0.size) 16777216) = true ∧ buildL s ⟨.arr n t0, (Ty.arr n t0).dflt⟩ parts.toList = some (⟨.arr m t', l⟩, g) := by
    unfold aop at h; rw [ho] at h
    simp only at h
    split at h
    · split at h
      · split at h
        · exact ⟨_, _, _, _, _, _, _, by assumption, by assumption, by assumption, by assumption⟩
        · cases h
      · cases h
    · cases h
  obtain ⟨t0, b, d, m, t', l, g, h1, h2, h4, h5⟩ := key
  have hb : ∀ t, Agree s t o.op.operands.toList → buildL t ⟨.arr n t0, (Ty.arr n t0).dflt⟩ parts.toList = some (⟨.arr m t', l⟩, g) := fun t ha => (buildL_st (s := s) (t := t) (hps t ha)).trans h5
  have he : ∀ t, Agree s t o.op.operands.toList → t.fresh d = true → aop E o t = t.lay d g (.slc true t') l := fun t ha hf => by
    simp only [Bool.and_eq_true] at h4
    unfold aop; rw [ho]; simp only [h1, h2, hf, h4.1.2, h4.2, hb t ha, Bool.and_self]
  have hf : s.fresh d = true := by simp only [Bool.and_eq_true] at h4; exact h4.1.1
  have hgT : ∀ i ∈ g, i ∈ takes E o s := by
    intro i hi
    obtain ⟨q, hq, hm⟩ := buildL_ment h5 i hi
    unfold takes
    rw [ho]
    exact lent_ment.2 (ment_evs (List.mem_map.2 ⟨q, hq, rfl⟩) hm)
  rw [he s (.refl _ _) hf] at h
  cases hl : s.lay d g (.slc true t') l with
  | fail y => rw [hl] at h; cases h
  | okN q v s' => exact absurd hl lay_okN
  | ok v' s' =>
    rw [hl] at h
    cases h
    obtain ⟨k1, rfl, rfl, k4⟩ := lay_get hl
    exact Hangs.obj h2 (e := .own (.slc true t') l) (g := g) (fun i hi => by simpa [AV.ment] using hi) k1 hgT (fun t ha hu hf => by rw [he t ha hf, lay_st hf k4]; rfl)

theorem box_loc {o : Oper} {T : TypeId} {x : Operand} (ho : o.op = .box T x) {p : Prop} {v : AV} {s1 : St} (h : (aop E o s).get = some (p, v, s1)) : Hangs E o s p v := by
  have hxo : x ∈ o.op.operands.toList := by rw [ho]; simp [Op.operands]
  have hT : takes E o s = (s.ev x).lent := by unfold takes; rw [ho]
  have key : ∃ t0 d, look T E.tt = some t0 ∧ o.dst = some d ∧ s.fresh d = true := by
    unfold aop at h; rw [ho] at h
    simp only at h
    split at h
    · split at h
      · exact ⟨_, _, by assumption, by assumption, by assumption⟩
      · cases h
    · cases h
  obtain ⟨t0, d, h1, h2, h3⟩ := key
  have he : ∀ t, t.fresh d = true → aop E o t = (match (t.ev x).giveV t with
        | some (⟨u, y⟩, g) => if u.sh = t0.ty.sh then (match noDup g && !g.contains d && g.all fun i => !pinned i with
          | true => .ok (.ptr d []) ((St.drops g t).putE d (.var u y))
          | false => .fail "box: objects") else .fail "box: value"
        | none => (match t.ev x, t0.ty with
          | .raw (.slice none 0 0), .slc o u => .ok (.ptr d []) (t.putE d (.var (.slc o u) ([] : List u.den)))
          | _, _ => .fail "box: what")) := fun t ht => by unfold aop; rw [ho]; simp only [h1, h2, ht]; rfl
  rw [he s h3] at h
  split at h
  · rename_i u y g hgv
    split at h
    · rename_i hsh
      split at h
      · rename_i hc
        cases h
        refine Hangs.obj h2 (e := .var u y) (g := g) (fun i hi => by simpa [AV.ment] using hi) h3 (fun i hi => by rw [hT]; exact lent_ment.2 (giveV_ment hgv i hi)) (fun t ha hu hf => ?_)
        obtain ⟨e1, e2⟩ := ag ha hxo
        rw [he t hf, e1]
        simp only [(giveV_st e2).trans hgv, hsh, if_true, hc]
        rfl
      · cases h
    · cases h
  · rename_i hgv
    split at h
    · rename_i o' u hx ht0
      cases h
      refine Hangs.obj h2 (e := .var (.slc o' u) ([] : List u.den)) (g := []) (fun i hi => by simpa [AV.ment] using hi) h3 (by simp) (fun t ha hu hf => ?_)
      obtain ⟨e1, e2⟩ := ag ha hxo
      have hgt := (giveV_st e2).trans hgv
      rw [hx] at e1 hgt
      rw [he t hf, e1]
      simp only [hgt, ht0]
      rfl
    · cases h

theorem convert_loc {o : Oper} {T' T : TypeId} {x : Operand} (ho : o.op = .convert T' T x) {p : Prop} {v : AV} {s1 : St} (h : (aop E o s).get = some (p, v, s1)) : Hangs E o s p v := by
  have hxo : x ∈ o.op.operands.toList := by rw [ho]; simp [Op.operands]
  by_cases hs : (∃ y, s.ev x = .val .str y) ∧ (∃ b, look T' E.tt = some ⟨.str, b⟩) ∧ (∃ b, look T E.tt = some ⟨.slc true (.int .u8), b⟩)
  · obtain ⟨⟨y, hy⟩, ⟨b, hb⟩, ⟨b', hb'⟩⟩ := hs
    cases hd : o.dst with
    | none =>
      exfalso
      unfold aop at h; rw [ho] at h
      simp only [hy, hb, hb', hd] at h
      cases h
    | some d =>
      have he : ∀ t, t.ev x = s.ev x → aop E o t = t.lay d [] (.slc true (.int .u8)) (List.map (fun b : UInt8 => (b.toNat : Int)) y : List Int) := fun t ht => by
        unfold aop; rw [ho]; simp only [ht, hy, hb, hb', hd]
      have hp : p = True := by
        rw [he s rfl] at h
        cases hl : s.lay d [] (.slc true (.int .u8)) (List.map (fun b : UInt8 => (b.toNat : Int)) y : List Int) <;> rw [hl] at h
        · cases h
        · cases h; rfl
        · exact absurd hl lay_okN
      exact Hangs.lay hd (g := []) (W := fun r => r) (fun v s => by rw [hp]; rfl) (fun _ => rfl) (by simp) h (fun t ha => he t (ag ha hxo).1)
  · refine .ro h (fun t ha => ?_) (fun i hi => ?_)
    · obtain ⟨e1, e2⟩ := ag ha hxo
      unfold aop; rw [ho]; simp only [e1]
      split
      · rfl
      · rename_i hx ht1 ht2
        exact absurd ⟨⟨_, hx⟩, ⟨_, ht1⟩, ⟨_, ht2⟩⟩ hs
      · rw [els_st e2]
        repeat' (first | rfl | split)
      · rfl
    · exfalso
      unfold aop at hi; rw [ho] at hi
      simp only at hi
      split at hi
      · cases hi
      · rename_i hx ht1 ht2
        exact absurd ⟨⟨_, hx⟩, ⟨_, ht1⟩, ⟨_, ht2⟩⟩ hs
      · repeat' (split at hi)
        all_goals (cases hi)
      · cases hi

theorem makeSlice_loc {o : Oper} {T : TypeId} {x y : Operand} (ho : o.op = .makeSlice T x y) {p : Prop} {v : AV} {s1 : St} (h : (aop E o s).get = some (p, v, s1)) : Hangs E o s p v := by
  have hxo : x ∈ o.op.operands.toList := by rw [ho]; simp [Op.operands]
  have hyo : y ∈ o.op.operands.toList := by rw [ho]; simp [Op.operands]
  have key : ∃ t0 b d k n k' m, look T E.tt = some ⟨.slc true t0, b⟩ ∧ o.dst = some d ∧ s.ev x = .val (.int k) n ∧ s.ev y = .val (.int k') m := by
    unfold aop at h; rw [ho] at h
    simp only at h
    split at h
    · exact ⟨_, _, _, _, _, _, _, by assumption, by assumption, by assumption, by assumption⟩
    · cases h
  obtain ⟨t0, b, d, k, n, k', m, h1, h2, h3, h4⟩ := key
  have he : ∀ t, t.ev x = s.ev x → t.ev y = s.ev y → aop E o t = (t.lay d [] (.slc true t0) (List.replicate (Int.toNat n) t0.dflt)).need (@LE.le Int Int.instLEInt 0 n ∧ @LE.le Int Int.instLEInt n m ∧ @LE.le Int Int.instLEInt m 140737488355328 ∧ @LE.le Int Int.instLEInt (@HMul.hMul Int Int Int _ m (t0.wb : Nat)) 140737488355328) := fun t e1 e2 => by
    unfold aop; rw [ho]; simp only [e1, e2, h1, h2, h3, h4]
  have h0 := h
  rw [he s rfl rfl] at h
  obtain rfl := need_W h (fun _ _ _ => lay_okN)
  exact Hangs.lay h2 (g := []) (W := OR.need _) (fun _ _ => rfl) (fun _ => rfl) (by simp) h0 (fun t ha => he t (ag ha hxo).1 (ag ha hyo).1)

theorem aop_loc {o : Oper} (hpick : ∀ a b c, o.op ≠ .pick a b c) {p : Prop} {v : AV} {s1 : St} (h : (aop E o s).get = some (p, v, s1)) : Hangs E o s p v := by
  have hin : ∀ x, x ∈ o.op.operands.toList ↔ x ∈ o.op.operands.toList := fun _ => Iff.rfl
  cases ho : o.op with
  | move x =>
    have hx : x ∈ o.op.operands.toList := by rw [ho]; simp [Op.operands]
    refine .ro h (fun t ha => ?_) (fun i hi => ⟨x, hx, ?_⟩)
    · unfold aop; rw [ho]; simp only [(ag ha hx).1]; rfl
    · unfold aop at hi; rw [ho] at hi; exact hi
  | assign x =>
    have hx : x ∈ o.op.operands.toList := by rw [ho]; simp [Op.operands]
    refine .ro h (fun t ha => ?_) (fun i hi => ⟨x, hx, ?_⟩)
    · unfold aop; rw [ho]; simp only [(ag ha hx).1]; rfl
    · unfold aop at hi; rw [ho] at hi; exact hi
  | load T x =>
    have hx : x ∈ o.op.operands.toList := by rw [ho]; simp [Op.operands]
    have hl : ∀ t, aop E o t = loadA E T (t.ev x) t := fun t => by unfold aop; rw [ho]
    refine .ro h (fun t ha => ?_) (fun i hi => ⟨x, hx, ?_⟩)
    · obtain ⟨e1, e2⟩ := ag ha hx
      rw [hl, hl, e1]; exact loadA_st e2
    · rw [hl] at hi; exact loadA_ment hi
  | nilCheck x =>
    have hx : x ∈ o.op.operands.toList := by rw [ho]; simp [Op.operands]
    refine .ro h (fun t ha => ?_) (fun i hi => ⟨x, hx, ?_⟩)
    · unfold aop; rw [ho]; simp only [(ag ha hx).1]; split <;> rfl
    · unfold aop at hi; rw [ho] at hi
      simp only at hi
      split at hi <;> first | (cases hi; done) | (rename_i e; rw [e]; exact hi)
  | binOp op T x y T' =>
    have hx : x ∈ o.op.operands.toList := by rw [ho]; simp [Op.operands]
    have hy : y ∈ o.op.operands.toList := by rw [ho]; simp [Op.operands]
    have hl : ∀ t, aop E o t = binE E T op (t.ev x) (t.ev y) t := fun t => by unfold aop; rw [ho]
    refine .ro h (fun t ha => ?_) (fun i hi => ?_)
    · rw [hl, hl, (ag ha hx).1, (ag ha hy).1]; exact binE_st ..
    · exfalso
      rw [hl] at hi
      unfold binE binA eqA binI binS arith at hi
      repeat' (split at hi)
      all_goals (cases hi)
  | unOp op T x =>
    have hx : x ∈ o.op.operands.toList := by rw [ho]; simp [Op.operands]
    have hl : ∀ t, aop E o t = unA op (t.ev x) t := fun t => by unfold aop; rw [ho]
    refine .ro h (fun t ha => ?_) (fun i hi => ?_)
    · rw [hl, hl, (ag ha hx).1]; exact unA_st ..
    · exfalso
      rw [hl] at hi
      unfold unA arith at hi
      repeat' (split at hi)
      all_goals (cases hi)
  | convert T' T x => exact convert_loc ho h
  | fieldAddr T x n => exact fieldAddr_loc ho h
  | indexAddr T x y => exact indexAddr_loc ho h
  | index T x y => exact index_loc ho h
  | field T x n => exact field_loc ho h
  | slice T x lo hi mx => exact slice_loc ho h
  | makeSlice T x y => exact makeSlice_loc ho h
  | build T parts => exact build_loc ho h
  | buildSlice T n parts => exact buildSlice_loc ho h
  | box T x => exact box_loc ho h
  | store T a x => exact store_loc ho h
  | extract x n =>
    have hx : x ∈ o.op.operands.toList := by rw [ho]; simp [Op.operands]
    refine .ro h (fun t ha => ?_) (fun i hi => ⟨x, hx, ?_⟩)
    · unfold aop; rw [ho]; simp only [(ag ha hx).1]
      split
      · split <;> rfl
      · rfl
    · unfold aop at hi; rw [ho] at hi
      simp only at hi
      split at hi
      · rename_i l e
        split at hi
        · rename_i v hv
          rw [e]; show l.ment i = true; exact nth_ment hv hi
        · cases hi
      · cases hi
  | makeFunc fn first caps =>
    have hcm : ∀ x ∈ caps.toList, x ∈ o.op.operands.toList := fun x hx => by rw [ho]; simp only [Op.operands]; simp at hx ⊢; exact .inr hx
    have hcs : ∀ t, Agree s t o.op.operands.toList → t.evs caps.toList = s.evs caps.toList := fun t ha => evs_st (fun x hx => (ag ha (hcm x hx)).1)
    refine .ro h (fun t ha => ?_) (fun i hi => ?_)
    · unfold aop; rw [ho]
      cases fn with
      | func f => simp only [hcs t ha]; split <;> rfl
      | _ => rfl
    · unfold aop at hi; rw [ho] at hi
      cases fn with
      | func f =>
        simp only at hi
        split at hi
        · obtain ⟨x, hx, hi⟩ := evs_ment (s := s) (i := i) (xs := caps.toList) hi
          exact ⟨x, hcm x hx, hi⟩
        · cases hi
      | _ => cases hi
  | alloc T =>
    have key : ∃ t0 d, look T E.tt = some t0 ∧ o.dst = some d ∧ s.fresh d = true := by
      unfold aop at h; rw [ho] at h
      simp only at h
      split at h
      · split at h
        · exact ⟨_, _, by assumption, by assumption, by assumption⟩
        · cases h
      · cases h
    obtain ⟨t0, d, h1, h2, h3⟩ := key
    have he : ∀ t, t.fresh d = true → aop E o t = .ok (.ptr d []) (t.putE d (.var t0.ty t0.ty.dflt)) := fun t ht => by unfold aop; rw [ho]; simp only [h1, h2, ht]
    rw [he s h3] at h
    simp only [OR.get, Option.some.injEq, Prod.mk.injEq] at h
    obtain ⟨rfl, rfl, rfl⟩ := h
    exact .obj h2 (g := []) (fun i hi => by simpa [AV.ment] using hi) h3 (by simp) (fun t _ _ ht => by rw [he t ht]; rfl)
  | call c =>
    cases hc : c.callee with
    | value f => exact call_loc ho hc h
    | builtin b =>
      cases b <;> first
        | (exact len_loc ho hc h)
        | (exact append_loc ho hc h)
        | (exact maxmin_loc ho (.inl hc) h)
        | (exact maxmin_loc ho (.inr hc) h)
        | (exfalso; unfold aop at h; rw [ho] at h; simp only [hc] at h; cases h)
    | _ => exfalso; unfold aop at h; rw [ho] at h; simp only [hc] at h; cases h
  | pick a b c => exact absurd ho (hpick a b c)
  | _ => exfalso; unfold aop at h; rw [ho] at h; cases h

end
end Go.Ex
