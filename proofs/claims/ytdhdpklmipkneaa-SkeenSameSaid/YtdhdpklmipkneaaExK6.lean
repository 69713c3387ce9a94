import Derived.Test.YtdhdpklmipkneaaExK5
import Derived.Orders

namespace Go.Ex

section
variable {E : Env} {s t : St}

theorem ag {o : Oper} {x : Operand} (h : Agree s t o.op.operands.toList) (hx : x ∈ o.op.operands.toList) : t.ev x = s.ev x ∧ Alike s t (s.ev x) := ⟨(h x hx).1, (h x hx).2⟩

theorem ob1 {i : Nat} {p : List Step} (h : Alike s t (.ptr i p)) : t.obj i = s.obj i := h i (by simp [AV.ment])
theorem ob2 {i : Nat} {p : List Step} (h : Alike s t (.at_ i p)) : t.obj i = s.obj i := h i (by simp [AV.ment])
theorem ob3 {i : Nat} {p : List Step} {a b : Int} (h : Alike s t (.sub i p a b)) : t.obj i = s.obj i := h i (by simp [AV.ment])

theorem fieldAddr_loc {o : Oper} {T : TypeId} {x : Operand} {n : Nat} (ho : o.op = .fieldAddr T x n) {p : Prop} {v : AV} {s1 : St} (h : (aop E o s).get = some (p, v, s1)) : Hangs E o s p v := by
 have hx : x ∈ o.op.operands.toList := by rw [ho]; simp [Op.operands]
 refine .ro h (fun t ha => ?_) (fun i hi => ⟨x, hx, ?_⟩)
 ·obtain ⟨e1, e2⟩ := ag ha hx
  unfold aop
  rw [ho]
  simp only [e1]
  cases hx : s.ev x with
  | ptr i q =>
   rw [hx] at e2
   simp only [part_st (e2 i (by simp [AV.ment]))]
   repeat' (first | rfl | split)
  | val u z =>
   cases u with
   | box o0 g0 u0 => cases o0 <;> cases g0 <;> first | rfl | (dsimp only; repeat' (first | rfl | split))
   | _ => first | rfl | (dsimp only; repeat' (first | rfl | split))
  | _ => first | rfl | (dsimp only; split <;> rfl)
 ·unfold aop at hi
  rw [ho] at hi
  simp only at hi
  cases hx : s.ev x with
  | ptr j q =>
   rw [hx] at hi
   simp only at hi
   repeat' (split at hi)
   all_goals first | exact hi | (cases hi; done)
  | val u z =>
   rw [hx] at hi
   exfalso
   cases u with
   | box o0 g0 u0 => cases o0 <;> cases g0 <;> first | (cases hi; done) | (simp only at hi; repeat' (split at hi)) <;> (cases hi)
   | _ => first | (cases hi; done) | (simp only at hi; repeat' (split at hi)) <;> (cases hi)
  | _ =>
   rw [hx] at hi
   simp only at hi
   repeat' (split at hi)
   all_goals first | exact hi | (cases hi; done)

theorem indexAddr_loc {o : Oper} {T : TypeId} {x y : Operand} (ho : o.op = .indexAddr T x y) {p : Prop} {v : AV} {s1 : St} (h : (aop E o s).get = some (p, v, s1)) : Hangs E o s p v := by
 have hxo : x ∈ o.op.operands.toList := by rw [ho]; simp [Op.operands]
 have hyo : y ∈ o.op.operands.toList := by rw [ho]; simp [Op.operands]
 refine .ro h (fun t ha => ?_) (fun i hi => ⟨x, hxo, ?_⟩)
 ·obtain ⟨e1, e2⟩ := ag ha hxo
  have e3 := (ag ha hyo).1
  unfold aop
  rw [ho]
  simp only [e1, e3]
  split
  ·rename_i hx _; rw [hx] at e2; (first | simp only [part_st (ob1 e2)] | simp only [part_st (ob2 e2)]) ; (generalize s.part _ _ = pt; cases pt with | none => rfl | some q => (obtain ⟨u, z⟩ := q; cases u <;> first | rfl | (dsimp only; repeat' (first | rfl | split)) | (rename_i o0 _; cases o0 <;> first | rfl | (dsimp only; repeat' (first | rfl | split)))))
  ·repeat' (first | rfl | split)
  ·repeat' (first | rfl | split)
  ·rename_i hx _; rw [hx] at e2; (first | simp only [part_st (ob1 e2)] | simp only [part_st (ob2 e2)]) ; (generalize s.part _ _ = pt; cases pt with | none => rfl | some q => (obtain ⟨u, z⟩ := q; cases u <;> first | rfl | (dsimp only; repeat' (first | rfl | split)) | (rename_i o0 _; cases o0 <;> first | rfl | (dsimp only; repeat' (first | rfl | split)))))
  ·rename_i hx _; rw [hx] at e2; simp only [view_st (ob3 e2)] ; (generalize s.view _ _ _ _ = pt; cases pt with | none => rfl | some q => (obtain ⟨u, z⟩ := q; dsimp only; repeat' (first | rfl | split)))
  ·rfl
 ·unfold aop at hi
  rw [ho] at hi
  simp only at hi
  split at hi
  ·rename_i hx _; rw [hx]; repeat' (split at hi)
   all_goals first | exact hi | (cases hi; done)
  ·repeat' (split at hi)
   all_goals (cases hi; done)
  ·repeat' (split at hi)
   all_goals (cases hi; done)
  ·rename_i hx _; rw [hx]; repeat' (split at hi)
   all_goals first | exact hi | (cases hi; done)
  ·rename_i hx _; rw [hx]; repeat' (split at hi)
   all_goals first | exact hi | (cases hi; done)
  ·cases hi

theorem index_loc {o : Oper} {T : TypeId} {x y : Operand} (ho : o.op = .index T x y) {p : Prop} {v : AV} {s1 : St} (h : (aop E o s).get = some (p, v, s1)) : Hangs E o s p v := by
 have hxo : x ∈ o.op.operands.toList := by rw [ho]; simp [Op.operands]
 have hyo : y ∈ o.op.operands.toList := by rw [ho]; simp [Op.operands]
 refine .ro h (fun t ha => ?_) (fun i hi => ⟨x, hxo, ?_⟩)
 ·obtain ⟨e1, e2⟩ := ag ha hxo
  have e3 := (ag ha hyo).1
  unfold aop
  rw [ho]
  simp only [e1, e3]
  split
  ·split <;> rfl
  ·split <;> rfl
  ·rename_i hx _; rw [hx] at e2; (first | simp only [part_st (ob1 e2)] | simp only [part_st (ob2 e2)]) ; (generalize s.part _ _ = pt; cases pt with | none => rfl | some q => (obtain ⟨u, z⟩ := q; cases u <;> first | rfl | (dsimp only; repeat' (first | rfl | split)) | (rename_i o0 _; cases o0 <;> first | rfl | (dsimp only; repeat' (first | rfl | split)))))
  ·rfl
 ·unfold aop at hi
  rw [ho] at hi
  simp only at hi
  split at hi
  ·repeat' (split at hi)
   all_goals (cases hi; done)
  ·repeat' (split at hi)
   all_goals (cases hi; done)
  ·rename_i hx _; rw [hx]; repeat' (split at hi)
   all_goals first | exact hi | (cases hi; done)
  ·cases hi

theorem field_loc {o : Oper} {T : TypeId} {x : Operand} {n : Nat} (ho : o.op = .field T x n) {p : Prop} {v : AV} {s1 : St} (h : (aop E o s).get = some (p, v, s1)) : Hangs E o s p v := by
 have hxo : x ∈ o.op.operands.toList := by rw [ho]; simp [Op.operands]
 refine .ro h (fun t ha => ?_) (fun i hi => ⟨x, hxo, ?_⟩)
 ·obtain ⟨e1, e2⟩ := ag ha hxo
  unfold aop
  rw [ho]
  simp only [e1]
  split
  ·split <;> rfl
  ·rename_i hx; rw [hx] at e2; (first | simp only [part_st (ob1 e2)] | simp only [part_st (ob2 e2)]) ; (generalize s.part _ _ = pt; cases pt with | none => rfl | some q => (obtain ⟨u, z⟩ := q; cases u <;> first | rfl | (dsimp only; repeat' (first | rfl | split)) | (rename_i o0 _; cases o0 <;> first | rfl | (dsimp only; repeat' (first | rfl | split)))))
  ·rfl
 ·unfold aop at hi
  rw [ho] at hi
  simp only at hi
  split at hi
  ·repeat' (split at hi)
   all_goals (cases hi; done)
  ·rename_i hx; rw [hx]; repeat' (split at hi)
   all_goals first | exact hi | (cases hi; done)
  ·cases hi

theorem cap_loc {o : Oper} {c : Call} (ho : o.op = .call c) (hc : c.callee = .builtin .cap) {p : Prop} {v : AV} {s1 : St} (h : (aop E o s).get = some (p, v, s1)) : Hangs E o s p v := by
 obtain ⟨x, T, ha, hT⟩ : ∃ x T, c.args.toList = [x] ∧ c.argTypes.toList = [T] := by
  unfold aop at h
  rw [ho] at h
  simp only [hc] at h
  split at h
  ·exact ⟨_, _, by assumption, by assumption⟩
  ·cases h
 have hx0 : x ∈ o.op.operands.toList := by rw [ho]; exact ops_arg (by rw [ha]; simp)
 refine .ro h (fun t hag => ?_) (fun i hi => ?_)
 ·obtain ⟨e1, e2⟩ := ag hag hx0
  unfold aop
  rw [ho]
  simp only [hc, ha, hT, e1]
  repeat' (first | rfl | split)
 ·exfalso
  unfold aop at hi
  rw [ho] at hi
  simp only [hc, ha, hT] at hi
  repeat' (split at hi)
  all_goals (cases hi)

theorem mp_st {v : AV} (h : Alike s t v) : v.mp t = v.mp s := by
 unfold AV.mp
 split
 ·rfl
 ·rename_i i p; simp only [part_st (h i (by simp [AV.ment]))]
 ·rfl

theorem lookup_loc {o : Oper} {T : TypeId} {x y : Operand} {ok : Bool} (ho : o.op = .lookup T x y ok) {p : Prop} {v : AV} {s1 : St} (h : (aop E o s).get = some (p, v, s1)) : Hangs E o s p v := by
 have hx : x ∈ o.op.operands.toList := by rw [ho]; simp [Op.operands]
 have hy : y ∈ o.op.operands.toList := by rw [ho]; simp [Op.operands]
 have hl : ∀ t, aop E o t = lookupA E T (t.ev x) (t.ev y) ok t := fun t => by unfold aop; rw [ho]
 refine .ro h (fun t ha => ?_) (fun i hi => ?_)
 ·rw [hl, hl, (ag ha hx).1, (ag ha hy).1]
  unfold lookupA
  rw [mp_st (ag ha hx).2]
  repeat' (first | rfl | split)
 ·exfalso
  rw [hl] at hi
  unfold lookupA at hi
  repeat' (split at hi)
  all_goals (simp [OR.av, AV.ment] at hi)

theorem makeMap_loc {o : Oper} {T : TypeId} {r : Option Operand} (ho : o.op = .makeMap T r) {p : Prop} {v : AV} {s1 : St} (h : (aop E o s).get = some (p, v, s1)) : Hangs E o s p v := by
 have key : ∃ k u b d, r = none ∧ look T E.tt = some ⟨.map true k u, b⟩ ∧ o.dst = some d := by
  unfold aop at h; rw [ho] at h
  simp only at h
  split at h
  ·exact ⟨_, _, _, _, rfl, by assumption, by assumption⟩
  ·cases h
 obtain ⟨k, u, b, d, rfl, h1, h2⟩ := key
 have he : ∀ t, aop E o t = t.lay d [] (.map true k u) (some ([] : List (k.den × u.den))) := fun t => by unfold aop; rw [ho]; simp only [h1, h2]
 rw [he] at h
 cases hl : s.lay d [] (.map true k u) (some ([] : List (k.den × u.den))) with
 | fail y => rw [hl] at h; cases h
 | okN q v s' => exact absurd hl lay_okN
 | ok v' s' =>
  rw [hl] at h
  cases h
  obtain ⟨k1, rfl, rfl, k4⟩ := lay_get hl
  exact Hangs.obj h2 (e := .own (.map true k u) (some [])) (g := []) (fun i hi => by simpa [AV.ment] using hi) k1 (by simp) (fun t ha hu hf => by rw [he t, lay_st hf k4]; rfl)

theorem slice_loc {o : Oper} {T : TypeId} {x : Operand} {lo hi mx : Option Operand} (ho : o.op = .slice T x lo hi mx) {p : Prop} {v : AV} {s1 : St} (h : (aop E o s).get = some (p, v, s1)) : Hangs E o s p v := by
 have hops : ∀ y, y = x ∨ lo = some y ∨ hi = some y ∨ mx = some y → y ∈ o.op.operands.toList := by
  rw [ho]
  rintro y (rfl | rfl | rfl | rfl) <;> simp [Op.operands]
 have hxo : x ∈ o.op.operands.toList := hops x (.inl rfl)
 have he : ∀ t, aop E o t = sliceA E T (t.ev x) lo hi mx t := fun t => by unfold aop; rw [ho]
 refine .ro h (fun t ha => ?_) (fun i hi' => ⟨x, hxo, ?_⟩)
 ·obtain ⟨e1, e2⟩ := ag ha hxo
  rw [he, he, e1]
  have b1 : ∀ d, bnd t d lo = bnd s d lo := fun d => bnd_st (fun y hy => (ag ha (hops y (.inr (.inl hy)))).1)
  have b2 : ∀ d, bnd t d hi = bnd s d hi := fun d => bnd_st (fun y hy => (ag ha (hops y (.inr (.inr (.inl hy))))).1)
  have b3 : ∀ d, bnd t d mx = bnd s d mx := fun d => bnd_st (fun y hy => (ag ha (hops y (.inr (.inr (.inr hy))))).1)
  unfold sliceA
  simp only [b1, b2, b3]
  split
  ·rfl
  ·split
   ·repeat' (first | rfl | split)
   ·repeat' (first | rfl | split)
   ·repeat' (first | rfl | split)
   ·rename_i hx; rw [hx] at e2; (first | simp only [part_st (ob1 e2)] | simp only [part_st (ob2 e2)]) ; (generalize s.part _ _ = pt; cases pt with | none => rfl | some q => (obtain ⟨u, z⟩ := q; cases u <;> first | rfl | (dsimp only; repeat' (first | rfl | split)) | (rename_i o0 _; cases o0 <;> first | rfl | (dsimp only; repeat' (first | rfl | split)))))
   ·rename_i hx; rw [hx] at e2; simp only [part_st (ob3 e2)] ; (generalize s.part _ _ = pt; cases pt with | none => rfl | some q => (obtain ⟨u, z⟩ := q; cases u <;> first | rfl | (dsimp only; repeat' (first | rfl | split)) | (rename_i o0 _; cases o0 <;> first | rfl | (dsimp only; repeat' (first | rfl | split)))))
   ·rename_i hx; rw [hx] at e2; (first | simp only [part_st (ob1 e2)] | simp only [part_st (ob2 e2)]) ; (generalize s.part _ _ = pt; cases pt with | none => rfl | some q => (obtain ⟨u, z⟩ := q; cases u <;> first | rfl | (dsimp only; repeat' (first | rfl | split)) | (rename_i o0 _; cases o0 <;> first | rfl | (dsimp only; repeat' (first | rfl | split)))))
   ·rfl
 ·rw [he] at hi'
  unfold sliceA at hi'
  split at hi'
  ·cases hi'
  ·split at hi'
   ·repeat' (split at hi')
    all_goals (cases hi'; done)
   ·repeat' (split at hi')
    all_goals (cases hi'; done)
   ·repeat' (split at hi')
    all_goals (cases hi'; done)
   ·rename_i hx; rw [hx]; repeat' (split at hi')
    all_goals first | exact hi' | (cases hi'; done)
   ·rename_i hx; rw [hx]; repeat' (split at hi')
    all_goals first | exact hi' | (cases hi'; done)
   ·rename_i hx; rw [hx]; repeat' (split at hi')
    all_goals first | exact hi' | (cases hi'; done)
   ·cases hi'

theorem len_loc {o : Oper} {c : Call} (ho : o.op = .call c) (hc : c.callee = .builtin .len) {p : Prop} {v : AV} {s1 : St} (h : (aop E o s).get = some (p, v, s1)) : Hangs E o s p v := by
 obtain ⟨x, T, ha, hT⟩ : ∃ x T, c.args.toList = [x] ∧ c.argTypes.toList = [T] := by
  unfold aop at h
  rw [ho] at h
  simp only [hc] at h
  split at h
  ·exact ⟨_, _, by assumption, by assumption⟩
  ·cases h
 have hx0 : x ∈ o.op.operands.toList := by rw [ho]; exact ops_arg (by rw [ha]; simp)
 refine .ro h (fun t hag => ?_) (fun i hi => ?_)
 ·obtain ⟨e1, e2⟩ := ag hag hx0
  unfold aop
  rw [ho]
  simp only [hc, ha, hT, e1]
  split
  ·repeat' (first | rfl | split)
  ·repeat' (first | rfl | split)
  ·repeat' (first | rfl | split)
  ·rename_i hx; rw [hx] at e2; (first | simp only [part_st (ob1 e2)] | simp only [part_st (ob2 e2)]) ; (generalize s.part _ _ = pt; cases pt with | none => rfl | some q => (obtain ⟨u, z⟩ := q; cases u <;> first | rfl | (dsimp only; repeat' (first | rfl | split)) | (rename_i o0 _; cases o0 <;> first | rfl | (dsimp only; repeat' (first | rfl | split)))))
  ·rename_i hx; rw [hx] at e2; simp only [view_st (ob3 e2)] ; (generalize s.view _ _ _ _ = pt; cases pt with | none => rfl | some q => (obtain ⟨u, z⟩ := q; dsimp only; repeat' (first | rfl | split)))
  ·repeat' (first | rfl | split)
  ·rfl
 ·exfalso
  unfold aop at hi
  rw [ho] at hi
  simp only [hc, ha, hT] at hi
  repeat' (split at hi)
  all_goals (cases hi)

theorem foldI_st {k : IntKind} {f : Int → Int → Int} : ∀ {l : List Operand} {n : Int}, (∀ x ∈ l, t.ev x = s.ev x) → foldI t k f n l = (foldI s k f n l).withSt t
 | [], n, _ => rfl
 | x :: l, n, h => by
  simp only [foldI, h x (by simp)]
  split
  ·split
   ·exact foldI_st (fun y hy => h y (by simp [hy]))
   ·rfl
  ·rfl

theorem foldI_ment {k : IntKind} {f : Int → Int → Int} {i : Nat} : ∀ {l : List Operand} {n : Int}, (foldI s k f n l).av.ment i = true → False
 | [], n, h => by cases h
 | x :: l, n, h => by
  simp only [foldI] at h
  split at h
  ·split at h
   ·exact foldI_ment h
   ·cases h
  ·cases h

theorem maxmin_loc {o : Oper} {c : Call} (ho : o.op = .call c) (hc : c.callee = .builtin .max ∨ c.callee = .builtin .min) {p : Prop} {v : AV} {s1 : St} (h : (aop E o s).get = some (p, v, s1)) : Hangs E o s p v := by
 have hxo : ∀ x ∈ c.args.toList, x ∈ o.op.operands.toList := fun x hx => by rw [ho]; exact ops_arg hx
 refine .ro h (fun t hag => ?_) (fun i hi => ?_)
 ·unfold aop
  rw [ho]
  rcases hc with hc | hc <;>
  ·simp only [hc]
   split
   ·rename_i x l ha
    rw [(hag x (hxo x (by rw [ha]; simp))).1]
    split
    ·exact foldI_st (fun y hy => (hag y (hxo y (by rw [ha]; simp [hy]))).1)
    ·rfl
   ·rfl
 ·exfalso
  unfold aop at hi
  rw [ho] at hi
  rcases hc with hc | hc
  ·simp only [hc] at hi
   split at hi
   ·split at hi
    ·exact foldI_ment hi
    ·cases hi
   ·cases hi
  ·simp only [hc] at hi
   split at hi
   ·split at hi
    ·exact foldI_ment hi
    ·cases hi
   ·cases hi

theorem build_loc {o : Oper} {T : TypeId} {parts : Array (Nat × Operand)} (ho : o.op = .build T parts) {p : Prop} {v : AV} {s1 : St} (h : (aop E o s).get = some (p, v, s1)) : Hangs E o s p v := by
 have hps : ∀ t, Agree s t o.op.operands.toList → ∀ q ∈ parts.toList, t.ev q.2 = s.ev q.2 ∧ Alike s t (s.ev q.2) := fun t ha q hq => ag ha (by rw [ho]; simp only [Op.operands]; simpa using ⟨q.1, by simpa using hq⟩)
 have key : ∃ t0 r g, look T E.tt = some t0 ∧ (t0.ty.agg && parts.toList.all (fun q => inArr t0.ty q.1)) = true ∧ buildL s ⟨t0.ty, t0.ty.dflt⟩ parts.toList = some (r, g) := by
  unfold aop at h; rw [ho] at h
  simp only at h
  split at h
  ·split at h
   ·split at h
    ·exact ⟨_, _, _, by assumption, by assumption, by assumption⟩
    ·exact ⟨_, _, _, by assumption, by assumption, by assumption⟩
    ·cases h
   ·cases h
  ·cases h
 obtain ⟨t0, ⟨u, y⟩, g, h1, h2, h3⟩ := key
 have hb : ∀ t, Agree s t o.op.operands.toList → buildL t ⟨t0.ty, t0.ty.dflt⟩ parts.toList = some (⟨u, y⟩, g) := fun t ha => (buildL_st (s := s) (t := t) (hps t ha)).trans h3
 cases g with
 | nil =>
  have he : ∀ t, Agree s t o.op.operands.toList → aop E o t = .ok (.val u y) t := fun t ha => by unfold aop; rw [ho]; simp only [h1, h2, hb t ha]
  refine .ro h (fun t ha => ?_) (fun i hi => ?_)
  ·rw [he t ha, he s (.refl _ _)]; rfl
  ·rw [he s (.refl _ _)] at hi; cases hi
 | cons g0 g =>
  cases hd : o.dst with
  | none =>
   exfalso
   unfold aop at h; rw [ho] at h
   simp only [h1, h2, h3, hd] at h
   cases h
  | some d =>
   refine Hangs.lay hd (g := g0 :: g) (u := u) (x := y) (W := fun r => r) (p := p) (v := v) (s1 := s1) ?_ (fun _ => rfl) ?_ h (fun t ha => by unfold aop; rw [ho]; simp only [h1, h2, hb t ha, hd])
   ·have hp : p = True := by
     unfold aop at h; rw [ho] at h
     simp only [h1, h2, h3, hd] at h
     cases hl : s.lay d (g0 :: g) u y <;> rw [hl] at h
     ·cases h
     ·cases h; rfl
     ·exact absurd hl lay_okN
    intro v s; rw [hp]; rfl
   ·intro i hi
    obtain ⟨q, hq, hm⟩ := buildL_ment h3 i hi
    unfold takes
    rw [ho]
    exact lent_ment.2 (ment_evs (List.mem_map.2 ⟨q, hq, rfl⟩) hm)

theorem buildSlice_loc {o : Oper} {T : TypeId} {n : Nat} {parts : Array (Nat × Operand)} (ho : o.op = .buildSlice T n parts) {p : Prop} {v : AV} {s1 : St} (h : (aop E o s).get = some (p, v, s1)) : Hangs E o s p v := by
 have hps : ∀ t, Agree s t o.op.operands.toList → ∀ q ∈ parts.toList, t.ev q.2 = s.ev q.2 ∧ Alike s t (s.ev q.2) := fun t ha q hq => ag ha (by rw [ho]; simp only [Op.operands]; simpa using ⟨q.1, by simpa using hq⟩)
 have key : ∃ t0 b d m t' l g, look T E.tt = some ⟨.slc true t0, b⟩ ∧ o.dst = some d ∧ (s.fresh d && parts.toList.all (fun q => Nat.blt q.1 n) && Nat.ble (n * t0.size) 16777216) = true ∧ bslL s n t0 parts.toList = some (⟨.arr m t', l⟩, g) := by
  unfold aop at h; rw [ho] at h
  simp only at h
  split at h
  ·split at h
   ·split at h
    ·exact ⟨_, _, _, _, _, _, _, by assumption, by assumption, by assumption, by assumption⟩
    ·cases h
   ·cases h
  ·cases h
 obtain ⟨t0, b, d, m, t', l, g, h1, h2, h4, h5⟩ := key
 have hb : ∀ t, Agree s t o.op.operands.toList → bslL t n t0 parts.toList = some (⟨.arr m t', l⟩, g) := fun t ha => by
  rw [← h5]; unfold bslL; rw [buildL_st (s := s) (t := t) (hps t ha), buildL_st (s := s) (t := t) (hps t ha)]
 obtain ⟨t9, _, h9⟩ := bslL_inv h5
 have he : ∀ t, Agree s t o.op.operands.toList → t.fresh d = true → aop E o t = t.lay d g (.slc true t') l := fun t ha hf => by
  simp only [Bool.and_eq_true] at h4
  unfold aop; rw [ho]; simp only [h1, h2, hf, h4.1.2, h4.2, hb t ha, Bool.and_self]
 have hf : s.fresh d = true := by simp only [Bool.and_eq_true] at h4; exact h4.1.1
 have hgT : ∀ i ∈ g, i ∈ takes E o s := by
  intro i hi
  obtain ⟨q, hq, hm⟩ := buildL_ment h9 i hi
  unfold takes
  rw [ho]
  exact lent_ment.2 (ment_evs (List.mem_map.2 ⟨q, hq, rfl⟩) hm)
 rw [he s (.refl _ _) hf] at h
 cases hl : s.lay d g (.slc true t') l with
 | fail y => rw [hl] at h; cases h
 | okN q v s' => exact absurd hl lay_okN
 | ok v' s' =>
  rw [hl] at h
  cases h
  obtain ⟨k1, rfl, rfl, k4⟩ := lay_get hl
  exact Hangs.obj h2 (e := .own (.slc true t') l) (g := g) (fun i hi => by simpa [AV.ment] using hi) k1 hgT (fun t ha hu hf => by rw [he t ha hf, lay_st hf k4]; rfl)

theorem box_loc {o : Oper} {T : TypeId} {x : Operand} (ho : o.op = .box T x) {p : Prop} {v : AV} {s1 : St} (h : (aop E o s).get = some (p, v, s1)) : Hangs E o s p v := by
 have hxo : x ∈ o.op.operands.toList := by rw [ho]; simp [Op.operands]
 have hT : takes E o s = (s.ev x).lent := by unfold takes; rw [ho]
 have key : ∃ t0 d, look T E.tt = some t0 ∧ o.dst = some d ∧ s.fresh d = true := by
  unfold aop at h; rw [ho] at h
  simp only at h
  split at h
  ·split at h
   ·exact ⟨_, _, by assumption, by assumption, by assumption⟩
   ·cases h
  ·cases h
 obtain ⟨t0, d, h1, h2, h3⟩ := key
 have he : ∀ t, t.fresh d = true → aop E o t = (match (t.ev x).giveV t with
    | some (⟨u, y⟩, g) => if u.sh = t0.ty.sh then (match noDup g && !g.contains d && g.all fun i => !pinned i with
     | true => .ok (.ptr d []) ((St.drops g t).putE d (.var u y))
     | false => .fail "box: objects") else .fail "box: value"
    | none => (match t.ev x, t0.ty with
     | .raw (.slice none 0 0), .slc o u => .ok (.ptr d []) (t.putE d (.var (.slc o u) ([] : List u.den)))
     | .ptr i p, .box _ none _ => .ok (.bx (.ptr i p)) t
     | _, _ => .fail "box: what")) := fun t ht => by unfold aop; rw [ho]; simp only [h1, h2, ht]; rfl
 rw [he s h3] at h
 split at h
 ·rename_i u y g hgv
  split at h
  ·rename_i hsh
   split at h
   ·rename_i hc
    cases h
    refine Hangs.obj h2 (e := .var u y) (g := g) (fun i hi => by simpa [AV.ment] using hi) h3 (fun i hi => by rw [hT]; exact lent_ment.2 (giveV_ment hgv i hi)) (fun t ha hu hf => ?_)
    obtain ⟨e1, e2⟩ := ag ha hxo
    rw [he t hf, e1]
    simp only [(giveV_st e2).trans hgv, hsh, if_true, hc]
    rfl
   ·cases h
  ·cases h
 ·rename_i hgv
  split at h
  ·rename_i o' u hx ht0
   cases h
   refine Hangs.obj h2 (e := .var (.slc o' u) ([] : List u.den)) (g := []) (fun i hi => by simpa [AV.ment] using hi) h3 (by simp) (fun t ha hu hf => ?_)
   obtain ⟨e1, e2⟩ := ag ha hxo
   have hgt := (giveV_st e2).trans hgv
   rw [hx] at e1 hgt
   rw [he t hf, e1]
   simp only [hgt, ht0]
   rfl
  ·rename_i i q o0 u0 hx ht0
   cases h
   refine ⟨[d], fun u => u, fun j => if j = d then none else look j s.hp, Trim.id _, fresh_new h3, by simp [h2], fun j hj => .inl ⟨x, hxo, by rw [hx]; exact hj⟩, fun t hu ha hn => ?_⟩
   have hf := fresh_mk hu hn
   obtain ⟨e1, e2⟩ := ag ha hxo
   have hgt := (giveV_st e2).trans hgv
   rw [hx] at e1 hgt
   refine ⟨t, ?_, hu, ⟨fun n => by simp, fun j => ?_⟩⟩
   ·rw [he t hf, e1]; simp only [hgt, ht0]; rfl
   ·by_cases hj : j = d
    ·subst hj
     rw [if_pos (.inr (by simp)), if_pos rfl]
     exact (hn j (by simp)).1
    ·by_cases hj2 : j ∈ takes E o s
     ·rw [if_pos (.inl hj2), if_neg hj]; exact takes_obj ha hj2
     ·rw [if_neg (by simp [hj2, hj])]
  ·cases h

theorem convert_loc {o : Oper} {T' T : TypeId} {x : Operand} (ho : o.op = .convert T' T x) {p : Prop} {v : AV} {s1 : St} (h : (aop E o s).get = some (p, v, s1)) : Hangs E o s p v := by
 have hxo : x ∈ o.op.operands.toList := by rw [ho]; simp [Op.operands]
 by_cases hs : (∃ y, s.ev x = .val .str y) ∧ (∃ b, look T' E.tt = some ⟨.str, b⟩) ∧ (∃ b, look T E.tt = some ⟨.slc true (.int .u8), b⟩)
 ·obtain ⟨⟨y, hy⟩, ⟨b, hb⟩, ⟨b', hb'⟩⟩ := hs
  cases hd : o.dst with
  | none =>
   exfalso
   unfold aop at h; rw [ho] at h
   simp only [hy, hb, hb', hd] at h
   cases h
  | some d =>
   have he : ∀ t, t.ev x = s.ev x → aop E o t = t.lay d [] (.slc true (.int .u8)) (List.map (fun b : UInt8 => (b.toNat : Int)) y : List Int) := fun t ht => by
    unfold aop; rw [ho]; simp only [ht, hy, hb, hb', hd]
   have hp : p = True := by
    rw [he s rfl] at h
    cases hl : s.lay d [] (.slc true (.int .u8)) (List.map (fun b : UInt8 => (b.toNat : Int)) y : List Int) <;> rw [hl] at h
    ·cases h
    ·cases h; rfl
    ·exact absurd hl lay_okN
   exact Hangs.lay hd (g := []) (W := fun r => r) (fun v s => by rw [hp]; rfl) (fun _ => rfl) (by simp) h (fun t ha => he t (ag ha hxo).1)
 ·refine .ro h (fun t ha => ?_) (fun i hi => ?_)
  ·obtain ⟨e1, e2⟩ := ag ha hxo
   unfold aop; rw [ho]; simp only [e1]
   split
   ·rfl
   ·rename_i hx ht1 ht2
    exact absurd ⟨⟨_, hx⟩, ⟨_, ht1⟩, ⟨_, ht2⟩⟩ hs
   ·rw [els_st e2]
    repeat' (first | rfl | split)
   ·rfl
  ·exfalso
   unfold aop at hi; rw [ho] at hi
   simp only at hi
   split at hi
   ·cases hi
   ·rename_i hx ht1 ht2
    exact absurd ⟨⟨_, hx⟩, ⟨_, ht1⟩, ⟨_, ht2⟩⟩ hs
   ·repeat' (split at hi)
    all_goals (cases hi)
   ·cases hi

theorem makeSlice_loc {o : Oper} {T : TypeId} {x y : Operand} (ho : o.op = .makeSlice T x y) {p : Prop} {v : AV} {s1 : St} (h : (aop E o s).get = some (p, v, s1)) : Hangs E o s p v := by
 have hxo : x ∈ o.op.operands.toList := by rw [ho]; simp [Op.operands]
 have hyo : y ∈ o.op.operands.toList := by rw [ho]; simp [Op.operands]
 have key : ∃ t0 b d k n k' m, look T E.tt = some ⟨.slc true t0, b⟩ ∧ o.dst = some d ∧ s.ev x = .val (.int k) n ∧ s.ev y = .val (.int k') m := by
  unfold aop at h; rw [ho] at h
  simp only at h
  split at h
  ·exact ⟨_, _, _, _, _, _, _, by assumption, by assumption, by assumption, by assumption⟩
  ·cases h
 obtain ⟨t0, b, d, k, n, k', m, h1, h2, h3, h4⟩ := key
 have he : ∀ t, t.ev x = s.ev x → t.ev y = s.ev y → aop E o t = (t.lay d [] (.slc true t0) (List.replicate (Int.toNat n) t0.dflt)).need (@LE.le Int Int.instLEInt 0 n ∧ @LE.le Int Int.instLEInt n m ∧ @LE.le Int Int.instLEInt m 140737488355328 ∧ @LE.le Int Int.instLEInt (@HMul.hMul Int Int Int _ m (t0.wb : Nat)) 140737488355328) := fun t e1 e2 => by
  unfold aop; rw [ho]; simp only [e1, e2, h1, h2, h3, h4]
 have h0 := h
 rw [he s rfl rfl] at h
 obtain rfl := need_W h (fun _ _ _ => lay_okN)
 exact Hangs.lay h2 (g := []) (W := OR.need _) (fun _ _ => rfl) (fun _ => rfl) (by simp) h0 (fun t ha => he t (ag ha hxo).1 (ag ha hyo).1)

theorem dstP_st {v : AV} (h : Alike s t v) : v.dstP t = v.dstP s := by
 unfold AV.dstP
 split
 ·rw [part_st (ob2 h)]
 ·rw [part_st (ob3 h)]
 ·rfl
theorem dstP_ment {v : AV} {i : Nat} {p : List Step} {lo hi : Int} (h : v.dstP s = some (i, p, lo, hi)) : v.ment i = true := by
 unfold AV.dstP at h
 split at h
 ·split at h
  ·cases h; simp [AV.ment]
  ·cases h
 ·split at h
  ·cases h; simp [AV.ment]
  ·cases h
 ·cases h
theorem copy_loc {o : Oper} {c : Call} (ho : o.op = .call c) (hc : c.callee = .builtin .copy) {p : Prop} {v : AV} {s1 : St} (h : (aop E o s).get = some (p, v, s1)) : Hangs E o s p v := by
 have hxo : ∀ x ∈ c.args.toList, x ∈ o.op.operands.toList := fun x hx => by rw [ho]; exact ops_arg hx
 have hT : takes E o s = (s.evs c.args.toList).lent := by unfold takes; rw [ho]; simp only [hc]
 have key : ∃ x y T, c.args.toList = [x, y] ∧ ∀ t, aop E o t = copyA E T (t.ev x) (t.ev y) t := by
  unfold aop at h
  rw [ho] at h
  simp only [hc] at h
  split at h
  ·rename_i x y T U hargs htys
   exact ⟨x, y, T, hargs, fun t => by unfold aop; rw [ho]; simp only [hc, hargs, htys]⟩
  ·cases h
 obtain ⟨x, y, T, hargs, he⟩ := key
 rw [he] at h
 have hxm : x ∈ o.op.operands.toList := hxo x (by rw [hargs]; simp)
 have hym : y ∈ o.op.operands.toList := hxo y (by rw [hargs]; simp)
 unfold copyA at h
 split at h
 ·rename_i i q lo hi u m hd hels
  split at h
  ·rename_i s' hf hck
   simp only [OR.get, Option.some.injEq, Prod.mk.injEq] at h
   obtain ⟨rfl, rfl, _⟩ := h
   obtain ⟨ow, e', hfl⟩ := fillA_loc hf
   have hm := dstP_ment hd
   refine Hangs.fill (i := i) (ow := ow) (e' := e') (by rw [hT, lent_ment, hargs]; simp [St.evs, AV.ment, hm]) (fun _ => rfl) (fun t ha => ?_)
   rw [he, (ha x hxm).1, (ha y hym).1]
   unfold copyA
   rw [dstP_st (ha x hxm).2, els_st (ha y hym).2, hd, hels]
   simp only [hfl t ((ha x hxm).2 i hm), hck]
   rfl
  ·cases h
 ·cases h
theorem clear_loc {o : Oper} {c : Call} (ho : o.op = .call c) (hc : c.callee = .builtin .clear) {p : Prop} {v : AV} {s1 : St} (h : (aop E o s).get = some (p, v, s1)) : Hangs E o s p v := by
 have hxo : ∀ x ∈ c.args.toList, x ∈ o.op.operands.toList := fun x hx => by rw [ho]; exact ops_arg hx
 have hT : takes E o s = (s.evs c.args.toList).lent := by unfold takes; rw [ho]; simp only [hc]
 have key : ∃ x T, c.args.toList = [x] ∧ ∀ t, aop E o t = clearA E T (t.ev x) t := by
  unfold aop at h
  rw [ho] at h
  simp only [hc] at h
  split at h
  ·rename_i x T hargs htys
   exact ⟨x, T, hargs, fun t => by unfold aop; rw [ho]; simp only [hc, hargs, htys]⟩
  ·cases h
 obtain ⟨x, T, hargs, he⟩ := key
 rw [he] at h
 have hxm : x ∈ o.op.operands.toList := hxo x (by rw [hargs]; simp)
 unfold clearA at h
 split at h
 ·rename_i i q lo hi b u bts hd hlk
  split at h
  ·rename_i s' hf
   simp only [OR.get, Option.some.injEq, Prod.mk.injEq] at h
   obtain ⟨rfl, rfl, _⟩ := h
   obtain ⟨ow, e', hfl⟩ := fillA_loc hf
   have hm := dstP_ment hd
   refine Hangs.fill (i := i) (ow := ow) (e' := e') (by rw [hT, lent_ment, hargs]; simp [St.evs, AV.ment, hm]) (fun _ => rfl) (fun t ha => ?_)
   rw [he, (ha x hxm).1]
   unfold clearA
   rw [dstP_st (ha x hxm).2, hd, hlk]
   simp only [hfl t ((ha x hxm).2 i hm)]
   rfl
  ·cases h
 ·cases h

theorem update_loc {o : Oper} {T : TypeId} {m x y : Operand} (ho : o.op = .mapUpdate T m x y) {p : Prop} {v : AV} {s1 : St} (h : (aop E o s).get = some (p, v, s1)) : Hangs E o s p v := by
 have hm : m ∈ o.op.operands.toList := by rw [ho]; simp [Op.operands]
 have hx : x ∈ o.op.operands.toList := by rw [ho]; simp [Op.operands]
 have hy : y ∈ o.op.operands.toList := by rw [ho]; simp [Op.operands]
 have hl : ∀ t, aop E o t = updA E T (t.ev m) (t.ev x) (t.ev y) t := fun t => by unfold aop; rw [ho]
 have hT : takes E o s = (s.ev m).lent := by unfold takes; rw [ho]
 rw [hl] at h
 have key : ∃ j e', s.ev m = .at_ j [] ∧ p = True ∧ v = .raw undef ∧ ∀ t : St, t.obj j = s.obj j → updA E T (s.ev m) (s.ev x) (s.ev y) t = .ok (.raw undef) ((t.killR j true).putE j e') := by
  unfold updA at h
  split at h
  ·rename_i j u a u' z e1 e2 e3
   split at h
   ·rename_i k w l hob
    split at h
    ·rename_i hu
     split at h
     ·rename_i hu'
      split at h
      ·rename_i hmt
       simp only [OR.get, Option.some.injEq, Prod.mk.injEq] at h
       obtain ⟨rfl, rfl, _⟩ := h
       refine ⟨j, .own (.map true k w) (some (mput (eqD k) (castD hu a) (castD hu' z) l)), e1, rfl, rfl, fun t ht => ?_⟩
       unfold updA
       rw [e1, e2, e3]
       subst hu hu'
       simp only [ht, hob, hmt, dif_pos]
      ·cases h
     ·cases h
    ·cases h
   ·cases h
  ·cases h
 obtain ⟨j, e', e1, rfl, rfl, hk⟩ := key
 refine Hangs.fill (i := j) (ow := true) (e' := e') (by rw [hT, e1]; simp [AV.lent]) (fun _ => rfl) (fun t ha => ?_)
 rw [hl, (ag ha hm).1, (ag ha hx).1, (ag ha hy).1, hk t ((ag ha hm).2 j (by rw [e1]; simp [AV.ment]))]
 rfl

theorem aop_loc {o : Oper} (hpick : ∀ a b c, o.op ≠ .pick a b c) {p : Prop} {v : AV} {s1 : St} (h : (aop E o s).get = some (p, v, s1)) : Hangs E o s p v := by
 have hin : ∀ x, x ∈ o.op.operands.toList ↔ x ∈ o.op.operands.toList := fun _ => Iff.rfl
 cases ho : o.op with
 | move x =>
  have hx : x ∈ o.op.operands.toList := by rw [ho]; simp [Op.operands]
  refine .ro h (fun t ha => ?_) (fun i hi => ⟨x, hx, ?_⟩)
  ·unfold aop; rw [ho]; simp only [(ag ha hx).1]; rfl
  ·unfold aop at hi; rw [ho] at hi; exact hi
 | assign x =>
  have hx : x ∈ o.op.operands.toList := by rw [ho]; simp [Op.operands]
  refine .ro h (fun t ha => ?_) (fun i hi => ⟨x, hx, ?_⟩)
  ·unfold aop; rw [ho]; simp only [(ag ha hx).1]; rfl
  ·unfold aop at hi; rw [ho] at hi; exact hi
 | load T x =>
  have hx : x ∈ o.op.operands.toList := by rw [ho]; simp [Op.operands]
  have hl : ∀ t, aop E o t = loadA E T (t.ev x) t := fun t => by unfold aop; rw [ho]
  refine .ro h (fun t ha => ?_) (fun i hi => ⟨x, hx, ?_⟩)
  ·obtain ⟨e1, e2⟩ := ag ha hx
   rw [hl, hl, e1]; exact loadA_st e2
  ·rw [hl] at hi; exact loadA_ment hi
 | nilCheck x =>
  have hx : x ∈ o.op.operands.toList := by rw [ho]; simp [Op.operands]
  refine .ro h (fun t ha => ?_) (fun i hi => ⟨x, hx, ?_⟩)
  ·unfold aop; rw [ho]; simp only [(ag ha hx).1]; split <;> rfl
  ·unfold aop at hi; rw [ho] at hi
   simp only at hi
   split at hi <;> first | (cases hi; done) | (rename_i e; rw [e]; exact hi)
 | binOp op T x y T' =>
  have hx : x ∈ o.op.operands.toList := by rw [ho]; simp [Op.operands]
  have hy : y ∈ o.op.operands.toList := by rw [ho]; simp [Op.operands]
  have hl : ∀ t, aop E o t = binE E T op (t.ev x) (t.ev y) t := fun t => by unfold aop; rw [ho]
  refine .ro h (fun t ha => ?_) (fun i hi => ?_)
  ·rw [hl, hl, (ag ha hx).1, (ag ha hy).1]; exact binE_st ..
  ·exfalso
   rw [hl] at hi
   unfold binE binA eqA binI binS arith at hi
   repeat' (split at hi)
   all_goals (cases hi)
 | unOp op T x =>
  have hx : x ∈ o.op.operands.toList := by rw [ho]; simp [Op.operands]
  have hl : ∀ t, aop E o t = unA op (t.ev x) t := fun t => by unfold aop; rw [ho]
  refine .ro h (fun t ha => ?_) (fun i hi => ?_)
  ·rw [hl, hl, (ag ha hx).1]; exact unA_st ..
  ·exfalso
   rw [hl] at hi
   unfold unA arith at hi
   repeat' (split at hi)
   all_goals (cases hi)
 | convert T' T x => exact convert_loc ho h
 | fieldAddr T x n => exact fieldAddr_loc ho h
 | indexAddr T x y => exact indexAddr_loc ho h
 | index T x y => exact index_loc ho h
 | field T x n => exact field_loc ho h
 | slice T x lo hi mx => exact slice_loc ho h
 | makeSlice T x y => exact makeSlice_loc ho h
 | build T parts => exact build_loc ho h
 | buildSlice T n parts => exact buildSlice_loc ho h
 | makeMap T r => exact makeMap_loc ho h
 | lookup T x y ok => exact lookup_loc ho h
 | mapUpdate T m x y => exact update_loc ho h
 | box T x => exact box_loc ho h
 | store T a x => exact store_loc ho h
 | extract x n =>
  have hx : x ∈ o.op.operands.toList := by rw [ho]; simp [Op.operands]
  refine .ro h (fun t ha => ?_) (fun i hi => ⟨x, hx, ?_⟩)
  ·unfold aop; rw [ho]; simp only [(ag ha hx).1]
   split
   ·split <;> rfl
   ·rfl
  ·unfold aop at hi; rw [ho] at hi
   simp only at hi
   split at hi
   ·rename_i l e
    split at hi
    ·rename_i v hv
     rw [e]; show l.ment i = true; exact nth_ment hv hi
    ·cases hi
   ·cases hi
 | makeFunc fn first caps =>
  have hcm : ∀ x ∈ caps.toList, x ∈ o.op.operands.toList := fun x hx => by rw [ho]; simp only [Op.operands]; simp at hx ⊢; exact .inr hx
  have hcs : ∀ t, Agree s t o.op.operands.toList → t.evs caps.toList = s.evs caps.toList := fun t ha => evs_st (fun x hx => (ag ha (hcm x hx)).1)
  refine .ro h (fun t ha => ?_) (fun i hi => ?_)
  ·unfold aop; rw [ho]
   cases fn with
   | func f => simp only [hcs t ha]; split <;> rfl
   | _ => rfl
  ·unfold aop at hi; rw [ho] at hi
   cases fn with
   | func f =>
    simp only at hi
    split at hi
    ·obtain ⟨x, hx, hi⟩ := evs_ment (s := s) (i := i) (xs := caps.toList) hi
     exact ⟨x, hcm x hx, hi⟩
    ·cases hi
   | _ => cases hi
 | alloc T =>
  have key : ∃ t0 d, look T E.tt = some t0 ∧ o.dst = some d ∧ s.fresh d = true := by
   unfold aop at h; rw [ho] at h
   simp only at h
   split at h
   ·split at h
    ·exact ⟨_, _, by assumption, by assumption, by assumption⟩
    ·cases h
   ·cases h
  obtain ⟨t0, d, h1, h2, h3⟩ := key
  have he : ∀ t, t.fresh d = true → aop E o t = .ok (.ptr d []) (t.putE d (.var t0.ty t0.ty.dflt)) := fun t ht => by unfold aop; rw [ho]; simp only [h1, h2, ht]
  rw [he s h3] at h
  simp only [OR.get, Option.some.injEq, Prod.mk.injEq] at h
  obtain ⟨rfl, rfl, rfl⟩ := h
  exact .obj h2 (g := []) (fun i hi => by simpa [AV.ment] using hi) h3 (by simp) (fun t _ _ ht => by rw [he t ht]; rfl)
 | call c =>
  cases hc : c.callee with
  | value f => exact call_loc ho hc h
  | builtin b =>
   cases b <;> first
    | (exact len_loc ho hc h)
    | (exact cap_loc ho hc h)
    | (exact append_loc ho hc h)
    | (exact copy_loc ho hc h)
    | (exact clear_loc ho hc h)
    | (exact maxmin_loc ho (.inl hc) h)
    | (exact maxmin_loc ho (.inr hc) h)
    | (exfalso; unfold aop at h; rw [ho] at h; simp only [hc] at h; cases h)
  | _ => exfalso; unfold aop at h; rw [ho] at h; simp only [hc] at h; cases h
 | pick a b c => exact absurd ho (hpick a b c)
 | _ => exfalso; unfold aop at h; rw [ho] at h; cases h

end
end Go.Ex

namespace Go.Ex

def Eqv (s t : St) : Prop := (∀ n, look n s.fr = look n t.fr) ∧ (∀ i, look i s.hp = look i t.hp)

theorem Eqv.refl (s : St) : Eqv s s := ⟨fun _ => rfl, fun _ => rfl⟩
theorem Eqv.symm {s t : St} (h : Eqv s t) : Eqv t s := ⟨fun n => (h.1 n).symm, fun n => (h.2 n).symm⟩
theorem Eqv.trans {s t u : St} (h : Eqv s t) (k : Eqv t u) : Eqv s u := ⟨fun n => (h.1 n).trans (k.1 n), fun n => (h.2 n).trans (k.2 n)⟩

theorem look_putS {m : Nat} {s : St} {d : Option Nat} {v : AV} : look m (s.put d v).fr = if d = some m then some v else look m s.fr := by
 cases d with
 | none => simp [St.put]
 | some d =>
  simp only [St.put, look_put, Option.some.injEq]
  by_cases e : m = d
  ·subst e; simp
  ·rw [if_neg e, if_neg (fun h => e h.symm)]

theorem hp_putS {s : St} {d : Option Nat} {v : AV} : (s.put d v).hp = s.hp := by cases d <;> rfl

theorem uniq_putS {s : St} {d : Option Nat} {v : AV} (h : uniq s.fr) : uniq (s.put d v).fr := by
 cases d with
 | none => exact h
 | some d => exact uniq_put _ _ h

theorem Eqv.put {s t : St} (h : Eqv s t) (d : Option Nat) (v : AV) : Eqv (s.put d v) (t.put d v) :=
 ⟨fun n => by rw [look_putS, look_putS, h.1 n], fun i => by rw [hp_putS, hp_putS, h.2 i]⟩

theorem Eqv.get {s t : St} (h : Eqv s t) (m : Nat) : s.get m = t.get m := by simp only [St.get, h.1 m]
theorem Eqv.ev {s t : St} (h : Eqv s t) (x : Operand) : s.ev x = t.ev x := by cases x <;> first | rfl | exact h.get _

theorem NewIds.eqv {s t : St} (h : Eqv s t) {ids : List Nat} (hf : NewIds s ids) : NewIds t ids :=
 fun n hn => ⟨(h.2 n).symm.trans (hf n hn).1, fun m v hv => (hf n hn).2 m v ((h.1 m).trans hv)⟩

def AgreeS (s t : St) (L : List Nat) : Prop := ∀ m ∈ L, t.get m = s.get m ∧ ∀ i, (s.get m).ment i = true → t.obj i = s.obj i

theorem Eqv.agreeS {s t : St} (h : Eqv s t) (L : List Nat) : AgreeS s t L := fun m _ => ⟨(h.get m).symm, fun i _ => (h.2 i).symm⟩

theorem ofConst_ment (v : Value) (i : Nat) : (ofConst v).ment i = false := by
 unfold ofConst
 split
 ·split <;> rfl
 ·rfl
 ·split <;> rfl
 ·rfl

theorem ev_ment {s : St} {x : Operand} {i : Nat} (h : (s.ev x).ment i = true) : ∃ m, x = .tmp m ∧ (s.get m).ment i = true := by
 cases x with
 | tmp m => exact ⟨m, rfl, h⟩
 | const v => simp [St.ev, ofConst_ment] at h
 | global g => cases h
 | func f => cases h

theorem AgreeS.agree {s t : St} {L : List Nat} (h : AgreeS s t L) {xs : List Operand} (hL : ∀ m, Operand.tmp m ∈ xs → m ∈ L) : Agree s t xs := by
 intro x hx
 refine ⟨?_, fun i hi => ?_⟩
 ·cases x with
  | tmp m => exact (h m (hL m hx)).1
  | _ => rfl
 ·obtain ⟨m, rfl, hm⟩ := ev_ment hi
  exact (h m (hL m hx)).2 i hm

structure Put (s s1 : St) (d : Option Nat) (T ids : List Nat) (f : AV → AV) (h : Nat → Option Ent) (v : AV) : Prop where
 fr : ∀ n, look n s1.fr = if d = some n then some v else (look n s.fr).map f
 hp : ∀ i, look i s1.hp = if i ∈ T ∨ i ∈ ids then h i else look i s.hp

section
variable {s t s1 t1 : St} {d : Option Nat} {T ids : List Nat} {f : AV → AV} {h : Nat → Option Ent} {v : AV}
theorem Put.eqv (hp : Put s s1 d T ids f h v) (he : Eqv s t) : Put t s1 d T ids f h v :=
 ⟨fun n => by rw [hp.fr, he.1 n], fun i => by rw [hp.hp, he.2 i]⟩
theorem Put.det (hp : Put s s1 d T ids f h v) (hp' : Put t t1 d T ids f h v) (he : Eqv s t) : Eqv s1 t1 :=
 ⟨fun n => by rw [hp.fr, hp'.fr, he.1 n], fun i => by rw [hp.hp, hp'.hp, he.2 i]⟩
theorem Put.get (hp : Put s s1 d T ids f h v) (hf : Trim T f) {m : Nat} (hm : d ≠ some m) : s1.get m = f (s.get m) := by
 simp only [St.get, hp.fr, if_neg hm]
 cases look m s.fr with
 | none => exact (hf.plain _ rfl).symm
 | some u => rfl
end

theorem trim_nth {T : List Nat} {f : AV → AV} (hf : Trim T f) : ∀ {j : Nat} {l : AV}, aop.nth j (f l) = (aop.nth j l).map f := by
 have nope : ∀ {j : Nat} {l : AV}, (∀ a b, l ≠ .cons a b) → aop.nth j l = none := by
  intro j l h
  cases l with
  | cons a b => exact absurd rfl (h a b)
  | _ => cases j <;> rfl
 have hn : ∀ u : AV, (∀ a b, u ≠ .cons a b) → ∀ a b, f u ≠ .cons a b := by
  intro u hu a b e
  cases u with
  | cons a b => exact absurd rfl (hu a b)
  | tup l => rw [hf.tup] at e; cases e
  | clo g l => rw [hf.clo] at e; cases e
  | bx l => rw [hf.bx] at e; cases e
  | ptr i p => rcases hf.atom _ (rfl : (AV.ptr i p).ref = true) with h | h <;> rw [h] at e <;> cases e
  | at_ i p => rcases hf.atom _ (rfl : (AV.at_ i p).ref = true) with h | h <;> rw [h] at e <;> cases e
  | sub i p x y => rcases hf.atom _ (rfl : (AV.sub i p x y).ref = true) with h | h <;> rw [h] at e <;> cases e
  | _ => rw [hf.plain _ rfl] at e; cases e
 intro j
 induction j with
 | zero =>
  intro l
  cases l with
  | cons a b => rw [hf.cons]; rfl
  | _ => rw [nope (hn _ (by intro a b e; cases e)), nope (by intro a b e; cases e)]; rfl
 | succ j ih =>
  intro l
  cases l with
  | cons a b => rw [hf.cons]; exact ih
  | _ => rw [nope (hn _ (by intro a b e; cases e)), nope (by intro a b e; cases e)]; rfl

theorem vwB_eq (o : Oper) : (∀ v, vwB o v = v) ∨ (o.guard = none ∧ ∃ x j, o.op = .extract x j ∧ ∀ v, vwB o v = (match v with
  | .tup l => (match aop.nth j l with
   | some v => .tup (.cons v .nil)
   | none => .any)
  | _ => .any)) := by
 unfold vwB
 split
 ·rename_i x j hg ho; exact .inr ⟨hg, x, j, ho, fun _ => rfl⟩
 ·exact .inl fun _ => rfl

theorem vwB_trim {T : List Nat} {f : AV → AV} (hf : Trim T f) (o : Oper) (v : AV) : vwB o (f v) = f (vwB o v) := by
 rcases vwB_eq o with h | ⟨_, x, j, _, h⟩
 ·rw [h, h]
 ·rw [h, h]
  have hany : f .any = .any := hf.plain _ rfl
  cases v with
  | tup l =>
   rw [hf.tup]
   simp only [trim_nth hf]
   cases hn : aop.nth j l with
   | none => exact hany.symm
   | some u =>
    show AV.tup (.cons (f u) .nil) = f (.tup (.cons u .nil))
    rw [hf.tup, hf.cons, hf.plain .nil rfl]
  | cons a b => rw [hf.cons]; exact hany.symm
  | clo g l => rw [hf.clo]; exact hany.symm
  | bx l => rw [hf.bx]; exact hany.symm
  | ptr i p => rcases hf.atom _ (rfl : (AV.ptr i p).ref = true) with e | e <;> rw [e] <;> exact hany.symm
  | at_ i p => rcases hf.atom _ (rfl : (AV.at_ i p).ref = true) with e | e <;> rw [e] <;> exact hany.symm
  | sub i p x y => rcases hf.atom _ (rfl : (AV.sub i p x y).ref = true) with e | e <;> rw [e] <;> exact hany.symm
  | _ => rw [hf.plain _ rfl]; try exact hany.symm

theorem vwB_ment {o : Oper} {v : AV} {i : Nat} (h : (vwB o v).ment i = true) : v.ment i = true := by
 rcases vwB_eq o with e | ⟨_, x, j, _, e⟩
 ·rwa [e] at h
 ·rw [e] at h
  split at h
  ·rename_i l
   split at h
   ·rename_i u hu
    have : u.ment i = true := by simpa [AV.ment] using h
    show l.ment i = true
    exact nth_ment hu this
   ·cases h
  ·cases h

def AgreeV (o : Oper) (s t : St) (L : List Nat) : Prop := ∀ m ∈ L, vwB o (t.get m) = vwB o (s.get m) ∧ ∀ i, (vwB o (s.get m)).ment i = true → t.obj i = s.obj i

theorem AgreeV.plain {o : Oper} (h : ∀ v, vwB o v = v) {s t : St} {L : List Nat} (ha : AgreeV o s t L) : AgreeS s t L := fun m hm => by
 have := ha m hm
 simpa only [h] using this
theorem Eqv.agreeV {s t : St} (h : Eqv s t) (o : Oper) (L : List Nat) : AgreeV o s t L := fun m _ => ⟨by rw [h.get m], fun i _ => (h.2 i).symm⟩

def Eff (o : Oper) (run : St → Option (Prop × St)) (d : Option Nat) (L T : List Nat) (s : St) (p : Prop) : Prop :=
 ∃ v ids f h, Trim T f ∧ NewIds s ids ∧ (∀ n ∈ ids, n % 1000 = (d.getD 0) % 1000) ∧
  (∀ i, v.ment i = true → (∃ m ∈ L, (vwB o (s.get m)).ment i = true) ∨ i ∈ ids) ∧
  ∀ t, uniq t.fr → AgreeV o s t L → NewIds t ids → ∃ t1, run t = some (p, t1) ∧ uniq t1.fr ∧ Put t t1 d T ids f h v

section
variable {E : Env} {ops : Array Oper} {s t : St}

theorem runR_eff {o : Oper} {p : Prop} {s1 : St} (h : runR E o s = some (p, s1)) {L : List Nat} (hL : ∀ m, Operand.tmp m ∈ o.op.operands.toList → m ∈ L) : Eff o (runR E o) o.dst L (takes E o s) s p := by
 rcases vwB_eq o with hvw | ⟨hgn, x, j, hop, hvw⟩
 rotate_left
 ·have hd : dstOk E.nt o.dst = true := by
   unfold runR at h
   split at h
   ·cases h
   ·assumption
  have hr : ∀ t, runR E o t = (match (match t.ev x with | .tup l => (match aop.nth j l with | some v => OR.ok v t | none => .fail "extract") | _ => .fail "extract").get with | none => none | some (p, v, s') => some (p, s'.put o.dst v)) := by
   intro t
   unfold runR aop
   rw [hd, hop]
   rfl
  have hT : takes E o s = [] := by unfold takes; rw [hop]
  rw [hT]
  rw [hr] at h
  have key : ∃ m l v, x = .tmp m ∧ s.get m = .tup l ∧ aop.nth j l = some v ∧ p = True := by
   cases x with
   | tmp m =>
    cases hv : s.get m with
    | tup l =>
     have hv' : s.ev (.tmp m) = .tup l := hv
     rw [hv'] at h
     cases hn : aop.nth j l with
     | some v =>
      simp only [hn, OR.get, Option.some.injEq, Prod.mk.injEq] at h
      exact ⟨m, l, v, rfl, hv, hn, h.1.symm⟩
     | none => simp only [hn, OR.get] at h; cases h
    | _ =>
     have hv' : s.ev (.tmp m) = _ := hv
     rw [hv'] at h
     cases h
   | const c =>
    exfalso
    have : ∀ l, s.ev (.const c) ≠ .tup l := by
     intro l e
     simp only [St.ev] at e
     unfold ofConst at e
     repeat' split at e
     all_goals cases e
    revert h
    cases hv : s.ev (.const c) with
    | tup l => exact absurd hv (this l)
    | _ => intro h; cases h
   | global g => cases h
   | func f => cases h
  obtain ⟨m, l, v, rfl, hm, hn, rfl⟩ := key
  have hmL : m ∈ L := hL m (by rw [hop]; simp [Op.operands])
  have hvm : vwB o (s.get m) = .tup (.cons v .nil) := by rw [hvw, hm]; simp only [hn]
  refine ⟨v, [], fun u => u, fun _ => none, Trim.id _, by simp [NewIds], by simp, fun i hi => .inl ⟨m, hmL, by rw [hvm]; simpa [AV.ment] using hi⟩, fun t hu ha _ => ?_⟩
  have e1 := (ha m hmL).1
  rw [hvm, hvw] at e1
  have htv : ∃ l', t.get m = .tup l' ∧ aop.nth j l' = some v := by
   split at e1
   ·rename_i l' hl'
    split at e1
    ·rename_i v' hv'
     cases e1
     exact ⟨l', hl', hv'⟩
    ·cases e1
   ·cases e1
  obtain ⟨l', f1, f2⟩ := htv
  have hte : t.ev (.tmp m) = .tup l' := f1
  exact ⟨t.put o.dst v, by rw [hr, hte]; simp only [f2]; rfl, uniq_putS hu, ⟨fun n => by rw [look_putS]; simp, fun i => by rw [hp_putS]; simp⟩⟩
 have hvS : ∀ {t : St}, AgreeV o s t L → AgreeS s t L := fun ha => ha.plain hvw
 by_cases hp : ∃ a b c, o.op = .pick a b c
 ·obtain ⟨c, a, b, ho⟩ := hp
  have hd : dstOk E.nt o.dst = true := by
   unfold runR at h
   split at h
   ·cases h
   ·assumption
  have hr : ∀ t, runR E o t = (match t.ev c with | .val .bool g => some (True, t.put o.dst (match g with | true => t.ev a | false => t.ev b)) | _ => none) := by
   intro t
   unfold runR
   rw [hd, ho]
   rfl
  have hT : takes E o s = [] := by unfold takes; rw [ho]
  rw [hT]
  rw [hr] at h
  have hops : o.op.operands.toList = [c, a, b] := by rw [ho]; rfl
  rw [hops] at hL
  have key : ∃ g : Bool, s.ev c = .val .bool g := by
   split at h
   ·exact ⟨_, by assumption⟩
   ·cases h
  obtain ⟨g, hg⟩ := key
  rw [hg] at h
  simp only [Option.some.injEq, Prod.mk.injEq] at h
  obtain ⟨rfl, rfl⟩ := h
  refine ⟨(if g = true then s.ev a else s.ev b), [], fun u => u, fun _ => none, Trim.id _, by simp [NewIds], by simp, ?_, ?_⟩
  ·intro i hi
   cases g with
   | true => obtain ⟨m, hm, hi⟩ := ev_ment hi; exact .inl ⟨m, hL m (by simp [← hm]), by rw [hvw]; exact hi⟩
   | false => obtain ⟨m, hm, hi⟩ := ev_ment hi; exact .inl ⟨m, hL m (by simp [← hm]), by rw [hvw]; exact hi⟩
  ·intro t hu ha _
   have hag := (hvS ha).agree hL
   have e1 := (hag c (by simp)).1
   have e2 := (hag a (by simp)).1
   have e3 := (hag b (by simp)).1
   refine ⟨_, by rw [hr, e1, hg, e2, e3], uniq_putS hu, ⟨fun n => by rw [look_putS]; cases g <;> simp, fun i => by rw [hp_putS]; simp⟩⟩
 ·have hp' : ∀ a b c, o.op ≠ .pick a b c := fun a b c e => hp ⟨a, b, c, e⟩
  have hd : dstOk E.nt o.dst = true := by
   unfold runR at h
   split at h
   ·cases h
   ·assumption
  have hr : ∀ t, runR E o t = (match (aop E o t).get with | none => none | some (p, v, s') => some (p, s'.put o.dst v)) := by
   intro t
   unfold runR
   rw [hd]
   cases ho : o.op <;> first | rfl | exact absurd ho (hp' _ _ _)
  rw [hr] at h
  split at h
  ·cases h
  ·rename_i p' v s' hg
   cases h
   obtain ⟨ids, f, h, k1, k2, k3, k4, k5⟩ := aop_loc hp' hg
   refine ⟨v, ids, f, h, k1, k2, k3, ?_, ?_⟩
   ·intro i hi
    rcases k4 i hi with ⟨x, hx, hm⟩ | hm
    ·obtain ⟨m, rfl, hm⟩ := ev_ment hm
     exact .inl ⟨m, hL m hx, by rw [hvw]; exact hm⟩
    ·exact .inr hm
   ·intro t hu ha hf
    obtain ⟨t1, e1, e2, e3⟩ := k5 t hu ((hvS ha).agree hL) hf
    exact ⟨t1.put o.dst v, by rw [hr, e1], uniq_putS e2, ⟨fun n => by rw [look_putS, e3.fr], fun i => by rw [hp_putS, e3.hp]⟩⟩

theorem put_same {g : Nat} {v : AV} (hv : s.get g = v) (hn : v ≠ .any) : Eqv s (s.put (some g) v) := by
 refine ⟨fun n => ?_, fun i => rfl⟩
 rw [look_putS]
 split
 ·rename_i e
  cases e
  simp only [St.get] at hv
  cases hl : look g s.fr with
  | none => rw [hl] at hv; exact absurd hv.symm hn
  | some w => rw [hl] at hv; simp at hv; rw [hv]
 ·rfl

theorem looks_op {o : Oper} {m : Nat} (hm : Operand.tmp m ∈ o.op.operands.toList) : m ∈ looks ops o := List.mem_append_left _ (List.mem_filterMap.2 ⟨_, hm, rfl⟩)

theorem takes_look {o : Oper} {i : Nat} (hi : i ∈ takes E o s) : ∃ m ∈ looks ops o, (s.get m).ment i = true := by
 obtain ⟨x, hx, hm⟩ := takes_ment hi
 obtain ⟨m, rfl, hm⟩ := ev_ment hm
 exact ⟨m, looks_op hx, hm⟩

theorem takes_get {o : Oper} (h : ∀ m ∈ looks ops o, t.get m = s.get m) : takes E o t = takes E o s :=
 takes_st (fun x hx => by
  cases x with
  | tmp m => exact h m (looks_op hx)
  | _ => rfl)

theorem takes_lookV {o : Oper} {i : Nat} (hi : i ∈ takes E o s) : ∃ m ∈ looks ops o, (vwB o (s.get m)).ment i = true := by
 rcases vwB_eq o with h | ⟨_, x, j, hop, _⟩
 ·obtain ⟨m, hm, hmi⟩ := takes_look (ops := ops) hi
  exact ⟨m, hm, by rw [h]; exact hmi⟩
 ·unfold takes at hi; rw [hop] at hi; cases hi

theorem takes_getV {o : Oper} (h : ∀ m ∈ looks ops o, vwB o (t.get m) = vwB o (s.get m)) : takes E o t = takes E o s := by
 rcases vwB_eq o with e | ⟨_, x, j, hop, _⟩
 ·exact takes_get (fun m hm => by have := h m hm; simpa only [e] using this)
 ·unfold takes; rw [hop]

theorem place_eff {o : Oper} (_hu : uniq s.fr) {p : Prop} {s1 : St} (h : placeR E ops o s = some (p, s1)) : Eff o (placeR E ops o) o.dst (looks ops o) (takes E o s) s p := by
 have hL : ∀ m, Operand.tmp m ∈ o.op.operands.toList → m ∈ looks ops o := fun m hm => looks_op hm
 cases hg : o.guard with
 | none =>
  have hr : ∀ t, placeR E ops o t = runR E o t := fun t => by unfold placeR; rw [hg]
  rw [hr] at h
  have := runR_eff h hL
  rwa [← (funext hr : placeR E ops o = runR E o)] at this
 | some jw =>
  obtain ⟨j, want⟩ := jw
  have hvw : ∀ v, vwB o v = v := by
   rcases vwB_eq o with e | ⟨hgn, _⟩
   ·exact e
   ·rw [hg] at hgn; cases hgn
  have hvS : ∀ {t : St} {L : List Nat}, AgreeV o s t L → AgreeS s t L := fun ha => ha.plain hvw
  cases hs : guardSlot ops j with
  | none => unfold placeR at h; rw [hg] at h; simp [hs] at h
  | some g =>
   have hgL : g ∈ looks ops o := by unfold looks; rw [hg]; simp [hs]
   have hr : ∀ t, placeR E ops o t = (match t.get g with
    | .raw (.tuple _) => match dstOk E.nt o.dst with
     | true => some (True, t.put o.dst (.raw undef))
     | false => none
    | .val .bool b => match dstOk E.nt o.dst with
     | false => none
     | true => match b == want with
      | true => runR E o (t.put (some g) (.val .bool b))
      | false => some (True, (t.put (some g) (.val .bool b)).put o.dst (.raw undef))
    | _ => none) := fun t => by unfold placeR; rw [hg]; dsimp only; rw [hs]; rfl
   have skip : (∀ t, uniq t.fr → t.get g = s.get g → ∃ t1, placeR E ops o t = some (True, t1) ∧ uniq t1.fr ∧ Eqv t1 (t.put o.dst (.raw undef))) → Eff o (placeR E ops o) o.dst (looks ops o) (takes E o s) s True := by
    intro hrun
    refine ⟨.raw undef, [], fun u => u, fun i => look i s.hp, Trim.id _, by simp [NewIds], by simp, fun i hi => by simp [AV.ment] at hi, fun t hut ha _ => ?_⟩
    have ha := hvS ha
    obtain ⟨t1, e1, e2, e3⟩ := hrun t hut (ha g hgL).1
    refine ⟨t1, e1, e2, ⟨fun n => by rw [e3.1, look_putS]; simp, fun i => ?_⟩⟩
    rw [e3.2, hp_putS]
    split
    ·rename_i hi
     obtain ⟨m, hm, hmi⟩ := takes_look (ops := ops) (by simpa using hi : i ∈ takes E o s)
     exact (ha m hm).2 i hmi
    ·rfl
   rw [hr] at h
   cases hv : s.get g with
   | raw w =>
    rw [hv] at h
    cases w with
    | tuple vs =>
     simp only at h
     cases hd : dstOk E.nt o.dst with
     | false => rw [hd] at h; cases h
     | true =>
      rw [hd] at h
      simp only [Option.some.injEq, Prod.mk.injEq] at h
      obtain ⟨rfl, rfl⟩ := h
      exact skip (fun t hut ht => ⟨_, by rw [hr, ht, hv]; simp only [hd], uniq_putS hut, Eqv.refl _⟩)
    | _ => cases h
   | val u b =>
    rw [hv] at h
    cases u with
    | bool =>
     simp only at h
     cases hd : dstOk E.nt o.dst with
     | false => rw [hd] at h; cases h
     | true =>
      rw [hd] at h
      simp only at h
      cases hb : (b == want) with
      | false =>
       rw [hb] at h
       simp only [Option.some.injEq, Prod.mk.injEq] at h
       obtain ⟨rfl, rfl⟩ := h
       exact skip (fun t hut ht => ⟨_, by rw [hr, ht, hv]; simp only [hd, hb], uniq_putS (uniq_putS hut), ((put_same (ht.trans hv) (by simp)).symm.put _ _)⟩)
      | true =>
       rw [hb] at h
       simp only at h
       have hsame := put_same hv (by simp)
       obtain ⟨v, ids, f, hh, k1, k2, k3, k4, k5⟩ := runR_eff h hL
       have hTe : takes E o (s.put (some g) (.val .bool b)) = takes E o s := takes_st (fun x _ => (hsame.ev x).symm)
       rw [hTe] at k1 k5
       refine ⟨v, ids, f, hh, k1, k2.eqv hsame.symm, k3, ?_, ?_⟩
       ·intro i hi
        rcases k4 i hi with ⟨m, hm, hmi⟩ | hm
        ·exact .inl ⟨m, hm, by rw [hsame.get]; exact hmi⟩
        ·exact .inr hm
       ·intro t hut ha hf
        have ha := hvS ha
        have htg : t.get g = .val .bool b := (ha g hgL).1.trans hv
        have hst := put_same htg (by simp)
        obtain ⟨t1, e1, e2, e3⟩ := k5 (t.put (some g) (.val .bool b)) (uniq_putS hut) (fun m hm => by
         rw [← hst.get, ← hsame.get, hvw, hvw]
         refine ⟨(ha m hm).1, fun i hi => ?_⟩
         have := (ha m hm).2 i hi
         simpa [St.obj, hp_putS] using this) (hf.eqv hst)
        refine ⟨t1, by rw [hr, htg]; simp only [hd, hb, e1], e2, e3.eqv hst.symm⟩
    | _ => cases h
   | _ => rw [hv] at h; cases h

theorem place_eqv {o : Oper} (hu : uniq s.fr) (he : Eqv s t) (ht : uniq t.fr) {p : Prop} {s1 : St} (h : placeR E ops o s = some (p, s1)) : ∃ t1, placeR E ops o t = some (p, t1) ∧ uniq t1.fr ∧ Eqv s1 t1 := by
 obtain ⟨v, ids, f, hh, k1, k2, k3, k4, k5⟩ := place_eff hu h
 obtain ⟨s1', e1, _, e3⟩ := k5 s hu ((Eqv.refl s).agreeV _ _) k2
 rw [h] at e1; cases e1
 obtain ⟨t1, f1, f2, f3⟩ := k5 t ht (he.agreeV _ _) (k2.eqv he)
 exact ⟨t1, f1, f2, e3.det f3 he⟩

theorem place_uniq {o : Oper} (hu : uniq s.fr) {p : Prop} {s1 : St} (h : placeR E ops o s = some (p, s1)) : uniq s1.fr := by
 obtain ⟨t1, h1, h2, _⟩ := place_eqv hu (Eqv.refl s) hu h
 rw [h] at h1; cases h1; exact h2

theorem clean_ment : ∀ {v : AV} {i : Nat}, v.clean = true → v.ment i = false := by
 intro v
 induction v with
 | cons a b iha ihb =>
  intro i h
  simp only [AV.clean, Bool.and_eq_true] at h
  simp [AV.ment, iha h.1, ihb h.2]
 | tup l ih => intro i h; exact ih h
 | clo f l ih => intro i h; exact ih h
 | bx l ih => intro i h; exact ih h
 | ptr i p => intro i h; cases h
 | at_ i p => intro i h; cases h
 | sub i p a b => intro i h; cases h
 | _ => intro i h; rfl

theorem place_clean {o : Oper} (hu : uniq s.fr) {p : Prop} {s1 : St} (h : placeR E ops o s = some (p, s1)) {m : Nat} (hm : o.dst ≠ some m) (hc : (s.get m).clean = true) : (s1.get m).clean = true := by
 obtain ⟨v, ids, f, hh, k1, k2, k3, k4, k5⟩ := place_eff hu h
 obtain ⟨s1', e1, _, e3⟩ := k5 s hu ((Eqv.refl s).agreeV _ _) k2
 rw [h] at e1; cases e1
 rw [e3.get k1 hm, k1.fix _ (fun i _ => clean_ment hc)]
 exact hc

end
end Go.Ex

namespace Go.Ex

section
variable {E : Env} {ops : Array Oper} {s t : St}

theorem get_some {m : Nat} {v : AV} (h : look m s.fr = some v) : s.get m = v := by simp [St.get, h]
theorem get_ment {m i : Nat} (h : (s.get m).ment i = true) : ∃ v, look m s.fr = some v ∧ v.ment i = true := by
 simp only [St.get] at h
 cases hl : look m s.fr with
 | none => rw [hl] at h; cases h
 | some v => rw [hl] at h; exact ⟨v, rfl, h⟩

theorem indep_spec {x y : Oper} (h : indep ops x y = true) : (∀ d, x.dst = some d → d ∉ looks ops y) ∧ (∀ d, y.dst = some d → d ∉ looks ops x) ∧ (x.dst.getD 0) % 1000 ≠ (y.dst.getD 0) % 1000 := by
 simp only [indep, Bool.and_eq_true, Bool.not_eq_true', apartB] at h
 obtain ⟨⟨h3, h4⟩, h5⟩ := h
 refine ⟨?_, ?_, fun e => ?_⟩
 ·intro d hd
  rw [hd] at h3
  simp only [Bool.and_eq_true, Bool.not_eq_true'] at h3
  intro hm
  have := h3.1
  simp [hm] at this
 ·intro d hd
  rw [hd] at h4
  simp only [Bool.not_eq_true'] at h4
  intro hm
  simp [hm] at h4
 ·rw [e] at h5
  simp at h5

theorem new_ment {ids : List Nat} (hn : NewIds s ids) {n m : Nat} (h : n ∈ ids) : (s.get m).ment n = false := by
 cases hm : (s.get m).ment n with
 | false => rfl
 | true =>
  obtain ⟨v, hv, hvi⟩ := get_ment hm
  rw [(hn n h).2 m v hv] at hvi; cases hvi

theorem ref_one {u : AV} (hr : u.ref = true) {i j : Nat} (h1 : u.ment i = true) (h2 : u.ment j = true) : i = j := by
 cases u <;> simp only [AV.ref] at hr <;> first | (cases hr; done) | (simp only [AV.ment] at h1 h2; exact (Nat.eq_of_beq_eq_true h1).trans (Nat.eq_of_beq_eq_true h2).symm)

theorem plain_ment {u : AV} (h : u.plain = true) {i : Nat} : u.ment i = false := by
 cases u <;> simp only [AV.plain] at h <;> first | rfl | (cases h; done)

theorem Trim.stay {T : List Nat} {f : AV → AV} (hf : Trim T f) {n : Nat} (hn : n ∉ T) : ∀ u : AV, u.ment n = true → (f u).ment n = true := by
 refine AV.shape _ (fun u hu h => ?_) (fun u hu h => ?_) ?_ ?_ ?_ ?_
 ·rw [plain_ment hu] at h; cases h
 ·rw [hf.keep u hu (fun i hi => ?_)]
  ·exact h
  ·cases hm : u.ment i with
   | false => rfl
   | true => exact absurd (ref_one hu hm h ▸ hi) hn
 ·intro a b ha hb h
  rw [hf.cons]
  simp only [AV.ment, Bool.or_eq_true] at h ⊢
  exact h.imp ha hb
 ·intro l hl h; rw [hf.tup]; exact hl h
 ·intro k l hl h; rw [hf.clo]; exact hl h
 ·intro l hl h; rw [hf.bx]; exact hl h

theorem swap {x y : Oper} (hi : indep ops x y = true) (hu : uniq s.fr) (hx : ∀ d, x.dst = some d → (s.get d).clean = true) {p q : Prop} {s1 s2 : St} (h1 : placeR E ops x s = some (p, s1)) (h2 : placeR E ops y s1 = some (q, s2))
  (hP : PairP ops x s (takes E x s) y (takes E y s1)) :
  ∃ s1' s2', placeR E ops y s = some (q, s1') ∧ placeR E ops x s1' = some (p, s2') ∧ uniq s1'.fr ∧ uniq s2'.fr ∧ Eqv s2' s2 ∧ takes E y s = takes E y s1 ∧ takes E x s1' = takes E x s ∧
   (∀ m ∈ looks ops x, vwB x (s1'.get m) = vwB x (s.get m)) ∧ ∀ (z : Oper) m, ∀ i ∈ takes E x s, (vwB z (s1'.get m)).ment i = true → (vwB z (s.get m)).ment i = true := by
 obtain ⟨ax, ay, hmod⟩ := indep_spec hi
 obtain ⟨P1, P2, P3⟩ := hP
 have hu1 := place_uniq hu h1
 obtain ⟨v, ids, f, g, k1, k2, k3, k4, k5⟩ := place_eff hu h1
 obtain ⟨_, e1, _, hs1⟩ := k5 s hu ((Eqv.refl s).agreeV _ _) k2
 rw [h1] at e1; cases e1
 obtain ⟨v', ids', f', g', m1, m2, m3, m4, m5⟩ := place_eff hu1 h2
 obtain ⟨_, e2, _, hs2⟩ := m5 s1 hu1 ((Eqv.refl s1).agreeV _ _) m2
 rw [h2] at e2; cases e2
 have hdd : ∀ d, x.dst = some d → y.dst = some d → False := fun d e1 e2 => hmod (by rw [e1, e2])
 -- what y looks at has not turned
 have hget : ∀ m ∈ looks ops y, vwB y (s1.get m) = vwB y (s.get m) := by
  intro m hm
  rw [hs1.get k1 (fun e => ax m e hm), vwB_trim k1, k1.fix _ (fun i hi => P1 m hm i hi)]
 have hTy : takes E y s = takes E y s1 := (takes_getV hget).symm
 have hTy2 : ∀ i ∈ takes E y s1, ∃ m ∈ looks ops y, (vwB y (s.get m)).ment i = true := by
  intro i hi
  obtain ⟨m, hm, hmi⟩ := takes_lookV (ops := ops) hi
  exact ⟨m, hm, by rw [← hget m hm]; exact hmi⟩
 have d1 : ∀ i ∈ takes E x s, i ∉ takes E y s1 := by
  intro i hi hj
  obtain ⟨m, hm, hmi⟩ := hTy2 i hj
  rw [P1 m hm i hi] at hmi; cases hmi
 have d2 : ∀ i ∈ ids, i ∉ takes E y s1 := by
  intro i hi hj
  obtain ⟨m, hm, hmi⟩ := hTy2 i hj
  have hmi := vwB_ment hmi
  rw [new_ment k2 hi] at hmi; cases hmi
 have d3 : ∀ i ∈ takes E x s, i ∉ ids' := fun i hi hj => P3 i hi (m3 i hj)
 have d4 : ∀ i ∈ ids, i ∉ ids' := fun i hi hj => hmod ((k3 i hi).symm.trans (m3 i hj))
 have hlook : ∀ i, i ∉ takes E x s → i ∉ ids → look i s1.hp = look i s.hp := fun i h1 h2 => by rw [hs1.hp, if_neg (by rintro (h | h); exact h1 h; exact h2 h)]
 have hag : AgreeV y s1 s (looks ops y) := by
  intro m hm
  refine ⟨(hget m hm).symm, fun i hi => ?_⟩
  rw [hget m hm] at hi
  refine (hlook i (fun h => ?_) (fun h => ?_)).symm
  ·rw [P1 m hm i h] at hi; cases hi
  ·have hi := vwB_ment hi
   rw [new_ment k2 h] at hi; cases hi
 have hfr' : NewIds s ids' := by
  intro n hn
  refine ⟨?_, fun m w hw => ?_⟩
  ·rw [← hlook n (fun h => d3 n h hn) (fun h => d4 n h hn)]; exact (m2 n hn).1
  ·by_cases hd : x.dst = some m
   ·have := hx m hd
    rw [get_some hw] at this
    exact clean_ment this
   ·cases hwn : w.ment n with
    | false => rfl
    | true =>
     have := k1.stay (fun h => d3 n h hn) w hwn
     have h3 := (m2 n hn).2 m (f w) (by rw [hs1.fr, if_neg hd, hw]; rfl)
     rw [this] at h3; cases h3
 obtain ⟨s1', f1, fu, hs1'⟩ := m5 s hu hag hfr'
 have hget2 : ∀ m ∈ looks ops x, vwB x (s1'.get m) = vwB x (s.get m) := by
  intro m hm
  rw [hs1'.get m1 (fun e => ay m e hm), vwB_trim m1, m1.fix _ (fun i hi => P2 m hm i hi)]
 have hag2 : AgreeV x s s1' (looks ops x) := by
  intro m hm
  refine ⟨hget2 m hm, fun i hi => ?_⟩
  show look i s1'.hp = look i s.hp
  rw [hs1'.hp, if_neg]
  rintro (h | h)
  ·rw [P2 m hm i h] at hi; cases hi
  ·have hi := vwB_ment hi
   rw [new_ment hfr' h] at hi; cases hi
 -- what y yields speaks of nothing that x takes or lays
 have hv' : ∀ i, v'.ment i = true → i ∉ takes E x s ∧ i ∉ ids := by
  intro i hi
  rcases m4 i hi with ⟨m, hm, hmi⟩ | hmi
  ·rw [hget m hm] at hmi
   refine ⟨fun h => ?_, fun h => ?_⟩
   ·rw [P1 m hm i h] at hmi; cases hmi
   ·have hmi := vwB_ment hmi
    rw [new_ment k2 h] at hmi; cases hmi
  ·exact ⟨fun h => d3 i h hmi, fun h => d4 i h hmi⟩
 have hv : ∀ i, v.ment i = true → i ∉ takes E y s1 := by
  intro i hi
  rcases k4 i hi with ⟨m, hm, hmi⟩ | hmi
  ·exact fun h => by rw [P2 m hm i h] at hmi; cases hmi
  ·exact d2 i hmi
 have hfr2 : NewIds s1' ids := by
  intro n hn
  refine ⟨?_, fun m w hw => ?_⟩
  ·rw [hs1'.hp, if_neg]
   ·exact (k2 n hn).1
   ·rintro (h | h)
    ·exact d2 n hn h
    ·exact d4 n hn h
  ·rw [hs1'.fr] at hw
   split at hw
   ·cases hw
    cases hm : v'.ment n with
    | false => rfl
    | true => exact absurd hn (hv' n hm).2
   ·cases hl : look m s.fr with
    | none => rw [hl] at hw; cases hw
    | some u =>
     rw [hl] at hw
     cases hw
     cases hm : (f' u).ment n with
     | false => rfl
     | true => have := m1.ment u hm; rw [(k2 n hn).2 m u hl] at this; cases this
 obtain ⟨s2', g1, gu, hs2'⟩ := k5 s1' fu hag2 hfr2
 refine ⟨s1', s2', f1, g1, fu, gu, ⟨fun n => ?_, fun i => ?_⟩, hTy, takes_getV hget2, hget2, ?_⟩
 ·rw [hs2'.fr, hs2.fr, hs1'.fr, hs1.fr]
  by_cases a : x.dst = some n
  ·rw [if_pos a, if_neg (fun b => hdd n a b), if_pos a, Option.map_some, m1.fix v]
   intro i hi
   cases hm : v.ment i with
   | false => rfl
   | true => exact absurd hi (hv i hm)
  ·rw [if_neg a, if_neg a]
   by_cases b : y.dst = some n
   ·rw [if_pos b, if_pos b, Option.map_some, k1.fix v']
    intro i hi
    cases hm : v'.ment i with
    | false => rfl
    | true => exact absurd hi (hv' i hm).1
   ·rw [if_neg b, if_neg b, Option.map_map, Option.map_map]
    congr 1
    funext u
    exact k1.comm m1 u
 ·rw [hs2'.hp, hs2.hp, hs1'.hp, hs1.hp]
  by_cases a : i ∈ takes E x s ∨ i ∈ ids
  ·rw [if_pos a, if_neg, if_pos a]
   rintro (b | b)
   ·rcases a with a | a
    ·exact d1 i a b
    ·exact d2 i a b
   ·rcases a with a | a
    ·exact d3 i a b
    ·exact d4 i a b
  ·rw [if_neg a, if_neg a]
 ·intro z m i hi hm
  by_cases b : y.dst = some m
  ·have : s1'.get m = v' := get_some (by rw [hs1'.fr, if_pos b])
   rw [this] at hm
   exact absurd hi (hv' i (vwB_ment hm)).1
  ·rw [hs1'.get m1 b, vwB_trim m1] at hm
   exact m1.ment _ hm

end
end Go.Ex

namespace Go.Ex

section
variable {E : Env} {ops : Array Oper} {M : Nat → Nat} {s t : St}

def rem (ops : Array Oper) (l : List Nat) : List Oper := l.filterMap fun i => ops[i]?

theorem rem_cons {i : Nat} {o : Oper} {l : List Nat} (h : ops[i]? = some o) : rem ops (i :: l) = o :: rem ops l := by simp [rem, h]
theorem rem_app {l m : List Nat} : rem ops (l ++ m) = rem ops l ++ rem ops m := by simp [rem, List.filterMap_append]

def CleanFor (s : St) (l : List Oper) : Prop := ∀ o ∈ l, ∀ d, o.dst = some d → (s.get d).clean = true

def Apart : List Oper → Prop
 | [] => True
 | o :: l => (∀ d, o.dst = some d → ∀ x ∈ l, x.dst ≠ some d) ∧ Apart l

theorem CleanFor.sub {l l' : List Oper} (h : CleanFor s l) (hs : ∀ o ∈ l', o ∈ l) : CleanFor s l' := fun o ho => h o (hs o ho)

def nl (ops : Array Oper) (l : List Nat) : List Nat := l.filter (fun j => decide (j + 1 < ops.size))
theorem nl_app {l m : List Nat} : nl ops (l ++ m) = nl ops l ++ nl ops m := by simp [nl]
theorem nl_pre {l : List Nat} {i : Nat} (hi : i < ops.size) (h : ∀ j ∈ l, j < i) : nl ops l = l :=
 List.filter_eq_self.2 (fun j hj => by have := h j hj; simp; omega)
theorem nl_sub {l : List Nat} : ∀ o ∈ rem ops (nl ops l), o ∈ rem ops l := fun o ho => by
 obtain ⟨j, h1, h2⟩ := List.mem_filterMap.1 ho
 exact List.mem_filterMap.2 ⟨j, (List.mem_filter.1 h1).1, h2⟩

theorem CleanFor.step {o : Oper} {l : List Oper} (hu : uniq s.fr) (hc : CleanFor s l) (hd : ∀ x ∈ l, ∀ d, x.dst = some d → o.dst ≠ some d) {p : Prop} {s1 : St} (h : placeR E ops o s = some (p, s1)) : CleanFor s1 l :=
 fun x hx d hxd => place_clean hu h (hd x hx d hxd) (hc x hx d hxd)

def AsGood (E : Env) (ops : Array Oper) (acc acc' : List (Nat × St)) : Prop :=
 ∀ e' ∈ acc', ∃ e ∈ acc, e.1 = e'.1 ∧ ∀ x, ops[e.1]? = some x → (∀ m ∈ looks ops x, vwB x (e'.2.get m) = vwB x (e.2.get m)) ∧ takes E x e'.2 = takes E x e.2 ∧ ∀ (z : Oper) m, ∀ k ∈ takes E x e.2, (vwB z (e'.2.get m)).ment k = true → (vwB z (e.2.get m)).ment k = true

theorem PairP.good {x : Oper} {sx sx' : St} {y : Oper} {Ty Ty' : List Nat} (h : PairP ops x sx (takes E x sx) y Ty) (h1 : ∀ m ∈ looks ops x, vwB x (sx'.get m) = vwB x (sx.get m)) (h2 : takes E x sx' = takes E x sx) (h3 : ∀ (z : Oper) m, ∀ k ∈ takes E x sx, (vwB z (sx'.get m)).ment k = true → (vwB z (sx.get m)).ment k = true) (hT : Ty' = Ty) :
  PairP ops x sx' (takes E x sx') y Ty' := by
 subst hT
 obtain ⟨P1, P2, P3⟩ := h
 rw [h2]
 refine ⟨fun m hm i hi => ?_, fun m hm i hi => by rw [h1 m hm]; exact P2 m hm i hi, P3⟩
 cases hh : (vwB y (sx'.get m)).ment i with
 | false => rfl
 | true => have := h3 y m i hi hh; rw [P1 m hm i hi] at this; cases this

theorem takes_eqv {o : Oper} (h : Eqv s t) : takes E o t = takes E o s := takes_st (fun x _ => (h.ev x).symm)

theorem runsA_mono : ∀ {l : List Nat} {acc acc' : List (Nat × St)} {s t s' : St}, AsGood E ops acc acc' → uniq s.fr → Eqv s t → uniq t.fr → RunsA E ops M acc l s s' → ∃ t', RunsA E ops M acc' l t t' ∧ Eqv s' t'
 | [], acc, acc', s, t, s', _, _, he, _, h => ⟨t, rfl, by rw [← show s = s' from h]; exact he⟩
 | i :: l, acc, acc', s, t, s', hg, hu, he, ht, ⟨o, ho, hc, p, s1, h1, h2, h3⟩ => by
  obtain ⟨t1, k1, k2, k3⟩ := place_eqv hu he ht h1
  obtain ⟨t', m1, m2⟩ := runsA_mono (acc := (i, s) :: acc) (acc' := (i, t) :: acc') (fun e' he' => by
   rcases List.mem_cons.1 he' with rfl | he'
   ·exact ⟨(i, s), by simp, rfl, fun x _ => ⟨fun m _ => by show vwB x (t.get m) = vwB x (s.get m); rw [he.get m], takes_eqv he, fun z m k _ hm => by have hm : (vwB z (t.get m)).ment k = true := hm; rw [← he.get m] at hm; exact hm⟩⟩
   ·obtain ⟨e, h4, h5, h6⟩ := hg e' he'; exact ⟨e, by simp [h4], h5, h6⟩) (place_uniq hu h1) k3 k2 h3
  refine ⟨t', ⟨o, ho, fun e' he' => ?_, p, t1, k1, h2, m1⟩, m2⟩
  obtain ⟨e, h4, h5, h6⟩ := hg e' he'
  rw [← h5]
  rcases hc e h4 with h | ⟨x, hx, hP⟩
  ·exact .inl h
  ·obtain ⟨g1, g2, g3⟩ := h6 x hx
   exact .inr ⟨x, hx, hP.good g1 g2 g3 (takes_eqv he)⟩

theorem bubble {i : Nat} {o : Oper} (ho : ops[i]? = some o) {post : List Nat} : ∀ {pre : List Nat} {acc : List (Nat × St)} {s s' : St}, Apart (rem ops (pre ++ i :: post)) → (∀ j ∈ pre, (M i).testBit j = false ∧ ∀ x, ops[j]? = some x → indep ops x o = true) → uniq s.fr → CleanFor s (rem ops pre) →
  RunsA E ops M acc (pre ++ i :: post) s s' →
  ∃ p s1 s2, placeR E ops o s = some (p, s1) ∧ p ∧ RunsA E ops M acc (pre ++ post) s1 s2 ∧ Eqv s2 s' ∧ ∀ e ∈ acc, (M i).testBit e.1 = true ∨ ∃ x, ops[e.1]? = some x ∧ PairP ops x e.2 (takes E x e.2) o (takes E o s)
 | [], acc, s, s', _, _, hu, _, ⟨o', ho', hc, p, s1, h1, h2, h3⟩ => by
  rw [ho] at ho'; cases ho'
  obtain ⟨t', m1, m2⟩ := runsA_mono (acc := (i, s) :: acc) (acc' := acc) (fun e he => ⟨e, by simp [he], rfl, fun x _ => ⟨fun _ _ => rfl, rfl, fun _ _ _ _ h => h⟩⟩) (place_uniq hu h1) (Eqv.refl s1) (place_uniq hu h1) h3
  exact ⟨p, s1, t', h1, h2, m1, m2.symm, hc⟩
 | j :: pre, acc, s, s', hap, hin, hu, hcl, ⟨x, hx, hc, p, s1, h1, h2, h3⟩ => by
  have hu1 := place_uniq hu h1
  have er : rem ops (j :: pre ++ i :: post) = x :: rem ops (pre ++ i :: post) := rem_cons hx
  rw [er] at hap
  rw [rem_cons hx] at hcl
  have hdj : ∀ y ∈ rem ops pre, ∀ d, y.dst = some d → x.dst ≠ some d := fun y hy d hyd hxd => hap.1 d hxd y (by rw [rem_app]; exact List.mem_append_left _ hy) hyd
  have hcl1 : CleanFor s1 (rem ops pre) := CleanFor.step hu (fun y hy => hcl y (by simp [hy])) hdj h1
  obtain ⟨q, sa, sb, k1, k2, k3, k4, k5⟩ := bubble ho (pre := pre) (acc := (j, s) :: acc) hap.2 (fun y hy => hin y (by simp [hy])) hu1 hcl1 h3
  obtain ⟨hnb, hind⟩ := hin j (by simp)
  have hP : PairP ops x s (takes E x s) o (takes E o s1) := by
   rcases k5 (j, s) (by simp) with h | ⟨x', hx', hP⟩
   ·rw [hnb] at h; cases h
   ·have hx' : ops[j]? = some x' := hx'
    rw [hx] at hx'; cases hx'; exact hP
  obtain ⟨s1', s2', m1, m2, m3, m4, m5, m6, m7, m8, m9⟩ := swap (hind x hx) hu (fun d hd => hcl x (by simp) d hd) h1 k1 hP
  obtain ⟨t', n1, n2⟩ := runsA_mono (acc := (j, s) :: acc) (acc' := (j, s1') :: acc) (fun e' he' => by
   rcases List.mem_cons.1 he' with rfl | he'
   ·refine ⟨(j, s), by simp, rfl, fun y hy => ?_⟩
    have hy : ops[j]? = some y := hy
    rw [hx] at hy; cases hy
    exact ⟨m8, m7, m9⟩
   ·exact ⟨e', by simp [he'], rfl, fun y _ => ⟨fun _ _ => rfl, rfl, fun _ _ _ _ h => h⟩⟩) (place_uniq hu1 k1) m5.symm m4 k3
  refine ⟨q, s1', t', m1, k2, ⟨x, hx, fun e he => ?_, p, s2', m2, h2, n1⟩, n2.symm.trans k4, fun e he => ?_⟩
  ·rcases hc e he with h | ⟨y, hy, hP⟩
   ·exact .inl h
   ·exact .inr ⟨y, hy, by rw [m7]; exact hP⟩
  ·rcases k5 e (by simp [he]) with h | ⟨y, hy, hP⟩
   ·exact .inl h
   ·exact .inr ⟨y, hy, by rw [m6]; exact hP⟩

end
end Go.Ex

namespace Go.Ex

section
variable {E : Env} {ops : Array Oper} {B : Base} {S : Nat → Prop} {ι : Ix} {s : St} {a : Act} {w : World}

def idxs (n : Nat) (listed : Array Bool) : List Nat := (List.range n).filter fun i => !listed.getD i true

theorem mem_idxs {n i : Nat} {listed : Array Bool} : i ∈ idxs n listed ↔ i < n ∧ listed.getD i true = false := by
 simp [idxs]

theorem idxs_sorted (n : Nat) (listed : Array Bool) : (idxs n listed).Pairwise (· < ·) := List.Pairwise.filter _ List.pairwise_lt_range

theorem idxs_set {n i : Nat} {listed : Array Bool} (hs : listed.size = n) (hi : i < n) : idxs n (listed.setIfInBounds i true) = (idxs n listed).filter (fun k => !(k == i)) := by
 unfold idxs
 rw [List.filter_filter]
 refine List.filter_congr (fun k hk => ?_)
 by_cases e : k = i
 ·subst e
  have : k < listed.size := by omega
  simp [this]
 ·have : (listed.setIfInBounds i true).getD k true = listed.getD k true := getD_set_ne true (Ne.symm e)
  rw [this]
  simp [e]

theorem idxs_split {n i : Nat} {listed : Array Bool} (hi : i ∈ idxs n listed) : ∃ pre post, idxs n listed = pre ++ i :: post ∧ (∀ j ∈ pre, j < i) ∧ (idxs n listed).filter (fun k => !(k == i)) = pre ++ post := by
 obtain ⟨pre, post, e⟩ := List.append_of_mem hi
 have hp := idxs_sorted n listed
 rw [e, List.pairwise_append] at hp
 obtain ⟨h1, h2, h3⟩ := hp
 have hlt : ∀ j ∈ pre, j < i := fun j hj => h3 j hj i (by simp)
 have hgt : ∀ j ∈ post, i < j := fun j hj => (List.pairwise_cons.1 h2).1 j hj
 refine ⟨pre, post, e, hlt, ?_⟩
 rw [e, List.filter_append, List.filter_cons]
 simp only [beq_self_eq_true, Bool.not_true, Bool.false_eq_true, if_false]
 rw [List.filter_eq_self.2 (fun j hj => by have := hlt j hj; simp; omega), List.filter_eq_self.2 (fun j hj => by have := hgt j hj; simp; omega)]

theorem draw_spec (h : drawOk ops = true) : ∀ i o, ops[i]? = some o → (∀ e ∈ o.after, Region.binds .any e = true → e.on < i) ∧
  (∀ j, j < ops.size → ((masksGo ops.toList []).getD i 0).testBit j = true → ∃ e ∈ o.after, Region.binds .any e = true ∧ (e.on = j ∨ ((masksGo ops.toList []).getD e.on 0).testBit j = true)) ∧
  (∀ j x, j < i → ops[j]? = some x → ((masksGo ops.toList []).getD i 0).testBit j = true ∨ indep ops x o = true) := by
 intro i o ho
 have hi : i < ops.toList.length := by
  have := (Array.getElem?_eq_some_iff.1 ho).1
  simpa using this
 simp only [drawOk, List.all_eq_true, List.mem_range] at h
 have h1 := h i hi
 have hl : ops.toList[i]? = some o := by simpa using ho
 rw [hl] at h1
 simp only [Bool.and_eq_true, List.all_eq_true, List.mem_range] at h1
 obtain ⟨⟨k1, k2⟩, k3⟩ := h1
 refine ⟨?_, ?_, ?_⟩
 ·intro e he hb
  simp only [depOk, List.all_eq_true] at k1
  have := k1 e (by simpa using he)
  rw [hb] at this
  simpa [Nat.blt_eq] using this
 ·intro j hj hm
  simp only [maskOk, List.all_eq_true, List.mem_range] at k2
  have := k2 j (by simpa using hj)
  rw [hm] at this
  simp only [Bool.not_true, Bool.false_or, List.any_eq_true, Bool.and_eq_true, Bool.or_eq_true] at this
  obtain ⟨e, he, hb, h3⟩ := this
  exact ⟨e, by simpa using he, hb, h3.imp Nat.eq_of_beq_eq_true id⟩
 ·intro j x hj hx
  have := k3 j hj
  have hx' : ops.toList[j]? = some x := by simpa using hx
  rw [hx'] at this
  simpa using this

def ClosedL (ops : Array Oper) (listed : Array Bool) : Prop := ∀ k o, ops[k]? = some o → listed.getD k true = true → ∀ e ∈ o.after, Region.binds .any e = true → listed.getD e.on false = true

theorem getD_flip {listed : Array Bool} {k : Nat} (h : listed.getD k false = true) : listed.getD k true = true := by
 rcases Nat.lt_or_ge k listed.size with h' | h'
 ·simp [h'] at h ⊢; exact h
 ·simp [Array.getElem?_eq_none h'] at h

theorem anc_listed {M : Nat → Nat} (hM : ∀ i o, ops[i]? = some o → (∀ e ∈ o.after, Region.binds .any e = true → e.on < i) ∧ (∀ j, j < ops.size → (M i).testBit j = true → ∃ e ∈ o.after, Region.binds .any e = true ∧ (e.on = j ∨ (M e.on).testBit j = true)))
  {listed : Array Bool} (hc : ClosedL ops listed) : ∀ (i : Nat) (o : Oper), ops[i]? = some o → (∀ e ∈ o.after, Region.binds .any e = true → listed.getD e.on false = true) → ∀ j, j < ops.size → (M i).testBit j = true → listed.getD j false = true := by
 intro i
 induction i using Nat.strongRecOn with
 | _ i ih =>
  intro o ho hp j hj hm
  obtain ⟨e, he, hb, h3⟩ := (hM i o ho).2 j hj hm
  have hlt := (hM i o ho).1 e he hb
  rcases h3 with rfl | h3
  ·exact hp e he hb
  ·have hi : i < ops.size := (Array.getElem?_eq_some_iff.1 ho).1
   have hel : ops[e.on]? = some (ops[e.on]'(by omega)) := Array.getElem?_eq_getElem (by omega)
   exact ih e.on hlt _ hel (hc e.on _ hel (getD_flip (hp e he hb))) j hj h3

theorem drawn_sound (hE : EnvOk E) (hn : B.n = E.nt) (hd : drawOk ops = true) {Q : Exit → Act → World → Prop} {s0 : St} (hQ : ∀ S ι a w, RS B S ι s0 a w → Q .normal a w) :
  ∀ (fuel : Nat) (listed : Array Bool) (S : Nat → Prop) (ι : Ix) (s s' : St) (a : Act) (w : World), listed.size = ops.size → (idxs ops.size listed).length = fuel → ClosedL ops listed → Apart (rem ops (idxs ops.size listed)) → uniq s.fr → CleanFor s (rem ops (nl ops (idxs ops.size listed))) →
   RunsA E ops (fun i => (masksGo ops.toList []).getD i 0) [] (idxs ops.size listed) s s' → Eqv s' s0 → RS B S ι s a w → wpAny E.P .any ops Q fuel listed a w := by
 have hM := draw_spec hd
 have rs_eqv : ∀ {S : Nat → Prop} {ι : Ix} {s t : St} {a : Act} {w : World}, Eqv s t → RS B S ι s a w → RS B S ι t a w := by
  intro S ι s t a w he h
  have hvx : ∀ {v : AV} {vs : List Value}, VX w.heap S ι s.hp v vs → VX w.heap S ι t.hp v vs := by
   intro v vs hv
   exact VX.other (fun i _ => (he.2 i).symm) (fun i _ => SameAt.refl ι i) hv
  exact ⟨⟨h.hs.os, h.hs.tape, h.hs.out, h.hs.size, h.hs.frame, h.hs.slt, h.hs.s0, h.hs.s1, fun i e hi => h.hs.ob i e ((he.2 i).trans hi), fun i e hi => h.hs.bl i e ((he.2 i).trans hi), fun i j ei ej hi hj => h.hs.dj i j ei ej ((he.2 i).trans hi) ((he.2 j).trans hj), fun q hq => by obtain ⟨r1, ⟨e, r2⟩, r3⟩ := h.hs.pin q hq; exact ⟨r1, ⟨e, (he.2 q.1).symm.trans r2⟩, r3⟩⟩, h.dfr, h.sz,
   fun m v hv => hvx (h.fr m v ((he.1 m).trans hv))⟩
 intro fuel
 induction fuel with
 | zero =>
  intro listed S ι s s' a w hsz hlen hcl hap hu hcf hrun he hrs
  have hnil : idxs ops.size listed = [] := List.length_eq_zero_iff.1 hlen
  rw [hnil] at hrun
  have hss : s = s' := hrun
  subst hss
  refine ⟨?_, hQ S ι a w (rs_eqv he hrs)⟩
  rw [List.eq_nil_iff_forall_not_mem]
  intro i hi
  obtain ⟨h1, o, h2, _⟩ := mem_ready.1 hi
  have : i ∈ idxs ops.size listed := mem_idxs.2 ⟨(Array.getElem?_eq_some_iff.1 h2).1, h1⟩
  rw [hnil] at this
  cases this
 | succ fuel ih =>
  intro listed S ι s s' a w hsz hlen hcl hap hu hcf hrun he hrs
  refine ⟨fun hr => ?_, fun i hi => ?_⟩
  ·exfalso
   cases hix : idxs ops.size listed with
   | nil => rw [hix] at hlen; cases hlen
   | cons i l =>
    have hmem : i ∈ idxs ops.size listed := by rw [hix]; simp
    obtain ⟨h1, h2⟩ := mem_idxs.1 hmem
    have ho : ops[i]? = some ops[i] := Array.getElem?_eq_getElem h1
    have : i ∈ Region.ready .any ops listed := by
     refine mem_ready.2 ⟨h2, ops[i], ho, fun e he hb => ?_⟩
     have hlt := (hM i _ ho).1 e he hb
     cases hle : listed.getD e.on true with
     | true =>
      have : e.on < listed.size := by omega
      simp [this] at hle ⊢; exact hle
     | false =>
      exfalso
      have hm2 : e.on ∈ idxs ops.size listed := mem_idxs.2 ⟨by omega, hle⟩
      have hs := idxs_sorted ops.size listed
      rw [hix] at hs hm2
      rcases List.mem_cons.1 hm2 with e1 | e1
      ·omega
      ·have := (List.pairwise_cons.1 hs).1 _ e1; omega
    rw [hr] at this
    cases this
  ·obtain ⟨h1, o, ho, hpre⟩ := mem_ready.1 hi
   have hin : i < ops.size := (Array.getElem?_eq_some_iff.1 ho).1
   have hmem : i ∈ idxs ops.size listed := mem_idxs.2 ⟨hin, h1⟩
   obtain ⟨pre, post, e1, hlt, e2⟩ := idxs_split hmem
   have er : rem ops (pre ++ i :: post) = rem ops pre ++ o :: rem ops post := by simp [rem, List.filterMap_append, ho]
   have er2 : rem ops (pre ++ post) = rem ops pre ++ rem ops post := by simp [rem, List.filterMap_append]
   rw [e1] at hap hcf hrun
   have hind : ∀ j ∈ pre, ((masksGo ops.toList []).getD i 0).testBit j = false ∧ ∀ x, ops[j]? = some x → indep ops x o = true := by
    intro j hj
    have hnm : ((masksGo ops.toList []).getD i 0).testBit j = false := by
     cases hm : ((masksGo ops.toList []).getD i 0).testBit j with
     | false => rfl
     | true =>
      exfalso
      have hjl := anc_listed (M := fun i => (masksGo ops.toList []).getD i 0) (fun i o ho => ⟨(hM i o ho).1, (hM i o ho).2.1⟩) hcl i o ho hpre j (by have := hlt j hj; omega) hm
      have : j ∈ idxs ops.size listed := by rw [e1]; simp [hj]
      have := (mem_idxs.1 this).2
      rw [getD_flip hjl] at this
      cases this
    refine ⟨hnm, fun x hx => ?_⟩
    rcases (hM i o ho).2.2 j x (hlt j hj) hx with hm | hm
    ·rw [hnm] at hm; cases hm
    ·exact hm
   have hcl0 : CleanFor s (rem ops (nl ops (pre ++ post))) := hcf.sub (fun y hy => by
    rw [nl_app, rem_app] at hy ⊢
    rcases List.mem_append.1 hy with hy | hy
    ·exact List.mem_append_left _ hy
    ·refine List.mem_append_right _ ?_
     obtain ⟨j, j1, j2⟩ := List.mem_filterMap.1 hy
     obtain ⟨j3, j4⟩ := List.mem_filter.1 j1
     exact List.mem_filterMap.2 ⟨j, List.mem_filter.2 ⟨List.mem_cons_of_mem _ j3, j4⟩, j2⟩)
   obtain ⟨p, s1, s2, k1, k2, k3, k4, _⟩ := bubble ho hap hind hu (hcf.sub (fun y hy => by
    rw [nl_app, rem_app, nl_pre hin hlt]; exact List.mem_append_left _ hy)) hrun
   rw [er] at hap
   have hset := (idxs_set hsz hin).trans e2
   have hap2 : Apart (rem ops pre ++ rem ops post) ∧ ∀ x ∈ rem ops pre ++ rem ops post, ∀ d, x.dst = some d → o.dst ≠ some d := by
    have : ∀ {A C : List Oper}, Apart (A ++ o :: C) → Apart (A ++ C) ∧ ∀ x ∈ A ++ C, ∀ d, x.dst = some d → o.dst ≠ some d := by
     intro A
     induction A with
     | nil => intro C h; exact ⟨h.2, fun x hx d hxd hod => h.1 d hod x hx hxd⟩
     | cons y A ih =>
      intro C h
      obtain ⟨m1, m2⟩ := ih h.2
      refine ⟨⟨fun d hd x hx => h.1 d hd x (by simp at hx ⊢; rcases hx with hx | hx <;> simp [hx]), m1⟩, fun x hx d hxd hod => ?_⟩
      rcases List.mem_cons.1 hx with rfl | hx
      ·exact h.1 d hxd o (by simp) hod
      ·exact m2 x hx d hxd hod
    exact this hap
   have hps := place_sound hE hn hrs (ops := ops) o (k := fun x => Tree.cut .skip [] x) (L := fun _ _ x => x = s1) (Rt := fun _ => True) (pl_place.2 ⟨p, s1, k1, k2, rfl⟩)
    (next := wpAny E.P .any ops Q fuel (listed.setIfInBounds i true)) (Q := Q) (fun S' ι' x a' w' hx hxe => by
     have hxe : x = s1 := hxe
     subst hxe
     refine ih (listed.setIfInBounds i true) S' ι' x s2 a' w' (by simp [hsz]) ?_ ?_ ?_ (place_uniq hu k1) ?_ ?_ (k4.trans he) hx
     ·rw [hset]; rw [e1] at hlen; simp at hlen ⊢; omega
     ·intro k y hy hk e' he' hb'
      by_cases hki : k = i
      ·subst hki
       rw [ho] at hy; cases hy
       exact getD_set_true (hpre e' he' hb')
      ·rw [getD_set_ne true (Ne.symm hki)] at hk
       exact getD_set_true (hcl k y hy hk e' he' hb')
     ·rw [hset, er2]; exact hap2.1
     ·rw [hset]
      exact CleanFor.step hu hcl0 (fun y hy => hap2.2 y (by rw [← er2]; exact nl_sub y hy)) k1
     ·rw [hset]; exact k3)
   unfold wpOp
   rw [ho]
   simp only
   split
   ·rename_i hw; rw [if_pos hw] at hps; exact .inl hps
   ·rename_i hw; rw [if_neg hw] at hps; exact hps

theorem filterMap_some {α β : Type _} {f : α → Option β} {g : α → β} : ∀ {l : List α}, (∀ i ∈ l, f i = some (g i)) → l.filterMap f = l.map g
 | [], _ => rfl
 | x :: l, h => by rw [List.filterMap_cons, h x (by simp)]; simp [filterMap_some (l := l) (fun i hi => h i (by simp [hi]))]

theorem rem_all : rem ops (idxs ops.size (Array.replicate ops.size false)) = ops.toList := by
 have : idxs ops.size (Array.replicate ops.size false) = List.range ops.size := by
  unfold idxs
  refine List.filter_eq_self.2 (fun i hi => ?_)
  have : i < ops.size := List.mem_range.1 hi
  simp [this]
 rw [this]
 unfold rem
 apply List.ext_getElem?
 intro i
 have e : (List.range ops.size).filterMap (fun i => ops[i]?) = (List.range ops.size).map (fun i => ops.getD i default) := filterMap_some (fun i hi => by
  have : i < ops.size := List.mem_range.1 hi
  simp [this])
 rw [e]
 by_cases hi : i < ops.size
 ·simp [hi]
 ·simp [hi]

theorem apart_of : ∀ {l : List Oper}, distinctB (dsts l) = true → Apart l
 | [], _ => trivial
 | o :: l, h => by
  cases hd : o.dst with
  | none =>
   have : dsts (o :: l) = dsts l := by simp [dsts, hd]
   rw [this] at h
   exact ⟨fun d hd' => (by rw [hd] at hd'; cases hd'), apart_of h⟩
  | some d =>
   have : dsts (o :: l) = d :: dsts l := by simp [dsts, hd]
   rw [this] at h
   simp only [distinctB, Bool.and_eq_true, Bool.not_eq_true'] at h
   refine ⟨fun d' hd' x hx hxd => ?_, apart_of h.2⟩
   rw [hd] at hd'
   cases hd'
   have : d ∈ dsts l := List.mem_filterMap.2 ⟨x, hx, hxd⟩
   have h1 := h.1
   simp [this] at h1

theorem idxs_all : idxs ops.size (Array.replicate ops.size false) = List.range ops.size := by
 unfold idxs
 refine List.filter_eq_self.2 (fun i hi => ?_)
 have : i < ops.size := List.mem_range.1 hi
 simp [this]

theorem dsts_last {o : Oper} {l : List Nat} (ho : o ∈ rem ops (nl ops l)) {d : Nat} (hd : o.dst = some d) : d ∈ dsts ops.toList.dropLast := by
 obtain ⟨j, j1, j2⟩ := List.mem_filterMap.1 ho
 have j4 : j + 1 < ops.size := of_decide_eq_true (List.mem_filter.1 j1).2
 refine List.mem_filterMap.2 ⟨o, List.mem_of_getElem? (i := j) ?_, hd⟩
 rw [List.getElem?_dropLast, if_pos (by simp; omega)]
 simpa using j2

theorem drawn_region (hE : EnvOk E) (hn : B.n = E.nt) {id : Nat} (hd : (drawOk ops && entryOk ops s && E.P.follows .mixedOrders) = true) {Q : Exit → Act → World → Prop} {s' : St} (hr : RunsA E ops (fun i => (masksGo ops.toList []).getD i 0) [] (List.range' 0 ops.toList.length) s s')
  (hQ : ∀ S ι a w, RS B S ι s' a w → Q .normal a w) (h : RS B S ι s a w) : (Code.region id ops true).wp E.P Q a w := by
 simp only [Bool.and_eq_true, entryOk, List.all_eq_true] at hd
 obtain ⟨⟨h1, ⟨h2, h3⟩, h4⟩, h5⟩ := hd
 refine wp_region_any h5 ?_
 have hlen : (idxs ops.size (Array.replicate ops.size false)).length = ops.size := by
  rw [idxs_all]; simp
 refine drawn_sound hE hn h1 hQ ops.size _ S ι s s' a w.drew (by simp) hlen ?_ ?_ (uniq_of h2) ?_ ?_ (Eqv.refl _) (h.turn Flt.nil Past.drew)
 ·intro k o hk hl
  have : k < ops.size := (Array.getElem?_eq_some_iff.1 hk).1
  simp [this] at hl
 ·rw [rem_all]; exact apart_of h3
 ·intro o ho d hd
  exact h4 d (dsts_last ho hd)
 ·rw [idxs_all, List.range_eq_range']
  simpa using hr

end
end Go.Ex

namespace Go.Ex

section
variable {E : Env} {ops : Array Oper} {B : Base} {S : Nat → Prop} {ι : Ix} {s : St} {a : Act} {w : World}

theorem rs_eqv {s t : St} (he : Eqv s t) (h : RS B S ι s a w) : RS B S ι t a w := by
 have hvx : ∀ {v : AV} {vs : List Value}, VX w.heap S ι s.hp v vs → VX w.heap S ι t.hp v vs := by
  intro v vs hv
  exact VX.other (fun i _ => (he.2 i).symm) (fun i _ => SameAt.refl ι i) hv
 exact ⟨⟨h.hs.os, h.hs.tape, h.hs.out, h.hs.size, h.hs.frame, h.hs.slt, h.hs.s0, h.hs.s1, fun i e hi => h.hs.ob i e ((he.2 i).trans hi), fun i e hi => h.hs.bl i e ((he.2 i).trans hi), fun i j ei ej hi hj => h.hs.dj i j ei ej ((he.2 i).trans hi) ((he.2 j).trans hj), fun q hq => by obtain ⟨r1, ⟨e, r2⟩, r3⟩ := h.hs.pin q hq; exact ⟨r1, ⟨e, (he.2 q.1).symm.trans r2⟩, r3⟩⟩, h.dfr, h.sz,
  fun m v hv => hvx (h.fr m v ((he.1 m).trans hv))⟩

theorem RS.forget (h : RS B S ι s a w) (d : Nat) : RS B S ι { s with fr := Ex.put d .any s.fr } a w := by
 refine ⟨h.hs, h.dfr, h.sz, fun t v hv => ?_⟩
 rw [look_put] at hv
 split at hv
 ·cases hv; exact ⟨_, rfl⟩
 ·exact h.fr t v hv

theorem RS.forgetA : ∀ {l : List Oper} {s : St}, RS B S ι s a w → RS B S ι (Ex.forgetA l s) a w
 | [], s, h => h
 | o :: l, s, h => by
  unfold Ex.forgetA
  split
  ·split
   ·exact RS.forgetA (h.forget _)
   ·exact RS.forgetA h
  ·exact RS.forgetA h

theorem look_forgetA {m : Nat} : ∀ {l : List Oper} {s : St}, look m (Ex.forgetA l s).fr = look m s.fr ∨ look m (Ex.forgetA l s).fr = some .any
 | [], s => .inl rfl
 | o :: l, s => by
  unfold Ex.forgetA
  split
  ·split
   ·rename_i d _ _
    rcases look_forgetA (m := m) (l := l) (s := { s with fr := Ex.put d .any s.fr }) with h | h
    ·rw [look_put] at h
     split at h
     ·exact .inr h
     ·exact .inl h
    ·exact .inr h
   ·exact look_forgetA
  ·exact look_forgetA

theorem forgetA_any {o : Oper} {c : Call} {d : Nat} (hop : o.op = .call c) (hc : c.callee = .builtin .append) (hd : o.dst = some d) : ∀ {l : List Oper} {s : St}, o ∈ l → look d (Ex.forgetA l s).fr = some .any
 | [], _, h => by cases h
 | x :: l, s, h => by
  unfold Ex.forgetA
  rcases List.mem_cons.1 h with rfl | h
  ·rw [hop]
   simp only [hc, hd]
   rcases look_forgetA (m := d) (l := l) (s := { s with fr := Ex.put d .any s.fr }) with h | h
   ·rw [h, look_put, if_pos rfl]
   ·exact h
  ·split
   ·split
    ·exact forgetA_any hop hc hd h
    ·exact forgetA_any hop hc hd h
   ·exact forgetA_any hop hc hd h

/-! ### what is quiet -/
theorem load_pure (hE : EnvOk E) (h : RS B S ι s a w) {o : Oper} {T : TypeId} {x : Operand} (ho : o.op = .load T x) {v : AV} {s' : St} (hl : loadA E T (s.ev x) s = .ok v s') :
  s' = s ∧ ∃ val, (execOp a.eval o).run E.P w = .ok (.value val) w ∧ VX w.heap S ι s.hp v [val] := by
 have he : execOp a.eval o = (do pure (.value (← Instr.loadAt T (a.eval x)))) := by simp [execOp, ho]
 have hv := h.ev x
 unfold loadA at hl
 split at hl
 ·rename_i t y hx
  rw [hx] at hv
  obtain ⟨b, off, e, hb, hr, hR⟩ := hv
  split at hl
  ·rename_i hc
   cases hl
   have e : a.eval x = .pointer (some ⟨b, off, none⟩) := by simpa using e
   refine ⟨rfl, toV t (cellsAt w.heap b off t.size), exec_value he (w' := w) ?_, _, rfl, hR⟩
   rw [e]
   simp [Instr.loadAt, Instr.sureAddr, run_loadVar (chk_ok hE hc) hR]
  ·cases hl
 ·rename_i l hx
  rw [hx] at hv
  split at hl
  ·rename_i o t n ht
   cases hl
   obtain ⟨val, k1, k2⟩ := load_bx (hE := hE) ht hv
   exact ⟨rfl, val, exec_value he k1, k2⟩
  ·cases hl
 ·rename_i i p hx
  rw [hx] at hv
  obtain ⟨e, b, off, h1, h2, h3, h4⟩ := hv
  have h4 : a.eval x = .pointer (some ⟨b, off, none⟩) := by simpa using h4
  split at hl
  ·rename_i u y hpt
   have hg := part_of h1 hpt
   obtain ⟨O2, k1, k2, k3, k4, k5⟩ := Loc_mem (Loc_bag h3) (h.hs.ob i e h1) h.hs.slt h2 hg h3
   split at hl
   ·rename_i hc
    have hr : (Instr.loadAt T (a.eval x)).run E.P w = .ok (toV u (cellsAt w.heap b off u.size)) w := by
     rw [h4]; simp [Instr.loadAt, Instr.sureAddr, run_loadVar (chk_ok hE hc) k3]
    split at hl
    ·rename_i hs
     cases hl
     have := k3.nilO hs
     subst this
     exact ⟨rfl, _, exec_value he hr, _, rfl, k3⟩
    ·cases hl
     have hp := Loc_place h3
     exact ⟨rfl, _, exec_value he hr, e, u, y, _, h1, h2, hg, ⟨b, off, hp.1, (cellsAt_congr (VH_old hp.2) _ _).symm⟩, rfl⟩
   ·cases hl
  ·cases hl
 ·cases hl

theorem quiet_run (hE : EnvOk E) (h : RS B S ι s a w) {o : Oper} (hq : quiet o = true) {p : Prop} {s1 : St} (hr : placeR E ops o s = some (p, s1)) (hp : p) :
  o.guard = none ∧ dstOk E.nt o.dst = true ∧ ∃ v val, s1 = s.put o.dst v ∧ (execOp a.eval o).run E.P w = .ok (.value val) w ∧ VX w.heap S ι s.hp v [val] := by
 simp only [quiet, Bool.and_eq_true, Option.isNone_iff_eq_none] at hq
 obtain ⟨hg, hq⟩ := hq
 unfold placeR at hr
 rw [hg] at hr
 simp only at hr
 unfold runR at hr
 split at hr
 ·cases hr
 ·rename_i hd
  refine ⟨hg, hd, ?_⟩
  have key : ∀ (r : OR), (match r.get with | none => none | some (p, v, s') => some (p, s'.put o.dst v)) = some (p, s1) → ORpure E.P S ι o a w s r → ∃ v val, s1 = s.put o.dst v ∧ (execOp a.eval o).run E.P w = .ok (.value val) w ∧ VX w.heap S ι s.hp v [val] := by
   intro r hr hpr
   cases r with
   | fail why => cases hr
   | ok v s' =>
    simp only [OR.get, Option.some.injEq, Prod.mk.injEq] at hr
    obtain ⟨e1, val, k1, k2⟩ := hpr
    exact ⟨v, val, by rw [← hr.2, e1], k1 w, k2⟩
   | okN p' v s' =>
    simp only [OR.get, Option.some.injEq, Prod.mk.injEq] at hr
    obtain ⟨e1, val, k1, k2⟩ := hpr (by rw [hr.1]; exact hp)
    exact ⟨v, val, by rw [← hr.2, e1], k1 w, k2⟩
  split at hq
  ·rename_i x ho
   rw [ho] at hr
   simp only [aop, ho, OR.get, Option.some.injEq, Prod.mk.injEq] at hr
   exact ⟨s.ev x, a.eval x, hr.2.symm, by simp [execOp, ho], h.ev x⟩
  ·rename_i T x ho
   rw [ho] at hr
   simp only [aop, ho] at hr
   cases hl : loadA E T (s.ev x) s with
   | fail y => rw [hl] at hr; cases hr
   | ok v s' =>
    rw [hl] at hr
    simp only [OR.get, Option.some.injEq, Prod.mk.injEq] at hr
    obtain ⟨e1, val, k1, k2⟩ := load_pure hE h ho hl
    exact ⟨v, val, by rw [← hr.2, e1], k1, k2⟩
   | okN p' v s' =>
    exfalso
    unfold loadA at hl
    repeat' split at hl
    all_goals cases hl
  ·rename_i T x n ho
   have := addr_pure hE h (o := o) (by rw [ho]; rfl)
   rw [ho] at hr
   exact key _ hr this
  ·rename_i T x n ho
   have := addr_pure hE h (o := o) (by rw [ho]; rfl)
   rw [ho] at hr
   exact key _ hr this
  ·rename_i x ho
   have := addr_pure hE h (o := o) (by rw [ho]; rfl)
   rw [ho] at hr
   exact key _ hr this
  ·cases hq

theorem quiet_abs {o : Oper} (hq : quiet o = true) {p : Prop} {s1 : St} (hr : placeR E ops o s = some (p, s1)) : ∃ v, s1 = s.put o.dst v := by
 simp only [quiet, Bool.and_eq_true, Option.isNone_iff_eq_none] at hq
 obtain ⟨hg, hq⟩ := hq
 unfold placeR at hr
 rw [hg] at hr
 simp only at hr
 unfold runR at hr
 split at hr
 ·cases hr
 ·rename_i hd
  have key : ∀ (r : OR) (t : St), (∀ v s', r = .ok v s' → s' = s) → (∀ p v s', r = .okN p v s' → s' = s) → (match r.get with | none => none | some (p, v, s') => some (p, s'.put o.dst v)) = some (p, s1) → ∃ v, s1 = s.put o.dst v := by
   intro r t h1 h2 hr
   cases r with
   | fail why => cases hr
   | ok v s' =>
    simp only [OR.get, Option.some.injEq, Prod.mk.injEq] at hr
    exact ⟨v, by rw [← hr.2, h1 v s' rfl]⟩
   | okN p' v s' =>
    simp only [OR.get, Option.some.injEq, Prod.mk.injEq] at hr
    exact ⟨v, by rw [← hr.2, h2 p' v s' rfl]⟩
  split at hq
  ·rename_i x ho
   rw [ho] at hr
   refine key _ s ?_ ?_ hr <;> (intros; simp_all [aop])
  ·rename_i T x ho
   rw [ho] at hr
   refine key _ s ?_ ?_ hr
   ·intro v s' e
    simp only [aop, ho] at e
    unfold loadA at e
    repeat' split at e
    all_goals (cases e; try rfl)
   ·intro q v s' e
    simp only [aop, ho] at e
    unfold loadA at e
    repeat' split at e
    all_goals (cases e; try rfl)
  ·rename_i T x n ho
   rw [ho] at hr
   refine key _ s ?_ ?_ hr
   ·intro v s' e
    simp only [aop, ho] at e
    repeat' split at e
    all_goals (cases e; try rfl)
   ·intro q v s' e
    simp only [aop, ho] at e
    repeat' split at e
    all_goals (cases e; try rfl)
  ·rename_i T x n ho
   rw [ho] at hr
   refine key _ s ?_ ?_ hr
   ·intro v s' e
    simp only [aop, ho] at e
    repeat' split at e
    all_goals (cases e; try rfl)
   ·intro q v s' e
    simp only [aop, ho] at e
    repeat' split at e
    all_goals (cases e; try rfl)
  ·rename_i x ho
   rw [ho] at hr
   refine key _ s ?_ ?_ hr
   ·intro v s' e
    simp only [aop, ho] at e
    repeat' split at e
    all_goals (cases e; try rfl)
   ·intro q v s' e
    simp only [aop, ho] at e
    repeat' split at e
    all_goals (cases e; try rfl)
  ·cases hq

/-! ### a store of a plain value between an append and its own store -/
theorem val_run {o : Oper} (hg : o.guard = none) {T : TypeId} {a x : Operand} (ho : o.op = .store T a x) {j : Nat} {q : List Step} {v : Ty} {z : v.den} (ha : s.ev a = .ptr j q) (hx : s.ev x = .val v z) {p : Prop} {s1 : St} (h : placeR E ops o s = some (p, s1)) :
  ∃ (e : Ent) (r : Sigma Ty.den), dstOk E.nt o.dst = true ∧ look j s.hp = some e ∧ setP e.ty e.x q v z = some r ∧ (∃ u y, getP e.ty e.x q = some ⟨u, y⟩ ∧ chk E T u = true) ∧ s1 = ((s.kill j e.kd q).putE j (e.upd r)).put o.dst (.raw undef) := by
 have hr : ∀ t, placeR E ops o t = runR E o t := fun t => by unfold placeR; rw [hg]
 rw [hr] at h
 have hop : ∀ t, aop E o t = (match t.ev a with | .ptr i p => storeA E T i p (t.ev x) t | _ => .fail "store") := fun t => by unfold aop; rw [ho]; rfl
 have hrun : ∀ t, runR E o t = (match dstOk E.nt o.dst with | false => none | true => match (aop E o t).get with | none => none | some (p, v, s') => some (p, s'.put o.dst v)) := fun t => by unfold runR; rw [ho]; rfl
 rw [hrun] at h
 split at h
 ·cases h
 ·rename_i hd
  rw [hop, ha] at h
  simp only at h
  rw [hx] at h
  cases hob : look j s.hp with
  | none =>
   have : storeA E T j q (.val v z) s = .fail "store: object" := by unfold storeA St.obj; rw [hob]
   rw [this] at h; cases h
  | some e =>
   cases hgp : getP e.ty e.x q with
   | none =>
    have : storeA E T j q (.val v z) s = .fail "store: path" := by unfold storeA St.obj; rw [hob]; simp only [hgp]
    rw [this] at h; cases h
   | some uy =>
    obtain ⟨u, y⟩ := uy
    cases hc : chk E T u with
    | false =>
     have : storeA E T j q (.val v z) s = .fail "store: type" := by unfold storeA St.obj; rw [hob]; simp only [hgp, hc]
     rw [this] at h; cases h
    | true =>
     have hsA : storeA E T j q (.val v z) s = (match setP e.ty e.x q v z with
       | some r => .ok (.raw undef) ((s.kill j e.kd q).putE j (e.upd r))
       | none => .fail "store: value") := by
      unfold storeA St.obj; rw [hob]; simp only [hgp, hc, AV.giveV, AV.give, St.drops]
      cases setP e.ty e.x q v z with
      | none => rfl
      | some r => rfl
     rw [hsA] at h
     cases hset : setP e.ty e.x q v z with
     | none => rw [hset] at h; cases h
     | some r =>
      rw [hset] at h
      simp only [OR.get, Option.some.injEq, Prod.mk.injEq] at h
      obtain ⟨rfl, rfl⟩ := h
      exact ⟨e, r, hd, rfl, hset, ⟨u, y, hgp, hc⟩, rfl⟩

theorem late_run (hE : EnvOk E) (hn : B.n = E.nt) (h : RS B S ι s a w) {o : Oper} (hg : o.guard = none) {T : TypeId} {ad x : Operand} (ho : o.op = .store T ad x) {j : Nat} {q : List Step} {v : Ty} {z : v.den} (ha : s.ev ad = .ptr j q) (hx : s.ev x = .val v z) {p : Prop} {s1 : St} (hr : placeR E ops o s = some (p, s1)) :
  ∃ ι' w', (execOp a.eval o).run E.P w = .ok .skip w' ∧ RS B S ι' s1 (a.put o.dst undef) w' ∧ ∀ {g : List Nat} {i : Nat} {e : Ent} {p0 : List Step} {t0 : Ty} {l m : List t0.den} {b off : Nat} {v' : Value}, i ≠ j → j ∉ g → look i s.hp = some e → okP e.ty e.x p0 → getP e.ty e.x p0 = some ⟨.slc true t0, l⟩ → Pend B S ι s.hp g i e p0 t0 l m b off v' w → Pend B S ι' s1.hp g i e p0 t0 l m b off v' w' := by
 obtain ⟨ej, r, hd, hob, hset, ⟨u, y, hgp, hck⟩, rfl⟩ := val_run hg ho ha hx hr
 have hadr := h.ev ad
 rw [ha] at hadr
 obtain ⟨e', b0, off0, c1, hok, hl, c4⟩ := hadr
 rw [hob] at c1; cases c1
 have c4 : a.eval ad = .pointer (some ⟨b0, off0, none⟩) := by simpa using c4
 have hval := h.ev x
 rw [hx] at hval
 obtain ⟨cs, hv1, hz⟩ := hval
 have hv1 : a.eval x = toV v cs := by simpa using hv1
 have hnb := Loc_bag hl
 obtain ⟨Op, m1, mn, m2, m3, m4, m5⟩ := Loc_mem hnb (h.hs.ob j ej hob) h.hs.slt hok hgp hl
 have hsh := getset_sh hgp hset
 have hnS : ¬ S b0 := (h.hs.bl j ej hob b0 m4).1
 have hcs : cs.length = u.size := by rw [hz.length, size_er hsh]
 obtain ⟨ι', ⟨O, rfl, hO⟩, h1⟩ := h.storeX hob hok hgp hl (u' := v) (z := z) (cs := cs) (O2 := []) (fun H' hsz hc => hz.stable (fun c hc' => hc.rest c (by
   rintro rfl
   rcases hc' with hc' | hc'
   ·cases hc'
   ·exact hnS hc') (by
   rcases hc' with hc' | hc'
   ·cases hc'
   ·exact h.hs.slt c hc')) (fun _ h => h)) hcs List.nodup_nil (by simp) hset (fun how _ => setP_idx hset (own_idx hl how))
 have hrun : (execOp a.eval o).run E.P w = .ok .skip (w.setRow b0 (over (blk w.heap b0) off0 cs).toArray) := by
  simp [execOp, ho, c4, hv1, Instr.storeAt, Instr.sureAddr, run_storeVar (chk_ok hE hck) hsh m5 hz]
 refine ⟨_, _, hrun, h1.put (by rw [hn]; exact hd) (v := .raw undef) (val := undef) rfl, ?_⟩
 rintro g i e p0 t0 l m b off v' hij hjg hi hok0 hg0 ⟨O', k1, k2, k3, k4, k5⟩
 have hold : ∀ c, c ≠ b0 → (w.setRow b0 (over (blk w.heap b0) off0 cs).toArray).heap[c]? = w.heap[c]? := fun c hc => setRow_other hc
 have hsame : SameAt ι (ι.setB j O) i := sameAt_setB hij O
 have hnbi := Loc_bag k1
 have hbO : b0 ∉ O' := fun hc => (k5 b0 hc).2.1 j ej (Ne.symm hij) hjg hob m4
 refine ⟨O', ?_, k2.stable (fun c hc => hold c (by
   rintro rfl
   rcases hc with hc | hc
   ·exact hbO hc
   ·exact hnS hc)) (fun _ h => h), k3, k4, fun c hc => ⟨?_, fun k ek hk hkg hlk => ?_, fun hci => ?_⟩⟩
 ·rw [hsame.loc]
  exact Loc_stable hnbi (h.hs.ob i e hi) h.hs.slt (fun c hc => hold c (by rintro rfl; exact h.hs.dj i j e ej hi hob hij c hc m4)) hok0 k1
 ·obtain ⟨f1, f2, f3⟩ := (k5 c hc).1
  exact ⟨f1, f2, by rw [setRow_size]; exact f3⟩
 ·rw [hp_putS] at hlk
  simp only [St.putE, look_put] at hlk
  by_cases hkj : k = j
  ·subst hkj
   rw [if_pos rfl] at hlk; cases hlk
   intro hcb
   refine (k5 c hc).2.1 k ej hk hkg hob ?_
   cases ej with
   | var t1 x1 =>
    simp only [blks, Ent.upd, Ix.setB, if_true, List.mem_cons] at hcb ⊢
    rcases hcb with hcb | hcb
    ·exact .inl hcb
    ·rcases (hO c hcb).1 with h9 | h9
     ·exact .inr h9
     ·cases h9
   | own t1 x1 =>
    simp only [blks, Ent.upd, Ix.setB, if_true] at hcb ⊢
    rcases (hO c hcb).1 with h9 | h9
    ·exact h9
    ·cases h9
   | bag => exact absurd rfl hnb
  ·rw [if_neg hkj] at hlk
   rw [(sameAt_setB hkj O).blks]
   exact (k5 c hc).2.1 k ek hk hkg hlk
 ·rw [hsame.blks] at hci
  obtain ⟨Op', o1, o2⟩ := (k5 c hc).2.2 hci
  obtain ⟨O3, n1, _, n3, _, n5, _⟩ := Loc_mem hnbi (h.hs.ob i e hi) h.hs.slt hok0 hg0 k1
  have hbi : b0 ≠ b := by
   rintro rfl
   exact h.hs.dj i j e ej hi hob hij b0 n5 m4
  have hO3 : O3 = Op' := n3.det o1
  have hOpi : ∀ c' ∈ Op', c' ≠ b0 := by
   rintro c' hc' rfl
   rw [← hO3] at hc'
   exact h.hs.dj i j e ej hi hob hij c' (own_blks (n1 c' hc')) m4
  refine ⟨Op', ?_, o2⟩
  rw [cellsAt_congr (hold b hbi.symm)]
  exact o1.stable (fun c' hc' => hold c' (by
   rintro rfl
   rcases hc' with hc' | hc'
   ·exact hOpi _ hc' rfl
   ·exact hnS hc')) (fun _ h => h)

theorem trim_back' {T : List Nat} {f : AV → AV} (hf : Trim T f) {u v : AV} (h : f u = v) (hv : v.ref = true ∨ (v.plain = true ∧ v ≠ .any)) : u = v := by
 cases u with
 | cons a b => rw [hf.cons] at h; subst h; rcases hv with hv | ⟨hv, _⟩ <;> cases hv
 | tup l => rw [hf.tup] at h; subst h; rcases hv with hv | ⟨hv, _⟩ <;> cases hv
 | clo g l => rw [hf.clo] at h; subst h; rcases hv with hv | ⟨hv, _⟩ <;> cases hv
 | bx l => rw [hf.bx] at h; subst h; rcases hv with hv | ⟨hv, _⟩ <;> cases hv
 | ptr i p => rcases hf.atom _ (rfl : (AV.ptr i p).ref = true) with e | e <;> rw [e] at h <;> first | exact h | (subst h; rcases hv with hv | ⟨_, hv⟩ <;> first | cases hv | exact absurd rfl hv)
 | at_ i p => rcases hf.atom _ (rfl : (AV.at_ i p).ref = true) with e | e <;> rw [e] at h <;> first | exact h | (subst h; rcases hv with hv | ⟨_, hv⟩ <;> first | cases hv | exact absurd rfl hv)
 | sub i p x y => rcases hf.atom _ (rfl : (AV.sub i p x y).ref = true) with e | e <;> rw [e] at h <;> first | exact h | (subst h; rcases hv with hv | ⟨_, hv⟩ <;> first | cases hv | exact absurd rfl hv)
 | _ => rw [hf.plain _ rfl] at h; exact h

theorem app1_shape {u : Ty} {v : AV} {r : Sigma fun t : Ty => List t.den} {g : List Nat} (h : v.app1 s u = some (r, g)) : v.ref = true ∨ (v.plain = true ∧ v ≠ .any) := by
 cases v with
 | ptr i p => exact .inl rfl
 | at_ i p => exact .inl rfl
 | sub i p x y => exact .inl rfl
 | raw v => exact .inr ⟨rfl, by intro h; cases h⟩
 | val t x => exact .inr ⟨rfl, by intro h; cases h⟩
 | rptr t x => exact .inr ⟨rfl, by intro h; cases h⟩
 | nil => exact .inr ⟨rfl, by intro h; cases h⟩
 | _ => exfalso; simp [AV.app1, AV.els] at h

theorem late_spec {M : List Nat} {q : PendA} {n : Nat} (h : lateOk ops M q n s = true) {j : Nat} (hj : j < n) (hjk : j ≠ q.k) {o : Oper} (ho : ops[j]? = some o) : (M.getD q.k 0).testBit j = true ∨ quiet o = true ∨ lateSt ops q n j o s = true := by
 simp only [lateOk, List.all_eq_true, List.mem_range] at h
 have := h j hj
 simp only [Bool.or_eq_true, ho] at this
 rcases this with h | (h | h) | h
 ·exact absurd (Nat.eq_of_beq_eq_true h) hjk
 ·exact .inl h
 ·exact .inr (.inl h)
 ·exact .inr (.inr h)

theorem lateSt_spec {q : PendA} {n j : Nat} {o : Oper} (h : lateSt ops q n j o s = true) : o.guard = none ∧ o.dst = none ∧ ∃ T ad x j0 q0 v z, o.op = .store T ad x ∧ s.ev ad = .ptr j0 q0 ∧ s.ev x = .val v z ∧ (s.ev q.x).ment j0 = false ∧ (s.ev q.y).ment j0 = false ∧ ∀ j', j < j' → j' < n → ∀ o', ops[j']? = some o' → ∀ d, o'.dst = some d → d ∉ looks ops o := by
 unfold lateSt at h
 split at h
 ·rename_i T ad x ho
  simp only [Bool.and_eq_true] at h
  obtain ⟨⟨⟨h1, hg⟩, hd⟩, h2⟩ := h
  split at h1
  ·rename_i j0 q0 v z ha hx
   simp only [Bool.and_eq_true, Bool.not_eq_true'] at h1
   refine ⟨by simpa using hg, by simpa using hd, T, ad, x, j0, q0, v, z, ho, ha, hx, h1.1, h1.2, fun j' hj hj' o' ho' d hd hm => ?_⟩
   simp only [List.all_eq_true, List.mem_range] at h2
   have := h2 j' hj'
   rw [Bool.or_eq_true] at this
   rcases this with h9 | h9
   ·have := Nat.le_of_ble_eq_true h9; omega
   ·rw [ho'] at h9
    simp [notIn, hd, hm] at h9
  ·cases h1
 ·cases h

theorem Trim.comp2 {T T' : List Nat} {f g : AV → AV} (hf : Trim T f) (hg : Trim T' g) : Trim (T ++ T') (fun u => g (f u)) := by
 refine ⟨fun a b => by rw [hf.cons, hg.cons], fun l => by rw [hf.tup, hg.tup], fun k l => by rw [hf.clo, hg.clo], fun l => by rw [hf.bx, hg.bx], fun u hu => ?_, fun u hu h => ?_, fun u hu => by rw [hf.plain u hu, hg.plain u hu]⟩
 ·rcases hf.atom u hu with e | e
  ·rw [e]; exact hg.atom u hu
  ·rw [e]; exact .inr (hg.plain _ rfl)
 ·rw [hf.keep u hu (fun i hi => h i (List.mem_append_left _ hi)), hg.keep u hu (fun i hi => h i (List.mem_append_right _ hi))]

theorem ev_trim {J : List Nat} {F : AV → AV} (hF : Trim J F) {s t : St} {z : Operand} (h : ∀ m, z = .tmp m → look m t.fr = (look m s.fr).map F) : t.ev z = F (s.ev z) := by
 cases z with
 | tmp m =>
  show t.get m = F (s.get m)
  simp only [St.get, h m rfl]
  cases look m s.fr with
  | none => exact (hF.plain _ rfl).symm
  | some v => rfl
 | const c => exact (hF.fix _ (fun i _ => ofConst_ment c i)).symm
 | global g => exact (hF.plain _ rfl).symm
 | func f => exact (hF.fix _ (fun i _ => rfl)).symm

theorem late_runs {M : Nat → Nat} {q : PendA} {n : Nat} {sF : St} : ∀ {l : List Nat} {acc : List (Nat × St)} {s s' : St}, RunsA E ops M acc l s s' → Eqv s' sF → uniq s.fr → l.Pairwise (· < ·) → (∀ j ∈ l, j < n) → (∀ j ∈ l, ∀ o, ops[j]? = some o → quiet o = true ∨ lateSt ops q n j o sF = true) →
  ∃ (J : List Nat) (f : AV → AV), Trim J f ∧ (∀ j ∈ J, (sF.ev q.x).ment j = false ∧ (sF.ev q.y).ment j = false) ∧ (∀ i, i ∉ J → look i s'.hp = look i s.hp) ∧ ∀ m, (∀ j ∈ l, ∀ o, ops[j]? = some o → o.dst ≠ some m) → look m s'.fr = (look m s.fr).map f
 | [], acc, s, s', h, _, _, _, _, _ => by
  obtain rfl : s = s' := h
  exact ⟨[], fun u => u, Trim.id _, by simp, fun _ _ => rfl, fun m _ => by simp⟩
 | j :: l, acc, s, s', ⟨o, ho, _, p, s1, h1, _, h2⟩, hev, hu, hpw, hlt, hq => by
  obtain ⟨hpw1, hpw2⟩ := List.pairwise_cons.1 hpw
  obtain ⟨J, f, k1, k2, k3, k4⟩ := late_runs h2 hev (place_uniq hu h1) hpw2 (fun j' hj' => hlt j' (by simp [hj'])) (fun j' hj' => hq j' (by simp [hj']))
  rcases hq j (by simp) o ho with hqt | hls
  ·obtain ⟨v, rfl⟩ := quiet_abs hqt h1
   refine ⟨J, f, k1, k2, fun i hi => (k3 i hi).trans (by rw [hp_putS]), fun m hm => ?_⟩
   rw [k4 m (fun j' hj' => hm j' (by simp [hj'])), look_putS, if_neg (hm j (by simp) o ho)]
  ·obtain ⟨hg, hdn, T, ad, x, j0, q0, v, z, g1, g2, g3, g4, g5, g6⟩ := lateSt_spec hls
   -- what the store saw
   obtain ⟨v0, ids, f0, h0, z1, z2, z3, z4, z5⟩ := place_eff (ops := ops) hu h1
   obtain ⟨s1', y1, _, y2⟩ := z5 s hu ((Eqv.refl s).agreeV _ _) z2
   rw [h1] at y1; cases y1
   have hsee : ∀ y, y ∈ o.op.operands.toList → sF.ev y = f (f0 (s.ev y)) := by
    intro y hy
    refine ev_trim (z1.comp2 k1) (fun m hm => ?_)
    subst hm
    have hml := looks_op (ops := ops) hy
    rw [← hev.1 m, k4 m (fun j' hj' o' ho' hd' => g6 j' (hpw1 j' hj') (hlt j' (by simp [hj'])) o' ho' m hd' hml), y2.fr, if_neg (by rw [hdn]; intro h; cases h)]
    cases look m s.fr <;> rfl
   have ha : s.ev ad = .ptr j0 q0 := trim_back' (z1.comp2 k1) ((hsee ad (by rw [g1]; simp [Op.operands])).symm.trans g2) (.inl rfl)
   have hx : s.ev x = .val v z := trim_back' (z1.comp2 k1) ((hsee x (by rw [g1]; simp [Op.operands])).symm.trans g3) (.inr ⟨rfl, by intro h; cases h⟩)
   obtain ⟨e, r, _, _, _, _, rfl⟩ := val_run hg g1 ha hx h1
   refine ⟨[j0] ++ J, fun u => f (AV.kill j0 e.kd q0 u), (Trim.kill j0 e.kd q0).comp2 k1, fun i hi => ?_, fun i hi => ?_, fun m hm => ?_⟩
   ·rcases List.mem_append.1 hi with hi | hi
    ·rw [List.mem_singleton] at hi; subst hi; exact ⟨g4, g5⟩
    ·exact k2 i hi
   ·rw [k3 i (fun h => hi (List.mem_append_right _ h)), hp_putS]
    simp only [St.putE, look_put]
    rw [if_neg (fun h => hi (List.mem_append_left _ (by simp [h])))]
    rfl
   ·rw [k4 m (fun j' hj' => hm j' (by simp [hj'])), look_putS, if_neg (hm j (by simp) o ho)]
    have e1 : look m ((s.kill j0 e.kd q0).putE j0 (e.upd r)).fr = (look m s.fr).map (AV.kill j0 e.kd q0) := look_mapA m _ _
    rw [e1]
    cases look m s.fr <;> rfl

/-! ### what the check of a pending append says -/
theorem pend_spec {M : List Nat} {k n : Nat} (h : pendOk ops M k n = true) : n + 1 = ops.size ∧ k < n ∧ ∃ ok, ops[k]? = some ok ∧ ∀ j, j < n → (M.getD n 0).testBit j = true ∧ (j ≠ k → ∃ o, ops[j]? = some o ∧ (∀ d, ok.dst = some d → o.dst ≠ some d) ∧
  ((M.getD k 0).testBit j = true ∨ ((quiet o = true ∨ isSt o = true) ∧ ∀ d, o.dst = some d → d ∉ looks ops ok))) := by
 simp only [pendOk, Bool.and_eq_true] at h
 obtain ⟨⟨h1, h2⟩, h3⟩ := h
 have hn := Nat.eq_of_beq_eq_true h1
 refine ⟨hn, by simpa [Nat.blt_eq] using h2, ?_⟩
 split at h3
 ·rename_i ok hok
  refine ⟨ok, hok, fun j hj => ?_⟩
  simp only [List.all_eq_true, List.mem_range] at h3
  have := h3 j hj
  simp only [Bool.and_eq_true, Bool.or_eq_true] at this
  obtain ⟨m1, m2⟩ := this
  refine ⟨m1, fun hjk => ?_⟩
  rcases m2 with m2 | m2
  ·exact absurd (Nat.eq_of_beq_eq_true m2) hjk
  ·split at m2
   ·rename_i o ho
    simp only [Bool.and_eq_true, Bool.or_eq_true] at m2
    refine ⟨o, ho, fun d hd hod => ?_, m2.2.imp id (fun h => ⟨h.1, fun d hd hdl => ?_⟩)⟩
    ·have := m2.1
     simp only [notIn, hod, hd, Option.toList] at this
     simp at this
    ·have := h.2
     simp only [notIn, hd] at this
     simp [hdl] at this
   ·cases m2
 ·cases h3

theorem fin_spec {M : List Nat} {q : PendA} {n : Nat} {o : Oper} {s : St} {p : Prop} {s2 : St} (h : finA E ops M q n o s = some (p, s2)) : ∃ T2 ad s3, o.guard = none ∧ o.op = .store T2 ad (.tmp q.d) ∧ (∀ t, ad = .tmp t → t ≠ q.d) ∧ (pendOk ops M q.k n = true ∧ lateOk ops M q n s = true) ∧ dstOk E.nt o.dst = true ∧
  appS E q.T q.U T2 (s.ev q.x) (s.ev q.y) (s.ev ad) q.d s = some (p, s3) ∧ s2 = s3.put o.dst (.raw undef) := by
 unfold finA at h
 split at h
 ·rename_i T2 ad d' hg hop
  split at h
  ·rename_i hc
   simp only [Bool.and_eq_true] at hc
   obtain ⟨⟨⟨⟨c1, c2⟩, c3⟩, c5⟩, c4⟩ := hc
   obtain rfl := Nat.eq_of_beq_eq_true c1
   split at h
   ·rename_i p' s3 hs
    cases h
    exact ⟨T2, ad, s3, hg, hop, fun t e => by subst e; rintro rfl; simp at c2, ⟨c3, c5⟩, c4, hs, rfl⟩
   ·cases h
  ·cases h
 ·cases h

theorem appS_inv (hE : EnvOk E) {x y adv : AV} {T U T2 : TypeId} {d : Nat} {p : Prop} {s2 : St} (hb : appS E T U T2 x y adv d s = some (p, s2)) (hp : p) :
  ∃ i p0 e t0 l m g r q bts, x = .at_ i p0 ∧ adv = .ptr i p0 ∧ look i s.hp = some e ∧ i ∉ g ∧ g.Nodup ∧ (g.all fun i => !pinned i) = true ∧ getP e.ty e.x p0 = some ⟨.slc true t0, l⟩ ∧ chk E T2 (.slc true t0) = true ∧
   setP e.ty e.x p0 (.slc true t0) (l ++ m) = some r ∧ s2 = (((St.drops g (s.put (some d) .any)).kill i e.kd p0).putE i (e.upd r)) ∧ look T E.tt = some ⟨.slc q t0, bts⟩ ∧
   ((∃ e', E.P.underlying U = some (.slice e')) ∨ E.P.underlying U = some .string) ∧ y.app1 s t0 = some (⟨t0, m⟩, g) ∧ l.length + m.length ≤ 140737488355328 ∧ (l.length + m.length) * t0.wb ≤ 140737488355328 ∧
   ((∃ t x, e = .var t x) ∨ ∃ t x j q, e = .own (.slc true t) x ∧ p0 = .idx j :: q) := by
 unfold appS at hb
 split at hb
 ·rename_i i p0 j q q1 t0 bts u1 bts1 hT hU
  split at hb
  ·rename_i e hob hku
   simp only [Bool.and_eq_true] at hku
   obtain ⟨hij, hku⟩ := hku
   have hij := Nat.eq_of_beq_eq_true hij
   subst hij
   split at hb
   ·rename_i u l hg
    split at hb
    ·rename_i t m g happ
     split at hb
     ·rename_i hu
      split at hb
      ·rename_i ht
       subst hu; subst ht
       split at hb
       ·rename_i r hset
        split at hb
        ·rename_i hck
         cases hb
         simp only [Bool.and_eq_true, Bool.not_eq_true'] at hck
         obtain ⟨⟨⟨⟨hck, hst⟩, hgi⟩, hgn⟩, hgp⟩ := hck
         obtain ⟨rfl, h63, hby⟩ := hp
         have hgi : i ∉ g := by intro hm; simp [hm] at hgi
         have hk : (∃ e', E.P.underlying U = some (.slice e')) ∨ E.P.underlying U = some .string := by
          cases u1 <;> first | cases hku | skip
          ·exact .inr (tyOk_str (tt_ok hE hU))
          ·obtain ⟨et, k', f1, _⟩ := tyOk_slc (tt_ok hE hU)
           exact .inl ⟨et, f1⟩
         exact ⟨i, q, e, _, l, m, g, r, _, _, rfl, rfl, hob, hgi, noDup_nodup hgn, hgp, hg, hck, hset, rfl, hT, hk, happ, h63, hby, (stay_spec hst).2⟩
        ·cases hb
       ·cases hb
      ·cases hb
     ·cases hb
    ·cases hb
   ·cases hb
  ·cases hb
 ·cases hb

theorem Apart.cut : ∀ {A C : List Oper} {o : Oper}, Apart (A ++ o :: C) → Apart (A ++ C) ∧ ∀ x ∈ A ++ C, ∀ d, x.dst = some d → o.dst ≠ some d
 | [], C, o, h => ⟨h.2, fun x hx d hxd hod => h.1 d hod x hx hxd⟩
 | y :: A, C, o, h => by
  obtain ⟨m1, m2⟩ := Apart.cut h.2
  refine ⟨⟨fun d hd x hx => h.1 d hd x (by simp at hx ⊢; rcases hx with hx | hx <;> simp [hx]), m1⟩, fun x hx d hxd hod => ?_⟩
  rcases List.mem_cons.1 hx with rfl | hx
  ·exact h.1 d hxd o (by simp) hod
  ·exact m2 x hx d hxd hod

theorem Apart.sub {f : Nat → Bool} : ∀ {l : List Nat}, Apart (rem ops l) → Apart (rem ops (l.filter f))
 | [], h => h
 | i :: l, h => by
  cases ho : ops[i]? with
  | none =>
   have e : rem ops (i :: l) = rem ops l := by simp [rem, ho]
   rw [e] at h
   have := Apart.sub (f := f) h
   rw [List.filter_cons]
   split
   ·have e : rem ops (i :: l.filter f) = rem ops (l.filter f) := by simp [rem, ho]
    rw [e]; exact this
   ·exact this
  | some o =>
   rw [rem_cons ho] at h
   rw [List.filter_cons]
   split
   ·rw [rem_cons ho]
    refine ⟨fun d hd x hx => h.1 d hd x ?_, Apart.sub h.2⟩
    obtain ⟨j, hj, hjx⟩ := List.mem_filterMap.1 hx
    exact List.mem_filterMap.2 ⟨j, (List.mem_filter.1 hj).1, hjx⟩
   ·exact Apart.sub h.2

theorem mem_rem {j : Nat} {o : Oper} {l : List Nat} (hj : j ∈ l) (ho : ops[j]? = some o) : o ∈ rem ops l := List.mem_filterMap.2 ⟨j, hj, ho⟩

theorem idxs_without {n i : Nat} {listed : Array Bool} {f : Nat → Bool} (hs : listed.size = n) (hi : i ∈ idxs n listed) (hf : f i = true) : ∃ pre post, (idxs n listed).filter f = pre ++ i :: post ∧ (∀ j ∈ pre, j < i) ∧
  (idxs n (listed.setIfInBounds i true)).filter f = pre ++ post := by
 obtain ⟨pre, post, e, h1, h2⟩ := idxs_split hi
 refine ⟨pre.filter f, post.filter f, by rw [e, List.filter_append, List.filter_cons, if_pos hf], fun j hj => h1 j (List.mem_filter.1 hj).1, ?_⟩
 rw [idxs_set hs (mem_idxs.1 hi).1, h2, List.filter_append]

theorem idxs_skip {n i : Nat} {listed : Array Bool} {f g : Nat → Bool} (hs : listed.size = n) (hi : i < n) (hg : ∀ j, g j = (f j && !(j == i))) : (idxs n (listed.setIfInBounds i true)).filter f = (idxs n listed).filter g := by
 rw [idxs_set hs hi, List.filter_filter]
 exact List.filter_congr (fun j _ => (hg j).symm)

theorem idxs_len {n i fuel : Nat} {listed : Array Bool} (hs : listed.size = n) (hi : i ∈ idxs n listed) (hl : (idxs n listed).length = fuel + 1) : (idxs n (listed.setIfInBounds i true)).length = fuel := by
 obtain ⟨pre, post, e, h1, h2⟩ := idxs_split hi
 rw [idxs_set hs (mem_idxs.1 hi).1, h2]
 rw [e] at hl
 simp at hl ⊢; omega

section
variable {q : PendA} {n : Nat} {s1 : St}

theorem ClosedL.set {listed : Array Bool} (hcl : ClosedL ops listed) {i : Nat} {o : Oper} (ho : ops[i]? = some o) (hpre : ∀ e ∈ o.after, Region.binds .any e = true → listed.getD e.on false = true) : ClosedL ops (listed.setIfInBounds i true) := by
 intro k y hy hk e' he' hb'
 by_cases hki : k = i
 ·subst hki
  rw [ho] at hy; cases hy
  exact getD_set_true (hpre e' he' hb')
 ·rw [getD_set_ne true (Ne.symm hki)] at hk
  exact getD_set_true (hcl k y hy hk e' he' hb')

theorem listed_set {listed : Array Bool} {i : Nat} (hi : i < listed.size) : (listed.setIfInBounds i true).getD i true = true := by simp [hi]
theorem listed_set_false {listed : Array Bool} {i : Nat} (hi : i < listed.size) : (listed.setIfInBounds i true).getD i false = true := by simp [hi]

theorem ready_some (hd : drawOk ops = true) {listed : Array Bool} (hsz : listed.size = ops.size) (hne : idxs ops.size listed ≠ []) : Region.ready .any ops listed ≠ [] := by
 have hM := draw_spec hd
 intro hr
 cases hix : idxs ops.size listed with
 | nil => exact hne hix
 | cons i l =>
  have hmem : i ∈ idxs ops.size listed := by rw [hix]; simp
  obtain ⟨h1, h2⟩ := mem_idxs.1 hmem
  have ho : ops[i]? = some ops[i] := Array.getElem?_eq_getElem h1
  have : i ∈ Region.ready .any ops listed := by
   refine mem_ready.2 ⟨h2, ops[i], ho, fun e he hb => ?_⟩
   have hlt := (hM i _ ho).1 e he hb
   cases hle : listed.getD e.on true with
   | true =>
    have : e.on < listed.size := by omega
    simp [this] at hle ⊢; exact hle
   | false =>
    exfalso
    have hm2 : e.on ∈ idxs ops.size listed := mem_idxs.2 ⟨by omega, hle⟩
    have hs := idxs_sorted ops.size listed
    rw [hix] at hs hm2
    rcases List.mem_cons.1 hm2 with e1 | e1
    ·omega
    ·have := (List.pairwise_cons.1 hs).1 _ e1; omega
  rw [hr] at this
  cases this

theorem drawn_late (hE : EnvOk E) (hn : B.n = E.nt) (hd : drawOk ops = true) {Q : Exit → Act → World → Prop} (hap : Apart ops.toList) (hA : AppOp E ops q) {o2 : Oper} (ho2 : ops[n]? = some o2) {p : Prop} {s2 : St} (hfin : finA E ops (masksGo ops.toList []) q n o2 s1 = some (p, s2)) (hp : p)
  (hQ : ∀ S ι a w, RS B S ι s2 a w → Q .normal a w) {i : Nat} {e : Ent} {p0 : List Step} {t0 : Ty} {l m : List t0.den} {g : List Nat} (hx : s1.ev q.x = .at_ i p0) (he : look i s1.hp = some e) (hok : okP e.ty e.x p0) (hg : getP e.ty e.x p0 = some ⟨.slc true t0, l⟩)
  (happ : (s1.ev q.y).app1 s1 t0 = some (⟨t0, m⟩, g)) {v' : Value} :
  ∀ (fuel : Nat) (listed : Array Bool) (S : Nat → Prop) (ι : Ix) (s s' : St) (a : Act) (w : World), listed.size = ops.size → (idxs ops.size listed).length = fuel → ClosedL ops listed → listed.getD q.k false = true → listed.getD n true = false → uniq s.fr → CleanFor s (rem ops ((idxs ops.size listed).filter (fun j => !(j == n)))) →
   RunsA E ops (fun i => (masksGo ops.toList []).getD i 0) [] ((idxs ops.size listed).filter (fun j => !(j == n))) s s' → Eqv s' s1 → RS B S ι s a w → a.eval (.tmp q.d) = v' → (∀ b off, Loc w.heap ι i e p0 = some (b, off) → Pend B S ι s.hp g i e p0 t0 l m b off v' w) →
   wpAny E.P .any ops Q fuel listed a w := by
 have hM := draw_spec hd
 obtain ⟨T2, ad, s3, f1, f2, f3, ⟨f4, f4'⟩, f5, f6, rfl⟩ := fin_spec hfin
 obtain ⟨hns, hkn, ok, hok1, hsp⟩ := pend_spec f4
 obtain ⟨oa, c, a1, a2, a3, a4, a5, a6, a7, a8⟩ := hA
 have e9 : oa = ok := by rw [a1] at hok1; cases hok1; rfl
 subst e9
 have hndst : ∀ j o, j < n → j ≠ q.k → ops[j]? = some o → o.dst ≠ some q.d := by
  intro j o hj hjk ho
  obtain ⟨o', h1, h2, _⟩ := (hsp j hj).2 hjk
  rw [ho] at h1; cases h1
  exact h2 q.d a3
 intro fuel
 induction fuel with
 | zero =>
  intro listed S ι s s' a w hsz hlen hcl hlk hln hu hcf hrun hev hrs hv hpd
  exfalso
  have hnil : idxs ops.size listed = [] := List.length_eq_zero_iff.1 hlen
  have : n ∈ idxs ops.size listed := mem_idxs.2 ⟨by omega, hln⟩
  rw [hnil] at this; cases this
 | succ fuel ih =>
  intro listed S ι s s' a w hsz hlen hcl hlk hln hu hcf hrun hev hrs hv hpd
  refine ⟨fun hr => absurd hr (ready_some hd hsz (by intro h; rw [h] at hlen; cases hlen)), fun i' hi => ?_⟩
  obtain ⟨h1, o, ho, hpre⟩ := mem_ready.1 hi
  have hin : i' < ops.size := (Array.getElem?_eq_some_iff.1 ho).1
  have hmem : i' ∈ idxs ops.size listed := mem_idxs.2 ⟨hin, h1⟩
  have hanc : ∀ j, j < ops.size → ((masksGo ops.toList []).getD i' 0).testBit j = true → listed.getD j false = true := anc_listed (M := fun i => (masksGo ops.toList []).getD i 0) (fun i o ho => ⟨(hM i o ho).1, (hM i o ho).2.1⟩) hcl i' o ho hpre
  by_cases hin2 : i' = n
  ·-- the store
   subst hin2
   rw [ho2] at ho; cases ho
   have hall : ∀ j, j ∈ idxs ops.size listed → j = i' := by
    intro j hj
    obtain ⟨j1, j2⟩ := mem_idxs.1 hj
    by_cases e : j = i'
    ·exact e
    ·have := hanc j j1 (hsp j (by omega)).1
     rw [getD_flip this] at j2; cases j2
   have hnil : (idxs ops.size listed).filter (fun j => !(j == i')) = [] := by
    rw [List.filter_eq_nil_iff]
    intro j hj; simp [hall j hj]
   rw [hnil] at hrun
   obtain rfl : s = s' := hrun
   have hrs1 := rs_eqv hev hrs
   have hrs2 : RS B S ι (s1.put (some q.d) .any) a w := hrs1.forget q.d
   obtain ⟨i2, p2, e2, t2, l2, m2, g2, r, qq, bts, b1, b2, b3, b4, b5, b6, b7, b8, b9, b10, b11, b12, b13, b14, b15, b16⟩ := appS_inv hE f6 hp
   rw [hx] at b1
   obtain ⟨rfl, rfl⟩ : i = i2 ∧ p0 = p2 := by simpa using b1
   rw [he] at b3; cases b3
   rw [hg] at b7
   simp only [Option.some.injEq, Sigma.mk.injEq, Ty.slc.injEq, true_and] at b7
   obtain ⟨b7, b7'⟩ := b7
   subst b7
   obtain rfl : l = l2 := eq_of_heq b7'
   rw [happ] at b13
   simp only [Option.some.injEq, Prod.mk.injEq, Sigma.mk.injEq, heq_eq_eq, true_and] at b13
   obtain ⟨rfl, rfl⟩ := b13
   have hadr := hrs1.ev ad
   rw [b2] at hadr
   obtain ⟨e', b, off, c1, c2, c3, c4⟩ := hadr
   rw [he] at c1; cases c1
   have c4 : a.eval ad = .pointer (some ⟨b, off, none⟩) := by simpa using c4
   have hst := pend_store hE hrs2 (g := g) b6 b4 (e := e) he hok hg (by
    obtain ⟨O', y1, y2, y3, y4, y5⟩ := hpd b off c3
    exact ⟨O', y1, y2, y3, y4, fun cc hc => ⟨(y5 cc hc).1, fun j ej hj hjg hlj => (y5 cc hc).2.1 j ej hj hjg ((hev.2 j).trans hlj), (y5 cc hc).2.2⟩⟩) f2 c4 hv b8 b9
   have hlen' := idxs_len hsz hmem hlen
   have hnil2 : idxs ops.size (listed.setIfInBounds i' true) = [] := by
    rw [idxs_set hsz hin]
    rw [List.filter_eq_nil_iff]
    intro j hj; simp [hall j hj]
   have hf0 : fuel = 0 := by rw [hnil2] at hlen'; exact hlen'.symm
   subst hf0
   have hw : o2.wp E.P a w (wpAny E.P .any ops Q 0 (listed.setIfInBounds i' true)) Q := by
    refine hst _ _ (fun S' ι' w' val h1 h2 => ⟨?_, hQ S' ι' _ w' ?_⟩)
    ·rw [List.eq_nil_iff_forall_not_mem]
     intro j hj
     obtain ⟨j1, oj, j2, _⟩ := mem_ready.1 hj
     have : j ∈ idxs ops.size (listed.setIfInBounds i' true) := mem_idxs.2 ⟨(Array.getElem?_eq_some_iff.1 j2).1, j1⟩
     rw [hnil2] at this; cases this
    ·rw [← b10] at h1 h2
     exact h1.put (by rw [hn]; exact f5) h2
   unfold wpOp
   rw [ho2]
   simp only [Region.wanted, f1, if_true]
   exact .inl hw
  ·-- something quiet
   have hlt : i' < n := by omega
   have hki : i' ≠ q.k := by rintro rfl; rw [getD_flip hlk] at h1; cases h1
   obtain ⟨o', ho', hdd, hqq⟩ := (hsp i' hlt).2 hki
   rw [ho] at ho'; cases ho'
   have hnanc : ∀ j, j ∈ idxs ops.size listed → ¬ ((masksGo ops.toList []).getD q.k 0).testBit j = true := by
    intro j hj hb
    have hclk : ∀ e ∈ oa.after, Region.binds .any e = true → listed.getD e.on false = true := hcl q.k oa a1 (getD_flip hlk)
    have h9 := anc_listed (M := fun i => (masksGo ops.toList []).getD i 0) (fun i o ho => ⟨(hM i o ho).1, (hM i o ho).2.1⟩) hcl q.k oa a1 hclk j (mem_idxs.1 hj).1 hb
    have h8 := (mem_idxs.1 hj).2
    rw [getD_flip h9] at h8; cases h8
   have hkinds : ∀ j ∈ (idxs ops.size listed).filter (fun j => !(j == n)), ∀ oj, ops[j]? = some oj → quiet oj = true ∨ lateSt ops q n j oj s1 = true := by
    intro j hj oj hoj
    obtain ⟨j1, j2⟩ := List.mem_filter.1 hj
    simp only [Bool.not_eq_true', beq_eq_false_iff_ne, ne_eq] at j2
    have jn : j < n := by have := (mem_idxs.1 j1).1; omega
    have jk : j ≠ q.k := by rintro rfl; have := (mem_idxs.1 j1).2; rw [getD_flip hlk] at this; cases this
    rcases late_spec f4' jn jk hoj with h9 | h9 | h9
    ·exact absurd h9 (hnanc j j1)
    ·exact .inl h9
    ·exact .inr h9
   have hltn : ∀ j ∈ (idxs ops.size listed).filter (fun j => !(j == n)), j < n := by
    intro j hj
    obtain ⟨j1, j2⟩ := List.mem_filter.1 hj
    simp only [Bool.not_eq_true', beq_eq_false_iff_ne, ne_eq] at j2
    have := (mem_idxs.1 j1).1; omega
   have hsort : ((idxs ops.size listed).filter (fun j => !(j == n))).Pairwise (· < ·) := (idxs_sorted ops.size listed).sublist List.filter_sublist
   have hmemf : i' ∈ (idxs ops.size listed).filter (fun j => !(j == n)) := List.mem_filter.2 ⟨hmem, by simpa using hin2⟩
   have hkind := hkinds i' hmemf o ho
   have hrun0 := hrun
   obtain ⟨pre, post, e1, hlt', e2⟩ := idxs_without (f := fun j => !(j == n)) hsz hmem (by simpa using hin2)
   rw [e1] at hcf hrun
   have er : rem ops (pre ++ i' :: post) = rem ops pre ++ o :: rem ops post := by simp [rem, List.filterMap_append, ho]
   have er2 : rem ops (pre ++ post) = rem ops pre ++ rem ops post := by simp [rem, List.filterMap_append]
   have hapr : Apart (rem ops (pre ++ i' :: post)) := by
    rw [← e1]
    refine Apart.sub ?_
    have : rem ops (idxs ops.size listed) = rem ops ((List.range ops.size).filter (fun i => !listed.getD i true)) := rfl
    rw [this]
    refine Apart.sub ?_
    have h9 := rem_all (ops := ops)
    rw [idxs_all] at h9
    rw [h9]; exact hap
   have hind : ∀ j ∈ pre, ((masksGo ops.toList []).getD i' 0).testBit j = false ∧ ∀ x, ops[j]? = some x → indep ops x o = true := by
    intro j hj
    have hji : j ∈ idxs ops.size listed := by
     have : j ∈ (idxs ops.size listed).filter (fun j => !(j == n)) := by rw [e1]; simp [hj]
     exact (List.mem_filter.1 this).1
    have hnm : ((masksGo ops.toList []).getD i' 0).testBit j = false := by
     cases hm : ((masksGo ops.toList []).getD i' 0).testBit j with
     | false => rfl
     | true =>
      exfalso
      have hjl := hanc j (mem_idxs.1 hji).1 hm
      have := (mem_idxs.1 hji).2
      rw [getD_flip hjl] at this
      cases this
    refine ⟨hnm, fun x hx => ?_⟩
    rcases (hM i' o ho).2.2 j x (hlt' j hj) hx with hm | hm
    ·rw [hnm] at hm; cases hm
    ·exact hm
   obtain ⟨pp, sa, sb, k1, k2, k3, k4, _⟩ := bubble ho hapr hind hu (hcf.sub (fun y hy => by rw [rem_app]; exact List.mem_append_left _ hy)) hrun
   rw [er] at hapr hcf
   have hap2 := Apart.cut hapr
   rcases hkind with hqt | hls
   ·obtain ⟨q1, q2, v, val, rfl, q3, q4⟩ := quiet_run hE hrs hqt k1 k2
    have hnext : wpAny E.P .any ops Q fuel (listed.setIfInBounds i' true) (a.put o.dst val) w := by
     refine ih (listed.setIfInBounds i' true) S ι (s.put o.dst v) sb (a.put o.dst val) w (by simp [hsz]) (idxs_len hsz hmem hlen) (hcl.set ho hpre) (getD_set_true hlk) (by rw [getD_set_ne true hin2]; exact hln) (place_uniq hu k1) ?_ (by rw [e2]; exact k3) (k4.trans hev) (hrs.put (by rw [hn]; exact q2) q4) ?_ (fun b off hb => by rw [hp_putS]; exact hpd b off hb)
     ·rw [e2, er2]
      exact CleanFor.step hu (fun y hy => hcf y (by simp at hy ⊢; rcases hy with hy | hy <;> simp [hy])) hap2.2 k1
     ·rw [← hv]
      have hne := hndst i' o hlt hki ho
      cases hod : o.dst with
      | none => rfl
      | some d =>
       rw [hod] at hne
       exact aput_other (fun e => hne (by rw [e]))
    unfold wpOp
    rw [ho]
    simp only [Region.wanted, q1, if_true]
    refine .inl ?_
    unfold Oper.wp
    rw [q3]
    exact hnext
   ·-- a store that goes elsewhere
    obtain ⟨hg0, hdn, T, ad', x', j0, q0, vt, z, g1, g2, g3, g4, g5, g6⟩ := lateSt_spec hls
    rw [e1] at hsort hltn hkinds
    have hsub : List.Sublist (pre ++ post) (pre ++ i' :: post) := List.Sublist.append (List.Sublist.refl _) (List.sublist_cons_self _ _)
    obtain ⟨J, f, t1, t2, t3, t4⟩ := late_runs k3 (k4.trans hev) (place_uniq hu k1) (hsort.sublist hsub) (fun j hj => hltn j (hsub.subset hj)) (fun j hj => hkinds j (hsub.subset hj))
    have hpost : ∀ j ∈ post, i' < j := fun j hj => (List.pairwise_cons.1 (List.pairwise_append.1 hsort).2.1).1 j hj
    obtain ⟨v0, ids, f0, hh0, z1, z2, z3, z4, z5⟩ := place_eff (ops := ops) hu k1
    obtain ⟨sa', y1, _, y2⟩ := z5 s hu ((Eqv.refl s).agreeV _ _) z2
    rw [k1] at y1; cases y1
    have hsee : ∀ y, y ∈ o.op.operands.toList → s1.ev y = f (f0 (s.ev y)) := by
     intro y hy
     refine ev_trim (z1.comp2 t1) (fun m' hm => ?_)
     subst hm
     have hml := looks_op (ops := ops) hy
     rw [← (k4.trans hev).1 m', t4 m' (fun j hj o' ho' hd' => ?_), y2.fr, if_neg (by rw [hdn]; intro h; cases h)]
     ·cases look m' s.fr <;> rfl
     ·rcases List.mem_append.1 hj with hj | hj
      ·exact (indep_spec ((hind j hj).2 o' ho')).1 m' hd' hml
      ·exact g6 j (hpost j hj) (hltn j (by simp [hj])) o' ho' m' hd' hml
    have ha' : s.ev ad' = .ptr j0 q0 := trim_back' (z1.comp2 t1) ((hsee ad' (by rw [g1]; simp [Op.operands])).symm.trans g2) (.inl rfl)
    have hx' : s.ev x' = .val vt z := trim_back' (z1.comp2 t1) ((hsee x' (by rw [g1]; simp [Op.operands])).symm.trans g3) (.inr ⟨rfl, by intro h; cases h⟩)
    obtain ⟨ι', w', r1, r2, r3⟩ := late_run hE hn hrs hg0 g1 ha' hx' k1
    have hij : i ≠ j0 := by
     rintro rfl
     rw [hx] at g4
     simp only [AV.ment, Nat.beq_refl] at g4
     cases g4
    have hjg : j0 ∉ g := fun hm => by rw [app1_ment happ j0 hm] at g5; cases g5
    obtain ⟨J2, f2', u1, u2, u3, u4⟩ := late_runs (ops := ops) (q := q) (n := n) hrun hev hu hsort hltn hkinds
    have hes : look i s.hp = some e := by
     rw [← u3 i (fun hm => by
      have := (u2 i hm).1
      rw [hx] at this
      simp only [AV.ment, Nat.beq_refl] at this
      cases this), hev.2 i]
     exact he
    obtain ⟨i2, p2, e2', t2', l2, m2, g2', r', qq, bts, b1, b2, b3, b4, b5, b6, b7, b8, b9, b10, b11, b12, b13, b14, b15, b16⟩ := appS_inv hE f6 hp
    rw [hx] at b1
    obtain ⟨rfl, rfl⟩ : i = i2 ∧ p0 = p2 := by simpa using b1
    rw [he] at b3; cases b3
    obtain ⟨b, off, hloc⟩ := loc_stay (hrs.hs.ob i e hes) hrs.hs.slt b16 hok hg
    have hP := r3 hij hjg hes hok hg (hpd b off hloc)
    have hnext : wpAny E.P .any ops Q fuel (listed.setIfInBounds i' true) (a.put o.dst undef) w' := by
     refine ih (listed.setIfInBounds i' true) S ι' sa sb (a.put o.dst undef) w' (by simp [hsz]) (idxs_len hsz hmem hlen) (hcl.set ho hpre) (getD_set_true hlk) (by rw [getD_set_ne true hin2]; exact hln) (place_uniq hu k1) ?_ (by rw [e2]; exact k3) (k4.trans hev) r2 ?_ (fun b9 off9 hb9 => ?_)
     ·rw [e2, er2]
      exact CleanFor.step hu (fun y hy => hcf y (by simp at hy ⊢; rcases hy with hy | hy <;> simp [hy])) hap2.2 k1
     ·rw [← hv, hdn]; rfl
     ·obtain ⟨_, h9, _⟩ := id hP
      rw [h9] at hb9; cases hb9
      exact hP
    unfold wpOp
    rw [ho]
    simp only [Region.wanted, hg0, if_true]
    refine .inl ?_
    unfold Oper.wp
    rw [r1]
    exact hnext

theorem drawn_early (hE : EnvOk E) (hn : B.n = E.nt) (hd : drawOk ops = true) {Q : Exit → Act → World → Prop} (hap : Apart ops.toList) (hA : AppOp E ops q) {o2 : Oper} (ho2 : ops[n]? = some o2) {p : Prop} {s2 : St} (hfin : finA E ops (masksGo ops.toList []) q n o2 s1 = some (p, s2)) (hp : p)
  (hQ : ∀ S ι a w, RS B S ι s2 a w → Q .normal a w) :
  ∀ (fuel : Nat) (listed : Array Bool) (S : Nat → Prop) (ι : Ix) (s s' : St) (a : Act) (w : World), listed.size = ops.size → (idxs ops.size listed).length = fuel → ClosedL ops listed → listed.getD q.k true = false → listed.getD n true = false → uniq s.fr → CleanFor s (rem ops ((idxs ops.size listed).filter (fun j => !(j == n) && !(j == q.k)))) →
   RunsA E ops (fun i => (masksGo ops.toList []).getD i 0) [] ((idxs ops.size listed).filter (fun j => !(j == n) && !(j == q.k))) s s' → Eqv s' s1 → look q.d s.fr = some .any → RS B S ι s a w →
   wpAny E.P .any ops Q fuel listed a w := by
 have hM := draw_spec hd
 obtain ⟨T2, ad, s3, f1, f2, f3, ⟨f4, f4'⟩, f5, f6, _⟩ := fin_spec hfin
 obtain ⟨hns, hkn, ok, hok1, hsp⟩ := pend_spec f4
 have hA' := hA
 obtain ⟨oa, c, a1, a2, a3, a4, a5, a6, a7, a8⟩ := hA
 have e9 : oa = ok := by rw [a1] at hok1; cases hok1; rfl
 subst e9
 intro fuel
 induction fuel with
 | zero =>
  intro listed S ι s s' a w hsz hlen hcl hlk hln hu hcf hrun hev hany hrs
  exfalso
  have hnil : idxs ops.size listed = [] := List.length_eq_zero_iff.1 hlen
  have : n ∈ idxs ops.size listed := mem_idxs.2 ⟨by omega, hln⟩
  rw [hnil] at this; cases this
 | succ fuel ih =>
  intro listed S ι s s' a w hsz hlen hcl hlk hln hu hcf hrun hev hany hrs
  refine ⟨fun hr => absurd hr (ready_some hd hsz (by intro h; rw [h] at hlen; cases hlen)), fun i' hi => ?_⟩
  obtain ⟨h1, o, ho, hpre⟩ := mem_ready.1 hi
  have hin : i' < ops.size := (Array.getElem?_eq_some_iff.1 ho).1
  have hmem : i' ∈ idxs ops.size listed := mem_idxs.2 ⟨hin, h1⟩
  have hanc : ∀ j, j < ops.size → ((masksGo ops.toList []).getD i' 0).testBit j = true → listed.getD j false = true := anc_listed (M := fun i => (masksGo ops.toList []).getD i 0) (fun i o ho => ⟨(hM i o ho).1, (hM i o ho).2.1⟩) hcl i' o ho hpre
  by_cases hin2 : i' = n
  ·exfalso
   subst hin2
   have := hanc q.k (by omega) (hsp q.k hkn).1
   rw [getD_flip this] at hlk; cases hlk
  have hlt : i' < n := by omega
  by_cases hki : i' = q.k
  ·-- the append
   subst hki
   rw [a1] at ho; cases ho
   have hltn : ∀ j ∈ (idxs ops.size listed).filter (fun j => !(j == n) && !(j == q.k)), j < n := by
    intro j hj
    obtain ⟨j1, j2⟩ := List.mem_filter.1 hj
    simp only [Bool.and_eq_true, Bool.not_eq_true', beq_eq_false_iff_ne, ne_eq] at j2
    have := (mem_idxs.1 j1).1; omega
   have hquiet : ∀ j ∈ (idxs ops.size listed).filter (fun j => !(j == n) && !(j == q.k)), ∀ oj, ops[j]? = some oj → (quiet oj = true ∨ lateSt ops q n j oj s1 = true) ∧ oj.dst ≠ some q.d ∧ ∀ d, oj.dst = some d → d ∉ looks ops oa := by
    intro j hj oj hoj
    have jn := hltn j hj
    obtain ⟨j1, j2⟩ := List.mem_filter.1 hj
    simp only [Bool.and_eq_true, Bool.not_eq_true', beq_eq_false_iff_ne, ne_eq] at j2
    have hna : ¬ ((masksGo ops.toList []).getD q.k 0).testBit j = true := by
     intro g3
     have := hanc j (by omega) g3
     have h9 := (mem_idxs.1 j1).2
     rw [getD_flip this] at h9; cases h9
    obtain ⟨o', g1, g2, g3⟩ := (hsp j jn).2 j2.2
    rw [hoj] at g1; cases g1
    refine ⟨?_, g2 q.d a3, ?_⟩
    ·rcases late_spec f4' jn j2.2 hoj with h9 | h9 | h9
     ·exact absurd h9 hna
     ·exact .inl h9
     ·exact .inr h9
    ·rcases g3 with g3 | g3
     ·exact absurd g3 hna
     ·exact g3.2
   have hsort : ((idxs ops.size listed).filter (fun j => !(j == n) && !(j == q.k))).Pairwise (· < ·) := (idxs_sorted ops.size listed).sublist List.filter_sublist
   obtain ⟨J, f, t1, t2, t3, t4⟩ := late_runs (ops := ops) (q := q) (n := n) hrun hev hu hsort hltn (fun j hj oj hoj => (hquiet j hj oj hoj).1)
   obtain ⟨i, p0, e, t0, l, m, g, r, qq, bts, b1, b2, b3, b4, b5, b6, b7, b8, b9, b10, b11, b12, b13, b14, b15, b16⟩ := appS_inv hE f6 hp
   have hlook : ∀ j, j ∉ J → look j s.hp = look j s1.hp := fun j hj => by rw [← t3 j hj]; exact hev.2 j
   have hget : ∀ x, x ∈ oa.op.operands.toList → s1.ev x = f (s.ev x) := by
    intro x hx
    refine ev_trim t1 (fun t ht => ?_)
    subst ht
    rw [← hev.1 t, t4 t (fun j hj oj hoj hd' => (hquiet j hj oj hoj).2.2 t hd' (looks_op hx))]
   have hxm : q.x ∈ oa.op.operands.toList := by rw [a5]; exact ops_arg (by rw [a7]; simp)
   have hym : q.y ∈ oa.op.operands.toList := by rw [a5]; exact ops_arg (by rw [a7]; simp)
   have hxs : s.ev q.x = .at_ i p0 := trim_back' t1 ((hget _ hxm).symm.trans b1) (.inl rfl)
   have hyy : s.ev q.y = s1.ev q.y := trim_back' t1 (hget _ hym).symm (app1_shape b13)
   have hes : look i s.hp = some e := (hlook i (fun hm => by
    have := (t2 i hm).1
    rw [b1] at this
    simp only [AV.ment, Nat.beq_refl] at this
    cases this)).trans b3
   have happs : (s.ev q.y).app1 s t0 = some (⟨t0, m⟩, g) := by
    rw [hyy, app1_st (s := s1) (t := s) (fun j hj => hlook j (fun hm => by rw [(t2 j hm).2] at hj; cases hj))]
    exact b13
   have hok : okP e.ty e.x p0 := by
    obtain ⟨e2, u, y2, cs, r1, hok, _⟩ := evx hrs hxs
    rw [hes] at r1; cases r1
    exact hok
   obtain ⟨b, off, hl⟩ := loc_stay (hrs.hs.ob i e hes) hrs.hs.slt b16 hok b7
   obtain ⟨v', w', c1, c2, c3, c4⟩ := append_keep hE hrs a5 a6 a7 a8 b12 b11 hxs hes b16 b7 hl happs b4 b5 b14 b15
   have hl' : Loc w'.heap ι i e p0 = some (b, off) := by obtain ⟨_, h9, _⟩ := c4; exact h9
   have hput : RS B S ι s (a.put (some q.d) v') w' := by
    have h9 := c2.put (d := some q.d) (by rw [hn]; exact a4) (v := .any) (val := v') ⟨v', rfl⟩
    refine rs_eqv (s := s.put (some q.d) .any) (t := s) ⟨fun t => ?_, fun _ => rfl⟩ h9
    rw [look_putS]
    split
    ·rename_i e9; cases e9; exact hany.symm
    ·rfl
   have hval : (a.put (some q.d) v').eval (.tmp q.d) = v' := aput_same (by rw [hrs.sz, hn]; simpa [dstOk, Nat.blt_eq] using a4)
   have hset : (idxs ops.size (listed.setIfInBounds q.k true)).filter (fun j => !(j == n)) = (idxs ops.size listed).filter (fun j => !(j == n) && !(j == q.k)) := idxs_skip hsz hin (fun j => rfl)
   have hnext : wpAny E.P .any ops Q fuel (listed.setIfInBounds q.k true) (a.put (some q.d) v') w' := by
    refine drawn_late hE hn hd hap hA' ho2 hfin hp hQ (i := i) (e := e) (p0 := p0) (t0 := t0) (l := l) (m := m) (g := g) b1 b3 hok b7 b13 (v' := v') fuel (listed.setIfInBounds q.k true) S ι s s' _ w' (by simp [hsz]) (idxs_len hsz hmem hlen) (hcl.set a1 hpre) (listed_set_false (by omega)) (by rw [getD_set_ne true (by omega)]; exact hln) hu (by rw [hset]; exact hcf) (by rw [hset]; exact hrun) hev hput hval ?_
    intro b' off' hb'
    rw [hl'] at hb'; cases hb'
    exact c4
   unfold wpOp
   rw [a1]
   simp only [Region.wanted, a2, if_true]
   refine .inl ?_
   unfold Oper.wp
   rw [c1]
   show wpAny E.P .any ops Q fuel (listed.setIfInBounds q.k true) (a.put oa.dst v') w'
   rw [a3]
   exact hnext
  ·-- another one
   obtain ⟨pre, post, e1, hlt', e2⟩ := idxs_without (f := fun j => !(j == n) && !(j == q.k)) hsz hmem (by simp [hin2, hki])
   rw [e1] at hcf hrun
   have er : rem ops (pre ++ i' :: post) = rem ops pre ++ o :: rem ops post := by simp [rem, List.filterMap_append, ho]
   have er2 : rem ops (pre ++ post) = rem ops pre ++ rem ops post := by simp [rem, List.filterMap_append]
   have hapr : Apart (rem ops (pre ++ i' :: post)) := by
    rw [← e1]
    refine Apart.sub ?_
    have : rem ops (idxs ops.size listed) = rem ops ((List.range ops.size).filter (fun i => !listed.getD i true)) := rfl
    rw [this]
    refine Apart.sub ?_
    have h9 := rem_all (ops := ops)
    rw [idxs_all] at h9
    rw [h9]; exact hap
   have hind : ∀ j ∈ pre, ((masksGo ops.toList []).getD i' 0).testBit j = false ∧ ∀ x, ops[j]? = some x → indep ops x o = true := by
    intro j hj
    have hji : j ∈ idxs ops.size listed := by
     have : j ∈ (idxs ops.size listed).filter (fun j => !(j == n) && !(j == q.k)) := by rw [e1]; simp [hj]
     exact (List.mem_filter.1 this).1
    have hnm : ((masksGo ops.toList []).getD i' 0).testBit j = false := by
     cases hm : ((masksGo ops.toList []).getD i' 0).testBit j with
     | false => rfl
     | true =>
      exfalso
      have hjl := hanc j (mem_idxs.1 hji).1 hm
      have := (mem_idxs.1 hji).2
      rw [getD_flip hjl] at this
      cases this
    refine ⟨hnm, fun x hx => ?_⟩
    rcases (hM i' o ho).2.2 j x (hlt' j hj) hx with hm | hm
    ·rw [hnm] at hm; cases hm
    ·exact hm
   obtain ⟨pp, sa, sb, k1, k2, k3, k4, _⟩ := bubble ho hapr hind hu (hcf.sub (fun y hy => by rw [rem_app]; exact List.mem_append_left _ hy)) hrun
   have hnd : o.dst ≠ some q.d := by
    obtain ⟨o', g1, g2, _⟩ := (hsp i' hlt).2 hki
    rw [ho] at g1; cases g1
    exact g2 q.d a3
   have hany' : look q.d sa.fr = some .any := by
    obtain ⟨v, ids, f, hf, z1, z2, z3, z4, z5⟩ := place_eff (ops := ops) hu k1
    obtain ⟨sa', y1, _, y2⟩ := z5 s hu ((Eqv.refl s).agreeV _ _) z2
    rw [k1] at y1; cases y1
    rw [y2.fr, if_neg hnd, hany]
    simp [z1.plain _ (rfl : AV.plain .any = true)]
   rw [er] at hapr hcf
   have hap2 := Apart.cut hapr
   have hps := place_sound hE hn hrs (ops := ops) o (k := fun x => Tree.cut .skip [] x) (L := fun _ _ x => x = sa) (Rt := fun _ => True) (pl_place.2 ⟨pp, sa, k1, k2, rfl⟩)
    (next := wpAny E.P .any ops Q fuel (listed.setIfInBounds i' true)) (Q := Q) (fun S' ι' x a' w' hx hxe => by
     have hxe : x = sa := hxe
     subst hxe
     refine ih (listed.setIfInBounds i' true) S' ι' x sb a' w' (by simp [hsz]) (idxs_len hsz hmem hlen) (hcl.set ho hpre) (by rw [getD_set_ne true hki]; exact hlk) (by rw [getD_set_ne true hin2]; exact hln) (place_uniq hu k1) ?_ (by rw [e2]; exact k3) (k4.trans hev) hany' hx
     rw [e2, er2]
     exact CleanFor.step hu (fun y hy => hcf y (by simp at hy ⊢; rcases hy with hy | hy <;> simp [hy])) hap2.2 k1)
   unfold wpOp
   rw [ho]
   simp only
   split
   ·rename_i hw; rw [if_pos hw] at hps; exact .inl hps
   ·rename_i hw; rw [if_neg hw] at hps; exact hps

theorem drawn_pend (hE : EnvOk E) (hn : B.n = E.nt) {id : Nat} (hd : (drawOk ops && entryOk ops s && E.P.follows .mixedOrders) = true) {Q : Exit → Act → World → Prop} (hA : AppOp E ops q) {s' : St}
  (hr : RunsA E ops (fun i => (masksGo ops.toList []).getD i 0) [] ((List.range' 0 (ops.toList.length - 1)).filter (fun j => !(j == q.k))) s s') {k : St → Tree (E.rs ++ wts E.ps)} {L : Code → List Item → St → Prop} {R : DL (E.rs ++ wts E.ps) → Prop}
  (hf : FinRun E ops (masksGo ops.toList []) q s' k L R) (hany : look q.d s.fr = some .any)
  (hQ : ∀ S ι s2 a w, RS B S ι s2 a w → (k s2).holds L R → Q .normal a w) (h : RS B S ι s a w) : (Code.region id ops true).wp E.P Q a w := by
 simp only [Bool.and_eq_true, entryOk, List.all_eq_true] at hd
 obtain ⟨⟨h1, ⟨h2, h3⟩, h4⟩, h5⟩ := hd
 refine wp_region_any h5 ?_
 obtain ⟨o2, p, s2, g1, g2, g3, g4⟩ := hf
 obtain ⟨T2, ad, s3, f1, f2, f3, ⟨f4, _⟩, f5, f6, _⟩ := fin_spec g2
 obtain ⟨hns, hkn, _⟩ := pend_spec f4
 have hlen : (idxs ops.size (Array.replicate ops.size false)).length = ops.size := by
  rw [idxs_all]; simp
 have hset : (idxs ops.size (Array.replicate ops.size false)).filter (fun j => !(j == ops.size - 1) && !(j == q.k)) = (List.range' 0 (ops.toList.length - 1)).filter (fun j => !(j == q.k)) := by
  rw [idxs_all, show List.range ops.size = List.range (ops.size - 1) ++ [ops.size - 1] from by rw [← List.range_succ]; congr 1; omega, List.filter_append, List.filter_cons]
  simp only [beq_self_eq_true, Bool.not_true, Bool.false_and, Bool.false_eq_true, if_false, List.filter_nil, List.append_nil, Array.length_toList]
  rw [List.range_eq_range']
  refine List.filter_congr (fun j hj => ?_)
  have : j ≠ ops.size - 1 := by have := (List.mem_range'_1.1 hj).2; omega
  simp [this]
 refine drawn_early (n := ops.size - 1) hE hn h1 (apart_of h3) hA g1 g2 g3 (fun S ι a w hh => hQ S ι _ a w hh g4) ops.size _ S ι s s' a w.drew (by simp) hlen ?_ ?_ ?_ (uniq_of h2) ?_ (by rw [hset]; exact hr) (Eqv.refl _) hany (h.turn Flt.nil Past.drew)
 ·intro k o hk hl
  have : k < ops.size := (Array.getElem?_eq_some_iff.1 hk).1
  simp [this] at hl
 ·have : q.k < ops.size := by omega
  simp [this]
 ·have : ops.size - 1 < ops.size := by omega
  simp [this]
 ·intro o ho d hd
  obtain ⟨j, hj, hjo⟩ := List.mem_filterMap.1 ho
  refine h4 d (dsts_last (l := [j]) (List.mem_filterMap.2 ⟨j, List.mem_filter.2 ⟨by simp, ?_⟩, hjo⟩) hd)
  obtain ⟨hj1, hj2⟩ := List.mem_filter.1 hj
  have := (mem_idxs.1 hj1).1
  simp only [Bool.and_eq_true, Bool.not_eq_true', beq_eq_false_iff_ne, ne_eq] at hj2
  simp; omega
end
end
end Go.Ex
