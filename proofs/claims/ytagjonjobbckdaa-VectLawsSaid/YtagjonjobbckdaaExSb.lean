import Derived.Test.YtagjonjobbckdaaExSa
namespace Go.Ex

section
variable {E : Env} {ops : Array Oper} {s t : St}

theorem clean_ment : ∀ {v : AV} {i : Nat}, v.clean = true → v.ment i = false := by
  intro v
  induction v with
  | cons a b iha ihb =>
    intro i h
    simp only [AV.clean, Bool.and_eq_true] at h
    simp [AV.ment, iha h.1, ihb h.2]
  | tup l ih => intro i h; exact ih h
  | clo f l ih => intro i h; exact ih h
  | ptr i p => intro i h; cases h
  | at_ i p => intro i h; cases h
  | _ => intro i h; rfl

theorem get_some {m : Nat} {v : AV} (h : look m s.fr = some v) : s.get m = v := by simp [St.get, h]
theorem get_ment {m i : Nat} (h : (s.get m).ment i = true) : ∃ v, look m s.fr = some v ∧ v.ment i = true := by
  simp only [St.get] at h
  cases hl : look m s.fr with
  | none => rw [hl] at h; cases h
  | some v => rw [hl] at h; exact ⟨v, rfl, h⟩

theorem get_putS {m : Nat} {d : Option Nat} {v : AV} (h : d ≠ some m) : (s.put d v).get m = s.get m := by
  simp only [St.get, look_putS, if_neg h]

theorem indep_spec {x y : Oper} (h : indep ops x y = true) : writes x = false ∧ writes y = false ∧ (∀ d, x.dst = some d → d ∉ looks ops y) ∧ (∀ d, y.dst = some d → d ∉ looks ops x) ∧ (x.dst.getD 0) % 1000 ≠ (y.dst.getD 0) % 1000 := by
  simp only [indep, Bool.and_eq_true, Bool.not_eq_true', apartB] at h
  obtain ⟨⟨⟨h1, h2⟩, h3, h4⟩, h5⟩ := h
  refine ⟨h1, h2, ?_, ?_, fun e => ?_⟩
  · intro d hd
    rw [hd] at h3
    simp only [Bool.and_eq_true, Bool.not_eq_true'] at h3
    intro hm
    have := h3.1
    simp [hm] at this
  · intro d hd
    rw [hd] at h4
    simp only [Bool.not_eq_true'] at h4
    intro hm
    simp [hm] at h4
  · rw [e] at h5
    simp at h5

/-- two operations that do not touch one another, the other way round -/
theorem swap {x y : Oper} (hi : indep ops x y = true) (hu : uniq s.fr) (hx : ∀ d, x.dst = some d → (s.get d).clean = true) {p q : Prop} {s1 s2 : St} (h1 : placeR E ops x s = some (p, s1)) (h2 : placeR E ops y s1 = some (q, s2)) (hu1 : uniq s1.fr) :
    ∃ s1' s2', placeR E ops y s = some (q, s1') ∧ placeR E ops x s1' = some (p, s2') ∧ uniq s1'.fr ∧ uniq s2'.fr ∧ Eqv s2' s2 := by
  obtain ⟨wx, wy, ax, ay, hmod⟩ := indep_spec hi
  obtain ⟨v, new, ids, k1, k2, k3, k4, k5, k6⟩ := place_eff wx hu h1
  obtain ⟨v', new', ids', m1, m2, m3, m4, m5, m6⟩ := place_eff wy hu1 h2
  have hdd : ∀ d, x.dst = some d → y.dst = some d → False := fun d e1 e2 => hmod (by rw [e1, e2])
  have hget : ∀ m ∈ looks ops y, s1.get m = s.get m := by
    intro m hm
    rw [k1.get, get_putS (fun e => ax m e hm)]
    rfl
  have hnew : ∀ i, (∃ m, (s.get m).ment i = true) → ∀ r ∈ new, r.1 ≠ i := by
    rintro i ⟨m, hm⟩ r hr rfl
    obtain ⟨w, hw, hwi⟩ := get_ment hm
    rw [k2.fr r.1 (k3 r hr) m w hw] at hwi
    cases hwi
  have hlook : ∀ i, (∀ r ∈ new, r.1 ≠ i) → look i s1.hp = look i s.hp := by
    intro i hi
    rw [k1.2, hp_putS]
    exact look_adds_none hi
  have hag : AgreeS s1 s (looks ops y) := by
    intro m hm
    refine ⟨(hget m hm).symm, fun i hi => ?_⟩
    rw [hget m hm] at hi
    exact (hlook i (hnew i ⟨m, hi⟩)).symm
  have hfr' : FreshL s new' ids' := by
    refine ⟨fun r hr => ?_, fun n hn m w hw => ?_⟩
    · have := m2.hp r hr
      by_cases hc : ∃ r' ∈ new, r'.1 = r.1
      · exfalso
        obtain ⟨e, he⟩ := look_adds_some (h := s.hp) hc
        rw [k1.2, hp_putS] at this
        rw [show (s.adds new).hp = addsHp new s.hp from rfl, he] at this
        cases this
      · rw [hlook r.1 (fun r' hr' e => hc ⟨r', hr', e⟩)] at this
        exact this
    · by_cases hd : x.dst = some m
      · have := hx m hd
        rw [get_some hw] at this
        exact clean_ment this
      · refine m2.fr n hn m w ?_
        rw [k1.1, look_putS, if_neg hd]
        exact hw
  obtain ⟨s1', e1, eu, e2⟩ := m6 s hu hag hfr'
  have hget2 : ∀ m ∈ looks ops x, s1'.get m = s.get m := by
    intro m hm
    rw [e2.get, get_putS (fun e => ay m e hm)]
    rfl
  have hnew' : ∀ i, (∃ m, (s.get m).ment i = true) → ∀ r ∈ new', r.1 ≠ i := by
    rintro i ⟨m, hm⟩ r hr rfl
    obtain ⟨w, hw, hwi⟩ := get_ment hm
    rw [hfr'.fr r.1 (m3 r hr) m w hw] at hwi
    cases hwi
  have hkeys : ∀ r ∈ new, ∀ r' ∈ new', r'.1 ≠ r.1 := by
    intro r hr r' hr' e
    have a1 := k4 r.1 (k3 r hr)
    have a2 := m4 r'.1 (m3 r' hr')
    rw [e, a1] at a2
    exact hmod a2
  have hag2 : AgreeS s s1' (looks ops x) := by
    intro m hm
    refine ⟨hget2 m hm, fun i hi => ?_⟩
    show look i s1'.hp = look i s.hp
    rw [e2.2, hp_putS]
    exact look_adds_none (hnew' i ⟨m, hi⟩)
  have hfr2 : FreshL s1' new ids := by
    refine ⟨fun r hr => ?_, fun n hn m w hw => ?_⟩
    · rw [e2.2, hp_putS]
      rw [show look r.1 (s.adds new').hp = look r.1 s.hp from look_adds_none (fun r' hr' => hkeys r hr r' hr')]
      exact k2.hp r hr
    · rw [e2.1, look_putS] at hw
      split at hw
      · cases hw
        cases hm : v'.ment n with
        | false => rfl
        | true =>
          exfalso
          rcases m5 n hm with ⟨m', hm', hmi⟩ | hmi
          · rw [hget m' hm'] at hmi
            obtain ⟨w', hw', hwi⟩ := get_ment hmi
            rw [k2.fr n hn m' w' hw'] at hwi
            cases hwi
          · have a1 := k4 n hn
            have a2 := m4 n hmi
            exact hmod (a1.symm.trans a2)
      · exact k2.fr n hn m w hw
  obtain ⟨s2', f1, fu, f2⟩ := k6 s1' eu hag2 hfr2
  refine ⟨s1', s2', e1, f1, eu, fu, f2.trans (Eqv.trans ?_ m1.symm)⟩
  refine ⟨fun n => ?_, fun i => ?_⟩
  · rw [look_putS, look_putS]
    show (if x.dst = some n then some v else look n s1'.fr) = (if y.dst = some n then some v' else look n s1.fr)
    rw [e2.1, k1.1, look_putS, look_putS]
    by_cases a : x.dst = some n
    · rw [if_pos a, if_neg (fun b => hdd n a b), if_pos a]
    · rw [if_neg a, if_neg a]; rfl
  · rw [hp_putS, hp_putS]
    show look i (addsHp new s1'.hp) = look i (addsHp new' s1.hp)
    rw [look_adds_congr (new := new) (h' := addsHp new' s.hp) (by rw [e2.2, hp_putS]; rfl), look_adds_congr (new := new') (h' := addsHp new s.hp) (by rw [k1.2, hp_putS]; rfl)]
    by_cases c1 : ∃ r ∈ new, r.1 = i
    · obtain ⟨r, hr, rfl⟩ := c1
      rw [look_adds_none (new := new') (fun r' hr' => hkeys r hr r' hr')]
      exact look_adds_congr (look_adds_none (new := new') (fun r' hr' => hkeys r hr r' hr'))
    · rw [look_adds_none (new := new) (fun r hr e => c1 ⟨r, hr, e⟩)]
      exact look_adds_congr (look_adds_none (new := new) (fun r hr e => c1 ⟨r, hr, e⟩)).symm

theorem look_kill {i n : Nat} {q : List Step} : look n (s.kill i q).fr = (look n s.fr).map (AV.kill i q) := look_mapA n _ _

theorem uniq_mapA {f : AV → AV} : ∀ {l : List (Nat × AV)}, uniq l → uniq (mapA f l)
  | [], _ => trivial
  | (n, x) :: l, ⟨h1, h2⟩ => ⟨by rw [look_mapA, h1]; rfl, uniq_mapA h2⟩

theorem storeA_eqv {T : TypeId} {i : Nat} {p : List Step} {x : AV} (ho : t.obj i = s.obj i) {q : Prop} {v : AV} {s1 : St} (h : (storeA E T i p x s).get = some (q, v, s1)) :
    ∃ e, s1 = (s.kill i p).putE i e ∧ (storeA E T i p x t).get = some (q, v, (t.kill i p).putE i e) := by
  unfold storeA at h ⊢
  rw [ho]
  repeat' (split at h)
  all_goals first
    | (cases h; done)
    | (simp only [OR.get, Option.some.injEq, Prod.mk.injEq] at h
       obtain ⟨rfl, rfl, rfl⟩ := h
       refine ⟨_, rfl, ?_⟩
       first | rfl | (simp only [*]; rfl) | (simp [*, OR.get]; done))

def Known (o : Oper) : Prop := writes o = false ∨ ∃ T a x, o.op = .store T a x

theorem known_spec {o : Oper} (h : known o = true) : Known o := by
  simp only [known, Bool.or_eq_true, Bool.not_eq_true'] at h
  rcases h with h | h
  · exact .inl h
  · cases ho : o.op <;> rw [ho] at h <;> first | cases h | exact .inr ⟨_, _, _, rfl⟩ | skip
    exact .inr ⟨_, _, _, ho⟩

theorem clean_map {fp fa : Nat → List Step → AV} : ∀ {v : AV}, v.clean = true → v.map fp fa = v := by
  intro v
  induction v with
  | cons a b iha ihb =>
    intro h
    simp only [AV.clean, Bool.and_eq_true] at h
    simp only [AV.map, iha h.1, ihb h.2]
  | tup l ih => intro h; simp only [AV.map, ih h]
  | clo f l ih => intro h; simp only [AV.map, ih h]
  | ptr i p => intro h; cases h
  | at_ i p => intro h; cases h
  | _ => intro _; rfl

/-- a store, as a step -/
theorem store_run {o : Oper} {T : TypeId} {a x : Operand} (ho : o.op = .store T a x) {p : Prop} {s1 : St} (h : runR E o s = some (p, s1)) :
    ∃ i q e, s1 = ((s.kill i q).putE i e).put o.dst (.raw undef) ∧ ∀ t, Eqv s t → runR E o t = some (p, ((t.kill i q).putE i e).put o.dst (.raw undef)) := by
  have hd : dstOk E.nt o.dst = true := by
    unfold runR at h
    split at h
    · cases h
    · assumption
  have hr : ∀ t, runR E o t = (match (aop E o t).get with | none => none | some (p, v, s') => some (p, s'.put o.dst v)) := by
    intro t
    unfold runR
    rw [hd, ho]
    rfl
  rw [hr] at h
  split at h
  · cases h
  · rename_i p' v s' hg
    cases h
    have hptr : ∃ i q, s.ev a = .ptr i q := by
      unfold aop at hg
      rw [ho] at hg
      simp only at hg
      split at hg
      · exact ⟨_, _, by assumption⟩
      · cases hg
    obtain ⟨i, q, hp⟩ := hptr
    have ha : ∀ t, t.ev a = .ptr i q → aop E o t = storeA E T i q (t.ev x) t := by
      intro t ht
      unfold aop
      rw [ho]
      simp only [ht]
    rw [ha s hp] at hg
    have hv : v = .raw undef := by
      clear hr
      unfold storeA at hg
      repeat' (split at hg)
      all_goals first | (cases hg; done) | (cases hg; rfl)
    subst hv
    obtain ⟨e, rfl, _⟩ := storeA_eqv (t := s) rfl hg
    refine ⟨i, q, e, rfl, fun t ht => ?_⟩
    obtain ⟨e', h1, h2⟩ := storeA_eqv (s := s) (t := t) (ht.2 i).symm hg
    have : e' = e := by
      have h3 := congrArg (fun s : St => look i s.hp) h1
      simpa [St.putE, look_put] using h3.symm
    subst this
    rw [hr, ha t ((ht.ev a).symm.trans hp), ← ht.ev x, h2]

theorem Eqv.store (h : Eqv s t) (i : Nat) (q : List Step) (e : Ent) : Eqv ((s.kill i q).putE i e) ((t.kill i q).putE i e) :=
  ⟨fun n => by show look n (s.kill i q).fr = look n (t.kill i q).fr; rw [look_kill, look_kill, h.1 n], fun j => by show look j (Ex.put i e s.hp) = look j (Ex.put i e t.hp); rw [look_put, look_put, h.2 j]⟩

/-- steps of states that are alike -/
theorem runR_eqv {o : Oper} (ho : Known o) (he : Eqv s t) (ht : uniq t.fr) {p : Prop} {s1 : St} (h : runR E o s = some (p, s1)) : ∃ t1, runR E o t = some (p, t1) ∧ uniq t1.fr ∧ Eqv s1 t1 := by
  rcases ho with hw | ⟨T, a, x, ho⟩
  · obtain ⟨v, new, ids, k1, k2, k3, k4, k5, k6⟩ := runR_eff hw h (L := o.op.operands.toList.filterMap fun | .tmp t => some t | _ => none) (fun m hm => List.mem_filterMap.2 ⟨_, hm, rfl⟩)
    obtain ⟨t1, e1, e2, e3⟩ := k6 t ht (he.agreeS _) (k2.eqv he)
    exact ⟨t1, e1, e2, k1.trans (((he.adds new).put _ _).trans e3.symm)⟩
  · obtain ⟨i, q, e, rfl, h2⟩ := store_run ho h
    exact ⟨_, h2 t he, uniq_putS (s := (t.kill i q).putE i e) (uniq_mapA ht), (he.store i q e).put _ _⟩

theorem runR_clean {o : Oper} (ho : Known o) {p : Prop} {s1 : St} (h : runR E o s = some (p, s1)) {m : Nat} (hm : o.dst ≠ some m) (hc : (s.get m).clean = true) : (s1.get m).clean = true := by
  rcases ho with hw | ⟨T, a, x, ho⟩
  · obtain ⟨v, new, ids, k1, _⟩ := runR_eff hw h (L := o.op.operands.toList.filterMap fun | .tmp t => some t | _ => none) (fun m hm => List.mem_filterMap.2 ⟨_, hm, rfl⟩)
    rw [k1.get, get_putS hm]; exact hc
  · obtain ⟨i, q, e, rfl, _⟩ := store_run ho h
    rw [get_putS hm]
    have : (((s.kill i q).putE i e).get m) = s.get m := by
      simp only [St.get, St.putE, look_kill]
      cases hl : look m s.fr with
      | none => rfl
      | some v =>
        rw [get_some hl] at hc
        exact clean_map hc
    rw [this]; exact hc

end
end Go.Ex
