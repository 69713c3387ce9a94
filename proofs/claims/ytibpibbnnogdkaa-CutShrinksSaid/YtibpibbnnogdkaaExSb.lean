import Derived.Test.YtibpibbnnogdkaaExSa
namespace Go.Ex

section
variable {E : Env} {ops : Array Oper} {s t : St}

theorem get_some {m : Nat} {v : AV} (h : look m s.fr = some v) : s.get m = v := by simp [St.get, h]
theorem get_ment {m i : Nat} (h : (s.get m).ment i = true) : ∃ v, look m s.fr = some v ∧ v.ment i = true := by
  simp only [St.get] at h
  cases hl : look m s.fr with
  | none => rw [hl] at h; cases h
  | some v => rw [hl] at h; exact ⟨v, rfl, h⟩

theorem indep_spec {x y : Oper} (h : indep ops x y = true) : (∀ d, x.dst = some d → d ∉ looks ops y) ∧ (∀ d, y.dst = some d → d ∉ looks ops x) ∧ (x.dst.getD 0) % 1000 ≠ (y.dst.getD 0) % 1000 := by
  simp only [indep, Bool.and_eq_true, Bool.not_eq_true', apartB] at h
  obtain ⟨⟨h3, h4⟩, h5⟩ := h
  refine ⟨?_, ?_, fun e => ?_⟩
  · intro d hd
    rw [hd] at h3
    simp only [Bool.and_eq_true, Bool.not_eq_true'] at h3
    intro hm
    have := h3.1
    simp [hm] at this
  · intro d hd
    rw [hd] at h4
    simp only [Bool.not_eq_true'] at h4
    intro hm
    simp [hm] at h4
  · rw [e] at h5
    simp at h5

theorem new_ment {ids : List Nat} (hn : NewIds s ids) {n m : Nat} (h : n ∈ ids) : (s.get m).ment n = false := by
  cases hm : (s.get m).ment n with
  | false => rfl
  | true =>
    obtain ⟨v, hv, hvi⟩ := get_ment hm
    rw [(hn n h).2 m v hv] at hvi; cases hvi

theorem ref_one {u : AV} (hr : u.ref = true) {i j : Nat} (h1 : u.ment i = true) (h2 : u.ment j = true) : i = j := by
  cases u <;> simp only [AV.ref] at hr <;> first | (cases hr; done) | (simp only [AV.ment] at h1 h2; exact (Nat.eq_of_beq_eq_true h1).trans (Nat.eq_of_beq_eq_true h2).symm)

theorem plain_ment {u : AV} (h : u.plain = true) {i : Nat} : u.ment i = false := by
  cases u <;> simp only [AV.plain] at h <;> first | rfl | (cases h; done)

theorem Trim.stay {T : List Nat} {f : AV → AV} (hf : Trim T f) {n : Nat} (hn : n ∉ T) : ∀ u : AV, u.ment n = true → (f u).ment n = true := by
  refine AV.shape _ (fun u hu h => ?_) (fun u hu h => ?_) ?_ ?_ ?_
  · rw [plain_ment hu] at h; cases h
  · rw [hf.keep u hu (fun i hi => ?_)]
    · exact h
    · cases hm : u.ment i with
      | false => rfl
      | true => exact absurd (ref_one hu hm h ▸ hi) hn
  · intro a b ha hb h
    rw [hf.cons]
    simp only [AV.ment, Bool.or_eq_true] at h ⊢
    exact h.imp ha hb
  · intro l hl h; rw [hf.tup]; exact hl h
  · intro k l hl h; rw [hf.clo]; exact hl h

/-- two operations that do not touch one another, the other way round -/
theorem swap {x y : Oper} (hi : indep ops x y = true) (hu : uniq s.fr) (hx : ∀ d, x.dst = some d → (s.get d).clean = true) {p q : Prop} {s1 s2 : St} (h1 : placeR E ops x s = some (p, s1)) (h2 : placeR E ops y s1 = some (q, s2))
    (hP : PairP ops x s (takes E x s) y (takes E y s1)) :
    ∃ s1' s2', placeR E ops y s = some (q, s1') ∧ placeR E ops x s1' = some (p, s2') ∧ uniq s1'.fr ∧ uniq s2'.fr ∧ Eqv s2' s2 ∧ takes E y s = takes E y s1 ∧ takes E x s1' = takes E x s ∧
      (∀ m ∈ looks ops x, s1'.get m = s.get m) ∧ ∀ m, ∀ i ∈ takes E x s, (s1'.get m).ment i = true → (s.get m).ment i = true := by
  obtain ⟨ax, ay, hmod⟩ := indep_spec hi
  obtain ⟨P1, P2, P3⟩ := hP
  have hu1 := place_uniq hu h1
  obtain ⟨v, ids, f, g, k1, k2, k3, k4, k5⟩ := place_eff hu h1
  obtain ⟨_, e1, _, hs1⟩ := k5 s hu ((Eqv.refl s).agreeS _) k2
  rw [h1] at e1; cases e1
  obtain ⟨v', ids', f', g', m1, m2, m3, m4, m5⟩ := place_eff hu1 h2
  obtain ⟨_, e2, _, hs2⟩ := m5 s1 hu1 ((Eqv.refl s1).agreeS _) m2
  rw [h2] at e2; cases e2
  have hdd : ∀ d, x.dst = some d → y.dst = some d → False := fun d e1 e2 => hmod (by rw [e1, e2])
  -- what y looks at has not turned
  have hget : ∀ m ∈ looks ops y, s1.get m = s.get m := by
    intro m hm
    rw [hs1.get k1 (fun e => ax m e hm), k1.fix _ (fun i hi => P1 m hm i hi)]
  have hTy : takes E y s = takes E y s1 := (takes_get hget).symm
  have hTy2 : ∀ i ∈ takes E y s1, ∃ m ∈ looks ops y, (s.get m).ment i = true := by
    intro i hi
    obtain ⟨m, hm, hmi⟩ := takes_look (ops := ops) hi
    exact ⟨m, hm, by rw [← hget m hm]; exact hmi⟩
  have hTx2 : ∀ i ∈ takes E x s, ∃ m ∈ looks ops x, (s.get m).ment i = true := fun i hi => takes_look (ops := ops) hi
  have d1 : ∀ i ∈ takes E x s, i ∉ takes E y s1 := by
    intro i hi hj
    obtain ⟨m, hm, hmi⟩ := hTy2 i hj
    rw [P1 m hm i hi] at hmi; cases hmi
  have d2 : ∀ i ∈ ids, i ∉ takes E y s1 := by
    intro i hi hj
    obtain ⟨m, hm, hmi⟩ := hTy2 i hj
    rw [new_ment k2 hi] at hmi; cases hmi
  have d3 : ∀ i ∈ takes E x s, i ∉ ids' := fun i hi hj => P3 i hi (m3 i hj)
  have d4 : ∀ i ∈ ids, i ∉ ids' := fun i hi hj => hmod ((k3 i hi).symm.trans (m3 i hj))
  have hlook : ∀ i, i ∉ takes E x s → i ∉ ids → look i s1.hp = look i s.hp := fun i h1 h2 => by rw [hs1.hp, if_neg (by rintro (h | h); exact h1 h; exact h2 h)]
  have hag : AgreeS s1 s (looks ops y) := by
    intro m hm
    refine ⟨(hget m hm).symm, fun i hi => ?_⟩
    rw [hget m hm] at hi
    refine (hlook i (fun h => ?_) (fun h => ?_)).symm
    · rw [P1 m hm i h] at hi; cases hi
    · rw [new_ment k2 h] at hi; cases hi
  have hfr' : NewIds s ids' := by
    intro n hn
    refine ⟨?_, fun m w hw => ?_⟩
    · rw [← hlook n (fun h => d3 n h hn) (fun h => d4 n h hn)]; exact (m2 n hn).1
    · by_cases hd : x.dst = some m
      · have := hx m hd
        rw [get_some hw] at this
        exact clean_ment this
      · cases hwn : w.ment n with
        | false => rfl
        | true =>
          have := k1.stay (fun h => d3 n h hn) w hwn
          have h3 := (m2 n hn).2 m (f w) (by rw [hs1.fr, if_neg hd, hw]; rfl)
          rw [this] at h3; cases h3
  obtain ⟨s1', f1, fu, hs1'⟩ := m5 s hu hag hfr'
  have hget2 : ∀ m ∈ looks ops x, s1'.get m = s.get m := by
    intro m hm
    rw [hs1'.get m1 (fun e => ay m e hm), m1.fix _ (fun i hi => P2 m hm i hi)]
  have hag2 : AgreeS s s1' (looks ops x) := by
    intro m hm
    refine ⟨hget2 m hm, fun i hi => ?_⟩
    show look i s1'.hp = look i s.hp
    rw [hs1'.hp, if_neg]
    rintro (h | h)
    · rw [P2 m hm i h] at hi; cases hi
    · rw [new_ment hfr' h] at hi; cases hi
  -- what y yields speaks of nothing that x takes or lays
  have hv' : ∀ i, v'.ment i = true → i ∉ takes E x s ∧ i ∉ ids := by
    intro i hi
    rcases m4 i hi with ⟨m, hm, hmi⟩ | hmi
    · rw [hget m hm] at hmi
      refine ⟨fun h => ?_, fun h => ?_⟩
      · rw [P1 m hm i h] at hmi; cases hmi
      · rw [new_ment k2 h] at hmi; cases hmi
    · exact ⟨fun h => d3 i h hmi, fun h => d4 i h hmi⟩
  have hv : ∀ i, v.ment i = true → i ∉ takes E y s1 := by
    intro i hi
    rcases k4 i hi with ⟨m, hm, hmi⟩ | hmi
    · exact fun h => by rw [P2 m hm i h] at hmi; cases hmi
    · exact d2 i hmi
  have hfr2 : NewIds s1' ids := by
    intro n hn
    refine ⟨?_, fun m w hw => ?_⟩
    · rw [hs1'.hp, if_neg]
      · exact (k2 n hn).1
      · rintro (h | h)
        · exact d2 n hn h
        · exact d4 n hn h
    · rw [hs1'.fr] at hw
      split at hw
      · cases hw
        cases hm : v'.ment n with
        | false => rfl
        | true => exact absurd hn (hv' n hm).2
      · cases hl : look m s.fr with
        | none => rw [hl] at hw; cases hw
        | some u =>
          rw [hl] at hw
          cases hw
          cases hm : (f' u).ment n with
          | false => rfl
          | true => have := m1.ment u hm; rw [(k2 n hn).2 m u hl] at this; cases this
  obtain ⟨s2', g1, gu, hs2'⟩ := k5 s1' fu hag2 hfr2
  refine ⟨s1', s2', f1, g1, fu, gu, ⟨fun n => ?_, fun i => ?_⟩, hTy, takes_get hget2, hget2, ?_⟩
  · rw [hs2'.fr, hs2.fr, hs1'.fr, hs1.fr]
    by_cases a : x.dst = some n
    · rw [if_pos a, if_neg (fun b => hdd n a b), if_pos a, Option.map_some, m1.fix v]
      intro i hi
      cases hm : v.ment i with
      | false => rfl
      | true => exact absurd hi (hv i hm)
    · rw [if_neg a, if_neg a]
      by_cases b : y.dst = some n
      · rw [if_pos b, if_pos b, Option.map_some, k1.fix v']
        intro i hi
        cases hm : v'.ment i with
        | false => rfl
        | true => exact absurd hi (hv' i hm).1
      · rw [if_neg b, if_neg b, Option.map_map, Option.map_map]
        congr 1
        funext u
        exact k1.comm m1 u
  · rw [hs2'.hp, hs2.hp, hs1'.hp, hs1.hp]
    by_cases a : i ∈ takes E x s ∨ i ∈ ids
    · rw [if_pos a, if_neg, if_pos a]
      rintro (b | b)
      · rcases a with a | a
        · exact d1 i a b
        · exact d2 i a b
      · rcases a with a | a
        · exact d3 i a b
        · exact d4 i a b
    · rw [if_neg a, if_neg a]
  · intro m i hi hm
    by_cases b : y.dst = some m
    · have : s1'.get m = v' := get_some (by rw [hs1'.fr, if_pos b])
      rw [this] at hm
      exact absurd hi (hv' i hm).1
    · rw [hs1'.get m1 b] at hm
      exact m1.ment _ hm

end
end Go.Ex
