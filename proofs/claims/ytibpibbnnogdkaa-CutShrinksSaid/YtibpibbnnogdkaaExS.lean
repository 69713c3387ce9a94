import Derived.Test.YtibpibbnnogdkaaExZ
namespace Go.Ex

section
variable {E : Env} {s t : St}

theorem ops_arg {c : Call} {x : Operand} (hx : x ∈ c.args.toList) : x ∈ (Op.call c).operands.toList := by
  simp only [Op.operands, Call.operands]; simp at hx ⊢; first | exact .inr hx | exact .inl hx

/-- a call -/
theorem call_loc {o : Oper} {c : Call} (ho : o.op = .call c) {f : Operand} (hc : c.callee = .value f) {p : Prop} {v : AV} {s1 : St} (h : (aop E o s).get = some (p, v, s1)) : Hangs E o s p v := by
  obtain ⟨g, caps, hg⟩ : ∃ g caps, s.ev f = .clo g caps := by
    unfold aop at h
    rw [ho] at h
    simp only [hc] at h
    split at h
    · exact ⟨_, _, by assumption⟩
    · cases h
  have hfo : f ∈ o.op.operands.toList := by rw [ho]; simp [Op.operands, Call.operands, hc]
  have hxo : ∀ x ∈ c.args.toList, x ∈ o.op.operands.toList := fun x hx => by rw [ho]; exact ops_arg hx
  have he : ∀ t, t.ev f = .clo g caps → aop E o t = callA E g ((t.evs c.args.toList).app caps) o.dst t := by
    intro t ht
    unfold aop
    rw [ho]
    simp only [hc, ht]
  have hT : takes E o s = (match look g E.ctr with
        | some c' => (match c'.ps.any PK.takes with
          | false => []
          | true => ((s.evs c.args.toList).app caps).lent)
        | none => []) := by
    unfold takes; rw [ho]; simp only [hc, hg]; rfl
  rw [he s hg] at h
  have hargs : ∀ i, ((s.evs c.args.toList).app caps).ment i = true → ∃ x ∈ o.op.operands.toList, (s.ev x).ment i = true := by
    intro i hi
    rcases app_ment hi with hi | hi
    · obtain ⟨x, hx, hi⟩ := evs_ment hi; exact ⟨x, hxo x hx, hi⟩
    · exact ⟨f, hfo, by rw [hg]; exact hi⟩
  generalize hav : (s.evs c.args.toList).app caps = av at h hargs hT
  unfold callA at h
  split at h
  · cases h
  · rename_i c' hlk
    rw [hlk] at hT
    simp only at hT
    split at h
    · cases h
    · rename_i x gs m hx
      obtain ⟨hm1, hm2⟩ := asKs_ment hx
      have hgT : ∀ i, i ∈ gs ++ m → i ∈ takes E o s := by
        intro i hi
        rw [hT]
        cases hp : c'.ps.any PK.takes with
        | true => exact lent_ment.2 (hm1 i hi)
        | false => obtain ⟨r1, r2⟩ := hm2 hp; rw [r1, r2] at hi; cases hi
      split at h
      · cases h
      · rename_i hcond
        obtain ⟨hcond1, hcond2⟩ := (Bool.and_eq_true_iff).1 hcond
        obtain ⟨hnm, hnr⟩ := (Bool.and_eq_true_iff).1 hcond2
        split at h
        · cases h
        · rename_i s2 hwr
          split at h
          · cases h
          · rename_i hm
            split at h
            · rename_i l hp hlay
              simp only [OR.get, Option.some.injEq, Prod.mk.injEq] at h
              obtain ⟨rfl, rfl, _⟩ := h
              obtain ⟨k3, h3, k4⟩ := layRes_loc hlay
              simp only [Nat.zero_add, Nat.zero_le, true_and] at k3 k4
              have hids : ∀ {t : St}, NewIds t ((List.range c'.rs.length).map (rid (o.dst.getD 0))) → ∀ k, k < c'.rs.length → look (rid (o.dst.getD 0) k) t.hp = none := fun hn k hk => (hn _ (List.mem_map.2 ⟨k, by simpa using hk, rfl⟩)).1
              -- what is written, and by what the slots turn
              have hw : ∃ (f : AV → AV) (h : Nat → Option Ent), Trim (takes E o s) f ∧ (∀ i, i ∉ takes E o s → h i = none) ∧ ∀ t, uniq t.fr → (∀ i ∈ takes E o s, look i t.hp = look i s.hp) → ∃ t2, wr c'.ps (c'.out x) m (St.drops gs t) = some t2 ∧ uniq t2.fr ∧ (∀ n, look n t2.fr = (look n t.fr).map f) ∧ ∀ i, look i t2.hp = if i ∈ takes E o s then h i else look i t.hp := by
                rcases wr_loc hwr with ⟨rfl, hw⟩ | ⟨i0, ow, e, rfl, hw⟩
                · refine ⟨dropsF gs, fun i => if i ∈ takes E o s then (if i ∈ gs then none else look i s.hp) else none, (Trim.drops gs).mono (fun i hi => hgT i (by simp [hi])), fun i hi => by simp [hi], fun t hu ha => ⟨_, hw _, uniq_drops hu, fun n => look_drops, fun i => ?_⟩⟩
                  rw [drops_look]
                  by_cases h1 : i ∈ gs
                  · simp [h1, hgT i (by simp [h1])]
                  · by_cases h2 : i ∈ takes E o s
                    · simp [h1, h2, ha i h2]
                    · simp [h1, h2]
                · have hi0 : i0 ∈ takes E o s := hgT i0 (by simp)
                  refine ⟨fun u => AV.map (AV.killR1 i0 ow) (dropsF gs u), fun i => if i ∈ takes E o s then (if i = i0 then some e else if i ∈ gs then none else look i s.hp) else none,
                    Trim.comp (Trim.drops gs) (Trim.killR i0 ow) (fun i hi => hgT i (by simp [hi])) (by simpa using hi0), fun i hi => by simp [hi], fun t hu ha => ⟨_, hw _, uniq_mapA (uniq_drops hu), fun n => ?_, fun i => ?_⟩⟩
                  · show look n (mapA _ (St.drops gs t).fr) = _
                    rw [look_mapA, look_drops, Option.map_map]; rfl
                  · show look i (Ex.put i0 e (St.drops gs t).hp) = _
                    rw [look_put, drops_look]
                    by_cases h0 : i = i0
                    · subst h0; simp [hi0]
                    · by_cases h1 : i ∈ gs
                      · simp [h0, h1, hgT i (by simp [h1])]
                      · by_cases h2 : i ∈ takes E o s
                        · simp [h0, h1, h2, ha i h2]
                        · simp [h0, h1, h2]
              obtain ⟨f0, h0, w1, w2, w3⟩ := hw
              refine ⟨(List.range c'.rs.length).map (rid (o.dst.getD 0)), f0, fun i => match h3 i with | some e => some e | none => h0 i, w1, ?_, ?_, ?_, ?_⟩
              · intro n hn
                obtain ⟨k, hk, rfl⟩ := List.mem_map.1 hn
                exact ⟨nonesR_iff.1 hnr k (by simpa using hk), fun m w hw => look_noMent (noMents_all hnm k (by simpa using hk)) hw⟩
              · intro n hn
                obtain ⟨k, _, rfl⟩ := List.mem_map.1 hn
                exact rid_mod _ _
              · intro i hi
                obtain ⟨k, m2, rfl⟩ := k3 i (one_ment hi)
                exact .inr (List.mem_map.2 ⟨k, by simpa using m2, rfl⟩)
              · intro t hu ha hn
                have hal : Alike s t av := fun i hi => by obtain ⟨x, hx, hm⟩ := hargs i hi; exact (ha x hx).2 i hm
                obtain ⟨t2, e1, e2, e3, e4⟩ := w3 t hu (fun i hi => takes_obj ha hi)
                have hT0 : ∀ k, k < c'.rs.length → rid (o.dst.getD 0) k ∉ takes E o s := by
                  intro k hk hmem
                  obtain ⟨x, hx, hm⟩ := takes_ment hmem
                  obtain ⟨m', rfl, hm'⟩ : ∃ m', x = .tmp m' ∧ (s.get m').ment (rid (o.dst.getD 0) k) = true := by
                    cases x with
                    | tmp m' => exact ⟨m', rfl, hm⟩
                    | const v =>
                      exfalso
                      simp only [St.ev] at hm
                      unfold ofConst at hm
                      split at hm
                      · split at hm <;> cases hm
                      · cases hm
                      · split at hm <;> cases hm
                      · cases hm
                    | global g => cases hm
                    | func f => cases hm
                  simp only [St.get] at hm'
                  cases hl : look m' s.fr with
                  | none => rw [hl] at hm'; cases hm'
                  | some w =>
                    rw [hl] at hm'
                    have := look_noMent (noMents_all hnm k hk) hl
                    simp only [Option.getD_some] at hm'
                    rw [hm'] at this; cases this
                have hnone : ∀ k, k < c'.rs.length → look (rid (o.dst.getD 0) k) t2.hp = none := by
                  intro k hk
                  rw [e4, if_neg (hT0 k hk)]
                  exact hids hn k hk
                obtain ⟨h2', r1, r2⟩ := k4 t2.hp (fun k _ hk => hnone k hk)
                have hm' : noMents (o.dst.getD 0) c'.rs.length t2.fr = true := noMents_mk (fun k hk => noMent_mk e2 (fun n w hw => by
                  rw [e3] at hw
                  cases hl : look n t.fr with
                  | none => rw [hl] at hw; cases hw
                  | some u =>
                    rw [hl] at hw
                    cases hw
                    cases hmm : (f0 u).ment (rid (o.dst.getD 0) k) with
                    | false => rfl
                    | true =>
                      have := (hn (rid (o.dst.getD 0) k) (List.mem_map.2 ⟨k, by simpa using hk, rfl⟩)).2 n u hl
                      rw [w1.ment u hmm] at this; cases this))
                have hnm' : noMents (o.dst.getD 0) c'.rs.length t.fr = true := noMents_mk (fun k hk => noMent_mk hu (hn _ (List.mem_map.2 ⟨k, by simpa using hk, rfl⟩)).2)
                have hnr' : nonesR (o.dst.getD 0) c'.rs.length t.hp = true := nonesR_iff.2 (fun k hk => hids hn k hk)
                have hev : (t.evs c.args.toList).app caps = av := by
                  rw [evs_st (s := s) (t := t) (fun x hx => (ha x (hxo x hx)).1)]; exact hav
                have hca : callA E g av o.dst t = .okN (c'.pre x) l.one { t2 with hp := h2' } := by
                  unfold callA
                  simp only [hlk, asKs_st (s := s) (t := t) hal, hx, hcond1, hnm', hnr', Bool.and_self, e1, hm', r1]
                refine ⟨{ t2 with hp := h2' }, ?_, e2, ⟨e3, fun i => ?_⟩⟩
                · rw [he t ((ha f hfo).1.trans hg), hev, hca]; rfl
                · show look i h2' = _
                  rw [(r2 i).1, e4]
                  cases hh : h3 i with
                  | some e =>
                    obtain ⟨k, hk, hik⟩ := (r2 i).2 (by rw [hh]; rfl)
                    simp only
                    rw [if_pos (.inr (List.mem_map.2 ⟨k, by simpa using hk, hik.symm⟩))]
                  | none =>
                    simp only
                    by_cases h1 : i ∈ takes E o s
                    · rw [if_pos h1, if_pos (.inl h1)]
                    · rw [if_neg h1]
                      split
                      · rename_i hi
                        rcases hi with hi | hi
                        · exact absurd hi h1
                        · obtain ⟨k, hk, rfl⟩ := List.mem_map.1 hi
                          rw [hids hn k (by simpa using hk), w2 _ h1]
                      · rfl
            · cases h

end
end Go.Ex
