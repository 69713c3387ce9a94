import Derived.Test.YtagjonjobbckdaaExSb
import Derived.Orders
namespace Go.Ex

section
variable {E : Env} {ops : Array Oper} {s t : St}

/-- a place: its operation on a state that is alike, or passed over -/
theorem place_cases {o : Oper} {p : Prop} {s1 : St} (h : placeR E ops o s = some (p, s1)) :
    ((∃ s', Eqv s s' ∧ runR E o s' = some (p, s1)) ∧ ∀ t, Eqv s t → ∃ t', Eqv t t' ∧ (uniq t.fr → uniq t'.fr) ∧ placeR E ops o t = runR E o t') ∨
    (p = True ∧ (∃ s', Eqv s s' ∧ s1 = s'.put o.dst (.raw undef)) ∧ ∀ t, Eqv s t → ∃ t', Eqv t t' ∧ (uniq t.fr → uniq t'.fr) ∧ placeR E ops o t = some (True, t'.put o.dst (.raw undef))) := by
  cases hg : o.guard with
  | none =>
    have hr : ∀ t, placeR E ops o t = runR E o t := fun t => by unfold placeR; rw [hg]
    rw [hr] at h
    exact .inl ⟨⟨s, Eqv.refl _, h⟩, fun t _ => ⟨t, Eqv.refl _, id, hr t⟩⟩
  | some jw =>
    obtain ⟨j, want⟩ := jw
    cases hs : guardSlot ops j with
    | none => unfold placeR at h; rw [hg] at h; simp [hs] at h
    | some g =>
      have hr : ∀ t, placeR E ops o t = (match t.get g with
        | .raw (.tuple _) => match dstOk E.nt o.dst with
          | true => some (True, t.put o.dst (.raw undef))
          | false => none
        | .val .bool b => match dstOk E.nt o.dst with
          | false => none
          | true => match b == want with
            | true => runR E o (t.put (some g) (.val .bool b))
            | false => some (True, (t.put (some g) (.val .bool b)).put o.dst (.raw undef))
        | _ => none) := fun t => by unfold placeR; rw [hg]; dsimp only; rw [hs]; rfl
      rw [hr] at h
      cases hv : s.get g with
      | raw w =>
        rw [hv] at h
        cases w with
        | tuple vs =>
          simp only at h
          cases hd : dstOk E.nt o.dst with
          | false => rw [hd] at h; cases h
          | true =>
            rw [hd] at h
            simp only [Option.some.injEq, Prod.mk.injEq] at h
            obtain ⟨rfl, rfl⟩ := h
            exact .inr ⟨rfl, ⟨s, Eqv.refl _, rfl⟩, fun t ht => ⟨t, Eqv.refl _, id, by rw [hr, ← ht.get, hv]; simp only [hd]⟩⟩
        | _ => cases h
      | val u b =>
        rw [hv] at h
        cases u with
        | bool =>
          simp only at h
          cases hd : dstOk E.nt o.dst with
          | false => rw [hd] at h; cases h
          | true =>
            rw [hd] at h
            simp only at h
            cases hb : (b == want) with
            | false =>
              rw [hb] at h
              simp only [Option.some.injEq, Prod.mk.injEq] at h
              obtain ⟨rfl, rfl⟩ := h
              exact .inr ⟨rfl, ⟨_, put_same hv (by simp), rfl⟩, fun t ht => ⟨_, put_same ((ht.get g).symm.trans hv) (by simp), uniq_putS, by rw [hr, ← ht.get, hv]; simp only [hd, hb]⟩⟩
            | true =>
              rw [hb] at h
              simp only at h
              exact .inl ⟨⟨_, put_same hv (by simp), h⟩, fun t ht => ⟨_, put_same ((ht.get g).symm.trans hv) (by simp), uniq_putS, by rw [hr, ← ht.get, hv]; simp only [hd, hb]⟩⟩
        | _ => cases h
      | _ => rw [hv] at h; cases h

theorem place_eqv {o : Oper} (ho : Known o) (he : Eqv s t) (ht : uniq t.fr) {p : Prop} {s1 : St} (h : placeR E ops o s = some (p, s1)) : ∃ t1, placeR E ops o t = some (p, t1) ∧ uniq t1.fr ∧ Eqv s1 t1 := by
  rcases place_cases h with ⟨⟨s', h1, h2⟩, h3⟩ | ⟨rfl, ⟨s', h1, rfl⟩, h3⟩
  · obtain ⟨t', k1, k2, k3⟩ := h3 t he
    obtain ⟨t1, m1, m2, m3⟩ := runR_eqv ho (h1.symm.trans (he.trans k1)) (k2 ht) h2
    exact ⟨t1, k3.trans m1, m2, m3⟩
  · obtain ⟨t', k1, k2, k3⟩ := h3 t he
    exact ⟨_, k3, uniq_putS (k2 ht), (h1.symm.trans (he.trans k1)).put _ _⟩

theorem place_clean {o : Oper} (ho : Known o) {p : Prop} {s1 : St} (h : placeR E ops o s = some (p, s1)) {m : Nat} (hm : o.dst ≠ some m) (hc : (s.get m).clean = true) : (s1.get m).clean = true := by
  rcases place_cases h with ⟨⟨s', h1, h2⟩, _⟩ | ⟨rfl, ⟨s', h1, rfl⟩, _⟩
  · exact runR_clean ho h2 hm (by rw [← h1.get]; exact hc)
  · rw [get_putS hm, ← h1.get]; exact hc

theorem place_uniq {o : Oper} (ho : Known o) (hu : uniq s.fr) {p : Prop} {s1 : St} (h : placeR E ops o s = some (p, s1)) : uniq s1.fr := by
  obtain ⟨t1, h1, h2, _⟩ := place_eqv ho (Eqv.refl s) hu h
  rw [h] at h1; cases h1; exact h2

theorem runs_eqv : ∀ {l : List Oper} {s t s' : St}, (∀ o ∈ l, Known o) → Eqv s t → uniq t.fr → RunsTo E ops l s s' → ∃ t', RunsTo E ops l t t' ∧ Eqv s' t'
  | [], s, t, s', _, he, _, h => ⟨t, rfl, by rw [← show s = s' from h]; exact he⟩
  | o :: l, s, t, s', hk, he, ht, ⟨p, s1, h1, h2, h3⟩ => by
    obtain ⟨t1, k1, k2, k3⟩ := place_eqv (hk o (by simp)) he ht h1
    obtain ⟨t', m1, m2⟩ := runs_eqv (fun o ho => hk o (by simp [ho])) k3 k2 h3
    exact ⟨t', ⟨p, t1, k1, h2, m1⟩, m2⟩

def CleanFor (s : St) (l : List Oper) : Prop := ∀ o ∈ l, ∀ d, o.dst = some d → (s.get d).clean = true

/-- no two write one slot -/
def Apart : List Oper → Prop
  | [] => True
  | o :: l => (∀ d, o.dst = some d → ∀ x ∈ l, x.dst ≠ some d) ∧ Apart l

theorem CleanFor.step {o : Oper} {l : List Oper} (ho : Known o) (hc : CleanFor s l) (hd : ∀ x ∈ l, ∀ d, x.dst = some d → o.dst ≠ some d) {p : Prop} {s1 : St} (h : placeR E ops o s = some (p, s1)) : CleanFor s1 l :=
  fun x hx d hxd => place_clean ho h (hd x hx d hxd) (hc x hx d hxd)

/-- an operation that hangs on none of those ahead of it, taken first -/
theorem bubble {i : Oper} {post : List Oper} : ∀ {pre : List Oper} {s s' : St}, (∀ o ∈ pre ++ i :: post, Known o) → Apart (pre ++ i :: post) → (∀ j ∈ pre, indep ops j i = true) → uniq s.fr → CleanFor s (pre ++ i :: post) → RunsTo E ops (pre ++ i :: post) s s' →
    ∃ p s1 s2, placeR E ops i s = some (p, s1) ∧ p ∧ RunsTo E ops (pre ++ post) s1 s2 ∧ Eqv s2 s'
  | [], s, s', _, _, _, _, _, ⟨p, s1, h1, h2, h3⟩ => ⟨p, s1, s', h1, h2, h3, Eqv.refl _⟩
  | j :: pre, s, s', hk, hap, hin, hu, hc, ⟨p, s1, h1, h2, h3⟩ => by
    have hkj := hk j (by simp)
    have hki := hk i (by simp)
    have hu1 := place_uniq hkj hu h1
    have hdj : ∀ x ∈ pre ++ i :: post, ∀ d, x.dst = some d → j.dst ≠ some d := fun x hx d hxd hjd => hap.1 d hjd x hx hxd
    have hc1 : CleanFor s1 (pre ++ i :: post) := CleanFor.step hkj (fun x hx => hc x (by simp at hx ⊢; exact .inr hx)) hdj h1
    obtain ⟨q, sa, sb, k1, k2, k3, k4⟩ := bubble (pre := pre) (fun o ho => hk o (by simp at ho ⊢; exact .inr ho)) hap.2 (fun x hx => hin x (by simp [hx])) hu1 hc1 h3
    obtain ⟨s1', s2', m1, m2, m3, m4, m5⟩ := swap (hin j (by simp)) hu (fun d hd => hc j (by simp) d hd) h1 k1 hu1
    obtain ⟨t', n1, n2⟩ := runs_eqv (fun o ho => hk o (by simp at ho ⊢; rcases ho with ho | ho <;> simp [ho])) m5.symm m4 k3
    exact ⟨q, s1', t', m1, k2, ⟨p, s2', m2, h2, n1⟩, n2.symm.trans k4⟩

end
end Go.Ex
