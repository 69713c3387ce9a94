import Derived.Test.YtibpibbnnogdkaaExSb
import Derived.Orders
namespace Go.Ex

section
variable {E : Env} {ops : Array Oper} {M : Nat → Nat} {s t : St}

def rem (ops : Array Oper) (l : List Nat) : List Oper := l.filterMap fun i => ops[i]?

theorem rem_cons {i : Nat} {o : Oper} {l : List Nat} (h : ops[i]? = some o) : rem ops (i :: l) = o :: rem ops l := by simp [rem, List.filterMap_cons, h]
theorem rem_app {l m : List Nat} : rem ops (l ++ m) = rem ops l ++ rem ops m := by simp [rem, List.filterMap_append]

def CleanFor (s : St) (l : List Oper) : Prop := ∀ o ∈ l, ∀ d, o.dst = some d → (s.get d).clean = true

/-- no two write one slot -/
def Apart : List Oper → Prop
  | [] => True
  | o :: l => (∀ d, o.dst = some d → ∀ x ∈ l, x.dst ≠ some d) ∧ Apart l

theorem CleanFor.step {o : Oper} {l : List Oper} (hu : uniq s.fr) (hc : CleanFor s l) (hd : ∀ x ∈ l, ∀ d, x.dst = some d → o.dst ≠ some d) {p : Prop} {s1 : St} (h : placeR E ops o s = some (p, s1)) : CleanFor s1 l :=
  fun x hx d hxd => place_clean hu h (hd x hx d hxd) (hc x hx d hxd)

/-- earlier operations, the state of each as good as it was -/
def AsGood (E : Env) (ops : Array Oper) (acc acc' : List (Nat × St)) : Prop :=
  ∀ e' ∈ acc', ∃ e ∈ acc, e.1 = e'.1 ∧ ∀ x, ops[e.1]? = some x → (∀ m ∈ looks ops x, e'.2.get m = e.2.get m) ∧ takes E x e'.2 = takes E x e.2 ∧ ∀ m, ∀ k ∈ takes E x e.2, (e'.2.get m).ment k = true → (e.2.get m).ment k = true

theorem PairP.good {x : Oper} {sx sx' : St} {y : Oper} {Ty Ty' : List Nat} (h : PairP ops x sx (takes E x sx) y Ty) (h1 : ∀ m ∈ looks ops x, sx'.get m = sx.get m) (h2 : takes E x sx' = takes E x sx) (h3 : ∀ m, ∀ k ∈ takes E x sx, (sx'.get m).ment k = true → (sx.get m).ment k = true) (hT : Ty' = Ty) :
    PairP ops x sx' (takes E x sx') y Ty' := by
  subst hT
  obtain ⟨P1, P2, P3⟩ := h
  rw [h2]
  refine ⟨fun m hm i hi => ?_, fun m hm i hi => by rw [h1 m hm]; exact P2 m hm i hi, P3⟩
  cases hh : (sx'.get m).ment i with
  | false => rfl
  | true => have := h3 m i hi hh; rw [P1 m hm i hi] at this; cases this

theorem takes_eqv {o : Oper} (h : Eqv s t) : takes E o t = takes E o s := takes_st (fun x _ => (h.ev x).symm)

theorem runsA_mono : ∀ {l : List Nat} {acc acc' : List (Nat × St)} {s t s' : St}, AsGood E ops acc acc' → uniq s.fr → Eqv s t → uniq t.fr → RunsA E ops M acc l s s' → ∃ t', RunsA E ops M acc' l t t' ∧ Eqv s' t'
  | [], acc, acc', s, t, s', _, _, he, _, h => ⟨t, rfl, by rw [← show s = s' from h]; exact he⟩
  | i :: l, acc, acc', s, t, s', hg, hu, he, ht, ⟨o, ho, hc, p, s1, h1, h2, h3⟩ => by
    obtain ⟨t1, k1, k2, k3⟩ := place_eqv hu he ht h1
    obtain ⟨t', m1, m2⟩ := runsA_mono (acc := (i, s) :: acc) (acc' := (i, t) :: acc') (fun e' he' => by
      rcases List.mem_cons.1 he' with rfl | he'
      · exact ⟨(i, s), by simp, rfl, fun x _ => ⟨fun m _ => (he.get m).symm, takes_eqv he, fun m k _ hm => by have hm : (t.get m).ment k = true := hm; rw [← he.get m] at hm; exact hm⟩⟩
      · obtain ⟨e, h4, h5, h6⟩ := hg e' he'; exact ⟨e, by simp [h4], h5, h6⟩) (place_uniq hu h1) k3 k2 h3
    refine ⟨t', ⟨o, ho, fun e' he' => ?_, p, t1, k1, h2, m1⟩, m2⟩
    obtain ⟨e, h4, h5, h6⟩ := hg e' he'
    rw [← h5]
    rcases hc e h4 with h | ⟨x, hx, hP⟩
    · exact .inl h
    · obtain ⟨g1, g2, g3⟩ := h6 x hx
      exact .inr ⟨x, hx, hP.good g1 g2 g3 (takes_eqv he)⟩

/-- an operation that hangs on none of those ahead of it, taken first -/
theorem bubble {i : Nat} {o : Oper} (ho : ops[i]? = some o) {post : List Nat} : ∀ {pre : List Nat} {acc : List (Nat × St)} {s s' : St}, Apart (rem ops (pre ++ i :: post)) → (∀ j ∈ pre, (M i).testBit j = false ∧ ∀ x, ops[j]? = some x → indep ops x o = true) → uniq s.fr → CleanFor s (rem ops (pre ++ i :: post)) →
    RunsA E ops M acc (pre ++ i :: post) s s' →
    ∃ p s1 s2, placeR E ops o s = some (p, s1) ∧ p ∧ RunsA E ops M acc (pre ++ post) s1 s2 ∧ Eqv s2 s' ∧ ∀ e ∈ acc, (M i).testBit e.1 = true ∨ ∃ x, ops[e.1]? = some x ∧ PairP ops x e.2 (takes E x e.2) o (takes E o s)
  | [], acc, s, s', _, _, hu, _, ⟨o', ho', hc, p, s1, h1, h2, h3⟩ => by
    rw [ho] at ho'; cases ho'
    obtain ⟨t', m1, m2⟩ := runsA_mono (acc := (i, s) :: acc) (acc' := acc) (fun e he => ⟨e, by simp [he], rfl, fun x _ => ⟨fun _ _ => rfl, rfl, fun _ _ _ h => h⟩⟩) (place_uniq hu h1) (Eqv.refl s1) (place_uniq hu h1) h3
    exact ⟨p, s1, t', h1, h2, m1, m2.symm, hc⟩
  | j :: pre, acc, s, s', hap, hin, hu, hcl, ⟨x, hx, hc, p, s1, h1, h2, h3⟩ => by
    have hu1 := place_uniq hu h1
    have er : rem ops (j :: pre ++ i :: post) = x :: rem ops (pre ++ i :: post) := rem_cons hx
    rw [er] at hap hcl
    have hdj : ∀ y ∈ rem ops (pre ++ i :: post), ∀ d, y.dst = some d → x.dst ≠ some d := fun y hy d hyd hxd => hap.1 d hxd y hy hyd
    have hcl1 : CleanFor s1 (rem ops (pre ++ i :: post)) := CleanFor.step hu (fun y hy => hcl y (by simp [hy])) hdj h1
    obtain ⟨q, sa, sb, k1, k2, k3, k4, k5⟩ := bubble ho (pre := pre) (acc := (j, s) :: acc) hap.2 (fun y hy => hin y (by simp [hy])) hu1 hcl1 h3
    obtain ⟨hnb, hind⟩ := hin j (by simp)
    have hP : PairP ops x s (takes E x s) o (takes E o s1) := by
      rcases k5 (j, s) (by simp) with h | ⟨x', hx', hP⟩
      · rw [hnb] at h; cases h
      · have hx' : ops[j]? = some x' := hx'
        rw [hx] at hx'; cases hx'; exact hP
    obtain ⟨s1', s2', m1, m2, m3, m4, m5, m6, m7, m8, m9⟩ := swap (hind x hx) hu (fun d hd => hcl x (by simp) d hd) h1 k1 hP
    obtain ⟨t', n1, n2⟩ := runsA_mono (acc := (j, s) :: acc) (acc' := (j, s1') :: acc) (fun e' he' => by
      rcases List.mem_cons.1 he' with rfl | he'
      · refine ⟨(j, s), by simp, rfl, fun y hy => ?_⟩
        have hy : ops[j]? = some y := hy
        rw [hx] at hy; cases hy
        exact ⟨m8, m7, m9⟩
      · exact ⟨e', by simp [he'], rfl, fun y _ => ⟨fun _ _ => rfl, rfl, fun _ _ _ h => h⟩⟩) (place_uniq hu1 k1) m5.symm m4 k3
    refine ⟨q, s1', t', m1, k2, ⟨x, hx, fun e he => ?_, p, s2', m2, h2, n1⟩, n2.symm.trans k4, fun e he => ?_⟩
    · rcases hc e he with h | ⟨y, hy, hP⟩
      · exact .inl h
      · exact .inr ⟨y, hy, by rw [m7]; exact hP⟩
    · rcases k5 e (by simp [he]) with h | ⟨y, hy, hP⟩
      · exact .inl h
      · exact .inr ⟨y, hy, by rw [m6]; exact hP⟩

end
end Go.Ex
