import Derived.Test.YtibpibbnnogdkaaExS3
namespace Go.Ex

def Eqv (s t : St) : Prop := (∀ n, look n s.fr = look n t.fr) ∧ (∀ i, look i s.hp = look i t.hp)

theorem Eqv.refl (s : St) : Eqv s s := ⟨fun _ => rfl, fun _ => rfl⟩
theorem Eqv.symm {s t : St} (h : Eqv s t) : Eqv t s := ⟨fun n => (h.1 n).symm, fun n => (h.2 n).symm⟩
theorem Eqv.trans {s t u : St} (h : Eqv s t) (k : Eqv t u) : Eqv s u := ⟨fun n => (h.1 n).trans (k.1 n), fun n => (h.2 n).trans (k.2 n)⟩

theorem look_putS {m : Nat} {s : St} {d : Option Nat} {v : AV} : look m (s.put d v).fr = if d = some m then some v else look m s.fr := by
  cases d with
  | none => simp [St.put]
  | some d =>
    simp only [St.put, look_put, Option.some.injEq]
    by_cases e : m = d
    · subst e; simp
    · rw [if_neg e, if_neg (fun h => e h.symm)]

theorem hp_putS {s : St} {d : Option Nat} {v : AV} : (s.put d v).hp = s.hp := by cases d <;> rfl

theorem uniq_putS {s : St} {d : Option Nat} {v : AV} (h : uniq s.fr) : uniq (s.put d v).fr := by
  cases d with
  | none => exact h
  | some d => exact uniq_put _ _ h

theorem Eqv.put {s t : St} (h : Eqv s t) (d : Option Nat) (v : AV) : Eqv (s.put d v) (t.put d v) :=
  ⟨fun n => by rw [look_putS, look_putS, h.1 n], fun i => by rw [hp_putS, hp_putS, h.2 i]⟩

theorem Eqv.get {s t : St} (h : Eqv s t) (m : Nat) : s.get m = t.get m := by simp only [St.get, h.1 m]
theorem Eqv.ev {s t : St} (h : Eqv s t) (x : Operand) : s.ev x = t.ev x := by cases x <;> first | rfl | exact h.get _

theorem NewIds.eqv {s t : St} (h : Eqv s t) {ids : List Nat} (hf : NewIds s ids) : NewIds t ids :=
  fun n hn => ⟨(h.2 n).symm.trans (hf n hn).1, fun m v hv => (hf n hn).2 m v ((h.1 m).trans hv)⟩

/-- two states alike in slots and in the objects that these speak of -/
def AgreeS (s t : St) (L : List Nat) : Prop := ∀ m ∈ L, t.get m = s.get m ∧ ∀ i, (s.get m).ment i = true → t.obj i = s.obj i

theorem Eqv.agreeS {s t : St} (h : Eqv s t) (L : List Nat) : AgreeS s t L := fun m _ => ⟨(h.get m).symm, fun i _ => (h.2 i).symm⟩

theorem ofConst_ment (v : Value) (i : Nat) : (ofConst v).ment i = false := by
  unfold ofConst
  split
  · split <;> rfl
  · rfl
  · split <;> rfl
  · rfl

theorem ev_ment {s : St} {x : Operand} {i : Nat} (h : (s.ev x).ment i = true) : ∃ m, x = .tmp m ∧ (s.get m).ment i = true := by
  cases x with
  | tmp m => exact ⟨m, rfl, h⟩
  | const v => simp [St.ev, ofConst_ment] at h
  | global g => cases h
  | func f => cases h

theorem AgreeS.agree {s t : St} {L : List Nat} (h : AgreeS s t L) {xs : List Operand} (hL : ∀ m, Operand.tmp m ∈ xs → m ∈ L) : Agree s t xs := by
  intro x hx
  refine ⟨?_, fun i hi => ?_⟩
  · cases x with
    | tmp m => exact (h m (hL m hx)).1
    | _ => rfl
  · obtain ⟨m, rfl, hm⟩ := ev_ment hi
    exact (h m (hL m hx)).2 i hm

/-- a state that has turned, and its slot d -/
structure Put (s s1 : St) (d : Option Nat) (T ids : List Nat) (f : AV → AV) (h : Nat → Option Ent) (v : AV) : Prop where
  fr : ∀ n, look n s1.fr = if d = some n then some v else (look n s.fr).map f
  hp : ∀ i, look i s1.hp = if i ∈ T ∨ i ∈ ids then h i else look i s.hp

section
variable {s t s1 t1 : St} {d : Option Nat} {T ids : List Nat} {f : AV → AV} {h : Nat → Option Ent} {v : AV}
theorem Put.eqv (hp : Put s s1 d T ids f h v) (he : Eqv s t) : Put t s1 d T ids f h v :=
  ⟨fun n => by rw [hp.fr, he.1 n], fun i => by rw [hp.hp, he.2 i]⟩
theorem Put.det (hp : Put s s1 d T ids f h v) (hp' : Put t t1 d T ids f h v) (he : Eqv s t) : Eqv s1 t1 :=
  ⟨fun n => by rw [hp.fr, hp'.fr, he.1 n], fun i => by rw [hp.hp, hp'.hp, he.2 i]⟩
theorem Put.get (hp : Put s s1 d T ids f h v) (hf : Trim T f) {m : Nat} (hm : d ≠ some m) : s1.get m = f (s.get m) := by
  simp only [St.get, hp.fr, if_neg hm]
  cases look m s.fr with
  | none => exact (hf.plain _ rfl).symm
  | some u => rfl
end

/-- what a step does -/
def Eff (run : St → Option (Prop × St)) (d : Option Nat) (L T : List Nat) (s : St) (p : Prop) : Prop :=
  ∃ v ids f h, Trim T f ∧ NewIds s ids ∧ (∀ n ∈ ids, n % 1000 = (d.getD 0) % 1000) ∧
    (∀ i, v.ment i = true → (∃ m ∈ L, (s.get m).ment i = true) ∨ i ∈ ids) ∧
    ∀ t, uniq t.fr → AgreeS s t L → NewIds t ids → ∃ t1, run t = some (p, t1) ∧ uniq t1.fr ∧ Put t t1 d T ids f h v

section
variable {E : Env} {ops : Array Oper} {s t : St}

theorem runR_eff {o : Oper} {p : Prop} {s1 : St} (h : runR E o s = some (p, s1)) {L : List Nat} (hL : ∀ m, Operand.tmp m ∈ o.op.operands.toList → m ∈ L) : Eff (runR E o) o.dst L (takes E o s) s p := by
  by_cases hp : ∃ a b c, o.op = .pick a b c
  · obtain ⟨c, a, b, ho⟩ := hp
    have hd : dstOk E.nt o.dst = true := by
      unfold runR at h
      split at h
      · cases h
      · assumption
    have hr : ∀ t, runR E o t = (match t.ev c with | .val .bool g => some (True, t.put o.dst (match g with | true => t.ev a | false => t.ev b)) | _ => none) := by
      intro t
      unfold runR
      rw [hd, ho]
      rfl
    have hT : takes E o s = [] := by unfold takes; rw [ho]
    rw [hT]
    rw [hr] at h
    have hops : o.op.operands.toList = [c, a, b] := by rw [ho]; rfl
    rw [hops] at hL
    have key : ∃ g : Bool, s.ev c = .val .bool g := by
      split at h
      · exact ⟨_, by assumption⟩
      · cases h
    obtain ⟨g, hg⟩ := key
    rw [hg] at h
    simp only [Option.some.injEq, Prod.mk.injEq] at h
    obtain ⟨rfl, rfl⟩ := h
    refine ⟨(if g = true then s.ev a else s.ev b), [], fun u => u, fun _ => none, Trim.id _, by simp [NewIds], by simp, ?_, ?_⟩
    · intro i hi
      cases g with
      | true => obtain ⟨m, hm, hi⟩ := ev_ment hi; exact .inl ⟨m, hL m (by simp [← hm]), hi⟩
      | false => obtain ⟨m, hm, hi⟩ := ev_ment hi; exact .inl ⟨m, hL m (by simp [← hm]), hi⟩
    · intro t hu ha _
      have hag := ha.agree hL
      have e1 := (hag c (by simp)).1
      have e2 := (hag a (by simp)).1
      have e3 := (hag b (by simp)).1
      refine ⟨_, by rw [hr, e1, hg, e2, e3], uniq_putS hu, ⟨fun n => by rw [look_putS]; cases g <;> simp, fun i => by rw [hp_putS]; simp⟩⟩
  · have hp' : ∀ a b c, o.op ≠ .pick a b c := fun a b c e => hp ⟨a, b, c, e⟩
    have hd : dstOk E.nt o.dst = true := by
      unfold runR at h
      split at h
      · cases h
      · assumption
    have hr : ∀ t, runR E o t = (match (aop E o t).get with | none => none | some (p, v, s') => some (p, s'.put o.dst v)) := by
      intro t
      unfold runR
      rw [hd]
      cases ho : o.op <;> first | rfl | exact absurd ho (hp' _ _ _)
    rw [hr] at h
    split at h
    · cases h
    · rename_i p' v s' hg
      cases h
      obtain ⟨ids, f, h, k1, k2, k3, k4, k5⟩ := aop_loc hp' hg
      refine ⟨v, ids, f, h, k1, k2, k3, ?_, ?_⟩
      · intro i hi
        rcases k4 i hi with ⟨x, hx, hm⟩ | hm
        · obtain ⟨m, rfl, hm⟩ := ev_ment hm
          exact .inl ⟨m, hL m hx, hm⟩
        · exact .inr hm
      · intro t hu ha hf
        obtain ⟨t1, e1, e2, e3⟩ := k5 t hu (ha.agree hL) hf
        exact ⟨t1.put o.dst v, by rw [hr, e1], uniq_putS e2, ⟨fun n => by rw [look_putS, e3.fr], fun i => by rw [hp_putS, e3.hp]⟩⟩

theorem put_same {g : Nat} {v : AV} (hv : s.get g = v) (hn : v ≠ .any) : Eqv s (s.put (some g) v) := by
  refine ⟨fun n => ?_, fun i => rfl⟩
  rw [look_putS]
  split
  · rename_i e
    cases e
    simp only [St.get] at hv
    cases hl : look g s.fr with
    | none => rw [hl] at hv; exact absurd hv.symm hn
    | some w => rw [hl] at hv; simp at hv; rw [hv]
  · rfl

theorem looks_op {o : Oper} {m : Nat} (hm : Operand.tmp m ∈ o.op.operands.toList) : m ∈ looks ops o := List.mem_append_left _ (List.mem_filterMap.2 ⟨_, hm, rfl⟩)

theorem takes_look {o : Oper} {i : Nat} (hi : i ∈ takes E o s) : ∃ m ∈ looks ops o, (s.get m).ment i = true := by
  obtain ⟨x, hx, hm⟩ := takes_ment hi
  obtain ⟨m, rfl, hm⟩ := ev_ment hm
  exact ⟨m, looks_op hx, hm⟩

theorem takes_get {o : Oper} (h : ∀ m ∈ looks ops o, t.get m = s.get m) : takes E o t = takes E o s :=
  takes_st (fun x hx => by
    cases x with
    | tmp m => exact h m (looks_op hx)
    | _ => rfl)

theorem place_eff {o : Oper} (hu : uniq s.fr) {p : Prop} {s1 : St} (h : placeR E ops o s = some (p, s1)) : Eff (placeR E ops o) o.dst (looks ops o) (takes E o s) s p := by
  have hL : ∀ m, Operand.tmp m ∈ o.op.operands.toList → m ∈ looks ops o := fun m hm => looks_op hm
  cases hg : o.guard with
  | none =>
    have hr : ∀ t, placeR E ops o t = runR E o t := fun t => by unfold placeR; rw [hg]
    rw [hr] at h
    have := runR_eff h hL
    rwa [← (funext hr : placeR E ops o = runR E o)] at this
  | some jw =>
    obtain ⟨j, want⟩ := jw
    cases hs : guardSlot ops j with
    | none => unfold placeR at h; rw [hg] at h; simp [hs] at h
    | some g =>
      have hgL : g ∈ looks ops o := by unfold looks; rw [hg]; simp [hs]
      have hr : ∀ t, placeR E ops o t = (match t.get g with
        | .raw (.tuple _) => match dstOk E.nt o.dst with
          | true => some (True, t.put o.dst (.raw undef))
          | false => none
        | .val .bool b => match dstOk E.nt o.dst with
          | false => none
          | true => match b == want with
            | true => runR E o (t.put (some g) (.val .bool b))
            | false => some (True, (t.put (some g) (.val .bool b)).put o.dst (.raw undef))
        | _ => none) := fun t => by unfold placeR; rw [hg]; dsimp only; rw [hs]; rfl
      have skip : (∀ t, uniq t.fr → t.get g = s.get g → ∃ t1, placeR E ops o t = some (True, t1) ∧ uniq t1.fr ∧ Eqv t1 (t.put o.dst (.raw undef))) → Eff (placeR E ops o) o.dst (looks ops o) (takes E o s) s True := by
        intro hrun
        refine ⟨.raw undef, [], fun u => u, fun i => look i s.hp, Trim.id _, by simp [NewIds], by simp, fun i hi => by simp [AV.ment] at hi, fun t hut ha _ => ?_⟩
        obtain ⟨t1, e1, e2, e3⟩ := hrun t hut (ha g hgL).1
        refine ⟨t1, e1, e2, ⟨fun n => by rw [e3.1, look_putS]; simp, fun i => ?_⟩⟩
        rw [e3.2, hp_putS]
        split
        · rename_i hi
          obtain ⟨m, hm, hmi⟩ := takes_look (ops := ops) (by simpa using hi : i ∈ takes E o s)
          exact (ha m hm).2 i hmi
        · rfl
      rw [hr] at h
      cases hv : s.get g with
      | raw w =>
        rw [hv] at h
        cases w with
        | tuple vs =>
          simp only at h
          cases hd : dstOk E.nt o.dst with
          | false => rw [hd] at h; cases h
          | true =>
            rw [hd] at h
            simp only [Option.some.injEq, Prod.mk.injEq] at h
            obtain ⟨rfl, rfl⟩ := h
            exact skip (fun t hut ht => ⟨_, by rw [hr, ht, hv]; simp only [hd], uniq_putS hut, Eqv.refl _⟩)
        | _ => cases h
      | val u b =>
        rw [hv] at h
        cases u with
        | bool =>
          simp only at h
          cases hd : dstOk E.nt o.dst with
          | false => rw [hd] at h; cases h
          | true =>
            rw [hd] at h
            simp only at h
            cases hb : (b == want) with
            | false =>
              rw [hb] at h
              simp only [Option.some.injEq, Prod.mk.injEq] at h
              obtain ⟨rfl, rfl⟩ := h
              exact skip (fun t hut ht => ⟨_, by rw [hr, ht, hv]; simp only [hd, hb], uniq_putS (uniq_putS hut), ((put_same (ht.trans hv) (by simp)).symm.put _ _)⟩)
            | true =>
              rw [hb] at h
              simp only at h
              have hsame := put_same hv (by simp)
              obtain ⟨v, ids, f, hh, k1, k2, k3, k4, k5⟩ := runR_eff h hL
              have hTe : takes E o (s.put (some g) (.val .bool b)) = takes E o s := takes_st (fun x _ => (hsame.ev x).symm)
              rw [hTe] at k1 k5
              refine ⟨v, ids, f, hh, k1, k2.eqv hsame.symm, k3, ?_, ?_⟩
              · intro i hi
                rcases k4 i hi with ⟨m, hm, hmi⟩ | hm
                · exact .inl ⟨m, hm, by rw [hsame.get]; exact hmi⟩
                · exact .inr hm
              · intro t hut ha hf
                have htg : t.get g = .val .bool b := (ha g hgL).1.trans hv
                have hst := put_same htg (by simp)
                obtain ⟨t1, e1, e2, e3⟩ := k5 (t.put (some g) (.val .bool b)) (uniq_putS hut) (fun m hm => by
                  rw [← hst.get, ← hsame.get]
                  refine ⟨(ha m hm).1, fun i hi => ?_⟩
                  have := (ha m hm).2 i hi
                  simpa [St.obj, hp_putS] using this) (hf.eqv hst)
                refine ⟨t1, by rw [hr, htg]; simp only [hd, hb, e1], e2, e3.eqv hst.symm⟩
        | _ => cases h
      | _ => rw [hv] at h; cases h

/-- steps of states that are alike -/
theorem place_eqv {o : Oper} (hu : uniq s.fr) (he : Eqv s t) (ht : uniq t.fr) {p : Prop} {s1 : St} (h : placeR E ops o s = some (p, s1)) : ∃ t1, placeR E ops o t = some (p, t1) ∧ uniq t1.fr ∧ Eqv s1 t1 := by
  obtain ⟨v, ids, f, hh, k1, k2, k3, k4, k5⟩ := place_eff hu h
  obtain ⟨s1', e1, _, e3⟩ := k5 s hu ((Eqv.refl s).agreeS _) k2
  rw [h] at e1; cases e1
  obtain ⟨t1, f1, f2, f3⟩ := k5 t ht (he.agreeS _) (k2.eqv he)
  exact ⟨t1, f1, f2, e3.det f3 he⟩

theorem place_uniq {o : Oper} (hu : uniq s.fr) {p : Prop} {s1 : St} (h : placeR E ops o s = some (p, s1)) : uniq s1.fr := by
  obtain ⟨t1, h1, h2, _⟩ := place_eqv hu (Eqv.refl s) hu h
  rw [h] at h1; cases h1; exact h2

theorem clean_ment : ∀ {v : AV} {i : Nat}, v.clean = true → v.ment i = false := by
  intro v
  induction v with
  | cons a b iha ihb =>
    intro i h
    simp only [AV.clean, Bool.and_eq_true] at h
    simp [AV.ment, iha h.1, ihb h.2]
  | tup l ih => intro i h; exact ih h
  | clo f l ih => intro i h; exact ih h
  | ptr i p => intro i h; cases h
  | at_ i p => intro i h; cases h
  | sub i p a b => intro i h; cases h
  | _ => intro i h; rfl

theorem place_clean {o : Oper} (hu : uniq s.fr) {p : Prop} {s1 : St} (h : placeR E ops o s = some (p, s1)) {m : Nat} (hm : o.dst ≠ some m) (hc : (s.get m).clean = true) : (s1.get m).clean = true := by
  obtain ⟨v, ids, f, hh, k1, k2, k3, k4, k5⟩ := place_eff hu h
  obtain ⟨s1', e1, _, e3⟩ := k5 s hu ((Eqv.refl s).agreeS _) k2
  rw [h] at e1; cases e1
  rw [e3.get k1 hm, k1.fix _ (fun i _ => clean_ment hc)]
  exact hc

end
end Go.Ex
