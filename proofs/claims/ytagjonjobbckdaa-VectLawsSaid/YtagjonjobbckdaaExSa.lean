import Derived.Test.YtagjonjobbckdaaExS
namespace Go.Ex

def Eqv (s t : St) : Prop := (∀ n, look n s.fr = look n t.fr) ∧ (∀ i, look i s.hp = look i t.hp)

theorem Eqv.refl (s : St) : Eqv s s := ⟨fun _ => rfl, fun _ => rfl⟩
theorem Eqv.symm {s t : St} (h : Eqv s t) : Eqv t s := ⟨fun n => (h.1 n).symm, fun n => (h.2 n).symm⟩
theorem Eqv.trans {s t u : St} (h : Eqv s t) (k : Eqv t u) : Eqv s u := ⟨fun n => (h.1 n).trans (k.1 n), fun n => (h.2 n).trans (k.2 n)⟩

theorem look_putS {m : Nat} {s : St} {d : Option Nat} {v : AV} : look m (s.put d v).fr = if d = some m then some v else look m s.fr := by
  cases d with
  | none => simp [St.put]
  | some d =>
    simp only [St.put, look_put, Option.some.injEq]
    by_cases e : m = d
    · subst e; simp
    · rw [if_neg e, if_neg (fun h => e h.symm)]

theorem hp_putS {s : St} {d : Option Nat} {v : AV} : (s.put d v).hp = s.hp := by cases d <;> rfl
theorem fr_adds {s : St} {new : List (Nat × Ent)} : (s.adds new).fr = s.fr := rfl

theorem uniq_putS {s : St} {d : Option Nat} {v : AV} (h : uniq s.fr) : uniq (s.put d v).fr := by
  cases d with
  | none => exact h
  | some d => exact uniq_put _ _ h

theorem Eqv.put {s t : St} (h : Eqv s t) (d : Option Nat) (v : AV) : Eqv (s.put d v) (t.put d v) :=
  ⟨fun n => by rw [look_putS, look_putS, h.1 n], fun i => by rw [hp_putS, hp_putS, h.2 i]⟩

theorem Eqv.adds {s t : St} (h : Eqv s t) (new : List (Nat × Ent)) : Eqv (s.adds new) (t.adds new) :=
  ⟨h.1, fun i => look_adds_congr (h.2 i)⟩

theorem Eqv.get {s t : St} (h : Eqv s t) (m : Nat) : s.get m = t.get m := by simp only [St.get, h.1 m]
theorem Eqv.ev {s t : St} (h : Eqv s t) (x : Operand) : s.ev x = t.ev x := by cases x <;> first | rfl | exact h.get _

theorem FreshL.eqv {s t : St} (h : Eqv s t) {new : List (Nat × Ent)} {ids : List Nat} (hf : FreshL s new ids) : FreshL t new ids :=
  ⟨fun q hq => (h.2 q.1).symm.trans (hf.hp q hq), fun n hn m v hv => hf.fr n hn m v ((h.1 m).trans hv)⟩

/-- two states alike in slots and in the objects that these speak of -/
def AgreeS (s t : St) (L : List Nat) : Prop := ∀ m ∈ L, t.get m = s.get m ∧ ∀ i, (s.get m).ment i = true → t.obj i = s.obj i

theorem Eqv.agreeS {s t : St} (h : Eqv s t) (L : List Nat) : AgreeS s t L := fun m _ => ⟨(h.get m).symm, fun i _ => (h.2 i).symm⟩

theorem ofConst_ment (v : Value) (i : Nat) : (ofConst v).ment i = false := by
  unfold ofConst
  split
  · split <;> rfl
  · rfl
  · split <;> rfl
  · rfl

theorem ev_ment {s : St} {x : Operand} {i : Nat} (h : (s.ev x).ment i = true) : ∃ m, x = .tmp m ∧ (s.get m).ment i = true := by
  cases x with
  | tmp m => exact ⟨m, rfl, h⟩
  | const v => simp [St.ev, ofConst_ment] at h
  | global g => cases h
  | func f => cases h

theorem AgreeS.agree {s t : St} {L : List Nat} (h : AgreeS s t L) {xs : List Operand} (hL : ∀ m, Operand.tmp m ∈ xs → m ∈ L) : Agree s t xs := by
  intro x hx
  refine ⟨?_, fun i hi => ?_⟩
  · cases x with
    | tmp m => exact (h m (hL m hx)).1
    | _ => rfl
  · obtain ⟨m, rfl, hm⟩ := ev_ment hi
    exact (h m (hL m hx)).2 i hm

/-- what a step does -/
def Eff (run : St → Option (Prop × St)) (d : Option Nat) (L : List Nat) (s : St) (p : Prop) (s1 : St) : Prop :=
  ∃ v new ids, Eqv s1 ((s.adds new).put d v) ∧ FreshL s new ids ∧ (∀ q ∈ new, q.1 ∈ ids) ∧ (∀ n ∈ ids, n % 1000 = (d.getD 0) % 1000) ∧
    (∀ i, v.ment i = true → (∃ m ∈ L, (s.get m).ment i = true) ∨ i ∈ ids) ∧
    ∀ t, uniq t.fr → AgreeS s t L → FreshL t new ids → ∃ t1, run t = some (p, t1) ∧ uniq t1.fr ∧ Eqv t1 ((t.adds new).put d v)

section
variable {E : Env} {ops : Array Oper} {s t : St}

theorem runR_eff {o : Oper} (hw : writes o = false) {p : Prop} {s1 : St} (h : runR E o s = some (p, s1)) {L : List Nat} (hL : ∀ m, Operand.tmp m ∈ o.op.operands.toList → m ∈ L) : Eff (runR E o) o.dst L s p s1 := by
  by_cases hp : ∃ a b c, o.op = .pick a b c
  · obtain ⟨c, a, b, ho⟩ := hp
    have hd : dstOk E.nt o.dst = true := by
      unfold runR at h
      split at h
      · cases h
      · assumption
    have hr : ∀ t, runR E o t = (match t.ev c with | .val .bool g => some (True, t.put o.dst (match g with | true => t.ev a | false => t.ev b)) | _ => none) := by
      intro t
      unfold runR
      rw [hd, ho]
      rfl
    rw [hr] at h
    have hops : o.op.operands.toList = [c, a, b] := by rw [ho]; rfl
    rw [hops] at hL
    have key : ∃ g : Bool, s.ev c = .val .bool g := by
      split at h
      · exact ⟨_, by assumption⟩
      · cases h
    obtain ⟨g, hg⟩ := key
    rw [hg] at h
    simp only [Option.some.injEq, Prod.mk.injEq] at h
    obtain ⟨rfl, rfl⟩ := h
    refine ⟨_, [], [], Eqv.refl _, ⟨by simp, by simp⟩, by simp, by simp, ?_, ?_⟩
    · intro i hi
      cases g with
      | true => obtain ⟨m, hm, hi⟩ := ev_ment hi; exact .inl ⟨m, hL m (by simp [← hm]), hi⟩
      | false => obtain ⟨m, hm, hi⟩ := ev_ment hi; exact .inl ⟨m, hL m (by simp [← hm]), hi⟩
    · intro t hu ha _
      have hag := ha.agree hL
      have e1 := (hag c (by simp)).1
      have e2 := (hag a (by simp)).1
      have e3 := (hag b (by simp)).1
      refine ⟨_, by rw [hr, e1, hg, e2, e3], uniq_putS hu, Eqv.refl _⟩
  · have hp' : ∀ a b c, o.op ≠ .pick a b c := fun a b c e => hp ⟨a, b, c, e⟩
    have hd : dstOk E.nt o.dst = true := by
      unfold runR at h
      split at h
      · cases h
      · assumption
    have hr : ∀ t, runR E o t = (match (aop E o t).get with | none => none | some (p, v, s') => some (p, s'.put o.dst v)) := by
      intro t
      unfold runR
      rw [hd]
      cases ho : o.op <;> first | rfl | exact absurd ho (hp' _ _ _)
    rw [hr] at h
    split at h
    · cases h
    · rename_i p' v s' hg
      cases h
      obtain ⟨new, ids, rfl, k2, k3, k4, k5, k6⟩ := aop_loc hw hp' hg
      refine ⟨v, new, ids, Eqv.refl _, k2, k3, k4, ?_, ?_⟩
      · intro i hi
        rcases k5 i hi with ⟨x, hx, hm⟩ | hm
        · obtain ⟨m, rfl, hm⟩ := ev_ment hm
          exact .inl ⟨m, hL m hx, hm⟩
        · exact .inr hm
      · intro t hu ha hf
        exact ⟨(t.adds new).put o.dst v, by rw [hr, k6 t hu (ha.agree hL) hf], uniq_putS (s := t.adds new) hu, Eqv.refl _⟩

theorem put_same {g : Nat} {v : AV} (hv : s.get g = v) (hn : v ≠ .any) : Eqv s (s.put (some g) v) := by
  refine ⟨fun n => ?_, fun i => rfl⟩
  rw [look_putS]
  split
  · rename_i e
    cases e
    simp only [St.get] at hv
    cases hl : look g s.fr with
    | none => rw [hl] at hv; exact absurd hv.symm hn
    | some w => rw [hl] at hv; simp at hv; rw [hv]
  · rfl

theorem place_eff {o : Oper} (hw : writes o = false) (hu : uniq s.fr) {p : Prop} {s1 : St} (h : placeR E ops o s = some (p, s1)) : Eff (placeR E ops o) o.dst (looks ops o) s p s1 := by
  have hL : ∀ m, Operand.tmp m ∈ o.op.operands.toList → m ∈ looks ops o := fun m hm => List.mem_append_left _ (List.mem_filterMap.2 ⟨_, hm, rfl⟩)
  cases hg : o.guard with
  | none =>
    have hr : ∀ t, placeR E ops o t = runR E o t := fun t => by unfold placeR; rw [hg]
    rw [hr] at h
    have := runR_eff hw h hL
    rwa [← (funext hr : placeR E ops o = runR E o)] at this
  | some jw =>
    obtain ⟨j, want⟩ := jw
    cases hs : guardSlot ops j with
    | none => unfold placeR at h; rw [hg] at h; simp [hs] at h
    | some g =>
      have hgL : g ∈ looks ops o := by unfold looks; rw [hg]; simp [hs]
      have hr : ∀ t, placeR E ops o t = (match t.get g with
        | .raw (.tuple _) => match dstOk E.nt o.dst with
          | true => some (True, t.put o.dst (.raw undef))
          | false => none
        | .val .bool b => match dstOk E.nt o.dst with
          | false => none
          | true => match b == want with
            | true => runR E o (t.put (some g) (.val .bool b))
            | false => some (True, (t.put (some g) (.val .bool b)).put o.dst (.raw undef))
        | _ => none) := fun t => by unfold placeR; rw [hg]; dsimp only; rw [hs]; rfl
      have skip : ∀ {run : St → Option (Prop × St)}, (∀ t, uniq t.fr → t.get g = s.get g → ∃ t1, run t = some (True, t1) ∧ uniq t1.fr ∧ Eqv t1 (t.put o.dst (.raw undef))) → ∀ {s1}, run s = some (True, s1) → Eff run o.dst (looks ops o) s True s1 := by
        intro run hrun s1 h1
        obtain ⟨t1, e1, _, e3⟩ := hrun s hu rfl
        rw [e1] at h1; cases h1
        refine ⟨.raw undef, [], [], e3, ⟨by simp, by simp⟩, by simp, by simp, fun i hi => by simp [AV.ment] at hi, fun t hut ha _ => hrun t hut (ha g hgL).1⟩
      rw [hr] at h
      cases hv : s.get g with
      | raw w =>
        rw [hv] at h
        cases w with
        | tuple vs =>
          simp only at h
          cases hd : dstOk E.nt o.dst with
          | false => rw [hd] at h; cases h
          | true =>
            rw [hd] at h
            simp only [Option.some.injEq, Prod.mk.injEq] at h
            obtain ⟨rfl, rfl⟩ := h
            refine skip (fun t hut ht => ⟨_, by rw [hr, ht, hv]; simp only [hd], uniq_putS hut, Eqv.refl _⟩) ?_
            rw [hr, hv]; simp only [hd]
        | _ => cases h
      | val u b =>
        rw [hv] at h
        cases u with
        | bool =>
          simp only at h
          cases hd : dstOk E.nt o.dst with
          | false => rw [hd] at h; cases h
          | true =>
            rw [hd] at h
            simp only at h
            cases hb : (b == want) with
            | false =>
              rw [hb] at h
              simp only [Option.some.injEq, Prod.mk.injEq] at h
              obtain ⟨rfl, rfl⟩ := h
              refine skip (fun t hut ht => ⟨_, by rw [hr, ht, hv]; simp only [hd, hb], uniq_putS (uniq_putS hut), ((put_same (ht.trans hv) (by simp)).symm.put _ _)⟩) ?_
              rw [hr, hv]; simp only [hd, hb]
            | true =>
              rw [hb] at h
              simp only at h
              have hsame := put_same hv (by simp)
              obtain ⟨v, new, ids, k1, k2, k3, k4, k5, k6⟩ := runR_eff hw h hL
              refine ⟨v, new, ids, k1.trans ((hsame.symm.adds new).put _ _), k2.eqv hsame.symm, k3, k4, ?_, ?_⟩
              · intro i hi
                rcases k5 i hi with ⟨m, hm, hmi⟩ | hm
                · exact .inl ⟨m, hm, by rw [hsame.get]; exact hmi⟩
                · exact .inr hm
              · intro t hut ha hf
                have htg : t.get g = .val .bool b := (ha g hgL).1.trans hv
                have hst := put_same htg (by simp)
                obtain ⟨t1, e1, e2, e3⟩ := k6 (t.put (some g) (.val .bool b)) (uniq_putS hut) (fun m hm => by
                  rw [← hst.get, ← hsame.get]
                  refine ⟨(ha m hm).1, fun i hi => ?_⟩
                  have := (ha m hm).2 i hi
                  simpa [St.obj, hp_putS] using this) (hf.eqv hst)
                refine ⟨t1, by rw [hr, htg]; simp only [hd, hb, e1], e2, e3.trans ((hst.symm.adds new).put _ _)⟩
        | _ => cases h
      | _ => rw [hv] at h; cases h

end
end Go.Ex
