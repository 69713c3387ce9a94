import Derived.Test.YtibpibbnnogdkaaExX
namespace Go.Ex

/-- the lists are sorted -/
def uniq {α : Type _} : List (Nat × α) → Prop
  | [] => True
  | (n, _) :: l => (∀ q ∈ l, n < q.1) ∧ uniq l

theorem uniq_look {α : Type _} {n : Nat} : ∀ {l : List (Nat × α)}, (∀ q ∈ l, n < q.1) → look n l = none
  | [], _ => rfl
  | (m, x) :: l, h => by
    have := h (m, x) (by simp)
    simp only [look, beq_ne (Nat.ne_of_lt this)]
    exact uniq_look (fun q hq => h q (by simp [hq]))

theorem put_mem {α : Type _} {n : Nat} {x : α} {q : Nat × α} : ∀ {l : List (Nat × α)}, q ∈ put n x l → q.1 = n ∨ q ∈ l
  | [], h => by simp [put] at h; exact .inl (by rw [h])
  | (m, y) :: l, h => by
    simp only [put] at h
    split at h
    · rcases List.mem_cons.1 h with rfl | h
      · exact .inl rfl
      · exact .inr (by simp [h])
    · split at h
      · rcases List.mem_cons.1 h with rfl | h
        · exact .inl rfl
        · exact .inr h
      · rcases List.mem_cons.1 h with rfl | h
        · exact .inr (by simp)
        · exact (put_mem h).imp id (fun h => by simp [h])

theorem uniq_put {α : Type _} (n : Nat) (x : α) : ∀ {l : List (Nat × α)}, uniq l → uniq (put n x l)
  | [], _ => ⟨by simp, trivial⟩
  | (m, y) :: l, ⟨h1, h2⟩ => by
    simp only [put]
    cases hb : Nat.beq n m with
    | true => have := Nat.eq_of_beq_eq_true hb; subst this; exact ⟨h1, h2⟩
    | false =>
      have hne : n ≠ m := by rintro rfl; simp at hb
      simp only
      cases hlt : Nat.blt n m with
      | true =>
        have hlt : n < m := by simpa [Nat.blt_eq] using hlt
        exact ⟨fun q hq => by
          rcases List.mem_cons.1 hq with rfl | hq
          · exact hlt
          · exact Nat.lt_trans hlt (h1 q hq), h1, h2⟩
      | false =>
        have hlt : ¬ n < m := by
          intro hl
          have h3 : Nat.blt n m = true := by simpa [Nat.blt_eq] using hl
          rw [h3] at hlt; cases hlt
        refine ⟨fun q hq => ?_, uniq_put n x h2⟩
        rcases put_mem hq with e | hq
        · omega
        · exact h1 q hq

theorem uniq_of {α : Type _} : ∀ {l : List (Nat × α)}, uniqB l = true → uniq l
  | [], _ => trivial
  | (n, x) :: l, h => by
    simp only [uniqB, Bool.and_eq_true] at h
    have ih := uniq_of h.2
    refine ⟨?_, ih⟩
    cases l with
    | nil => simp
    | cons q l =>
      obtain ⟨m, y⟩ := q
      have hlt : n < m := by simpa [Nat.blt_eq] using h.1
      intro q hq
      rcases List.mem_cons.1 hq with rfl | hq
      · exact hlt
      · exact Nat.lt_trans hlt (ih.1 q hq)

theorem noMent_mk {d : Nat} : ∀ {l : List (Nat × AV)}, uniq l → (∀ n v, look n l = some v → v.ment d = false) → noMent d l = true
  | [], _, _ => rfl
  | (m, v) :: l, ⟨h0, h2⟩, h => by
    have h1 := uniq_look h0
    simp only [noMent, Bool.and_eq_true, Bool.not_eq_true']
    refine ⟨h m v (by simp [look]), noMent_mk h2 (fun n w hw => h n w ?_)⟩
    simp only [look]
    cases hb : Nat.beq n m with
    | true => have := Nat.eq_of_beq_eq_true hb; subst this; rw [h1] at hw; cases hw
    | false => exact hw

theorem noMent_put {d n : Nat} {v : AV} (hv : v.ment d = false) : ∀ {l : List (Nat × AV)}, noMent d l = true → noMent d (put n v l) = true
  | [], _ => by simp [put, noMent, hv]
  | (m, u) :: l, h => by
    simp only [noMent, Bool.and_eq_true, Bool.not_eq_true'] at h
    simp only [put]
    cases Nat.beq n m with
    | true => simp [noMent, hv, h.2]
    | false =>
      cases Nat.blt n m with
      | true => simp [noMent, hv, h.1, h.2]
      | false => simp [noMent, h.1, noMent_put hv h.2]

theorem lent_ment : ∀ {v : AV} {i : Nat}, i ∈ v.lent ↔ v.ment i = true := by
  intro v
  induction v with
  | cons a b iha ihb => intro i; simp only [AV.lent, List.mem_append, AV.ment, Bool.or_eq_true, iha, ihb]
  | tup l ih => intro i; exact ih
  | clo f l ih => intro i; exact ih
  | ptr j p => intro i; simp [AV.lent, AV.ment]
  | at_ j p => intro i; simp [AV.lent, AV.ment]
  | sub j p a b => intro i; simp [AV.lent, AV.ment]
  | _ => intro i; simp [AV.lent, AV.ment]

def AV.plain : AV → Bool
  | .any | .raw _ | .val _ _ | .rptr _ _ | .nil => true
  | _ => false

/-- what becomes of abstract values where objects of T turn: a part is kept, or no more known -/
structure Trim (T : List Nat) (f : AV → AV) : Prop where
  cons : ∀ a b, f (.cons a b) = .cons (f a) (f b)
  tup : ∀ l, f (.tup l) = .tup (f l)
  clo : ∀ g l, f (.clo g l) = .clo g (f l)
  atom : ∀ u, u.ref = true → f u = u ∨ f u = .any
  keep : ∀ u, u.ref = true → (∀ i ∈ T, u.ment i = false) → f u = u
  plain : ∀ u, u.plain = true → f u = u

theorem AV.shape (P : AV → Prop) (hp : ∀ u, u.plain = true → P u) (ha : ∀ u, u.ref = true → P u) (hc : ∀ a b, P a → P b → P (.cons a b)) (ht : ∀ l, P l → P (.tup l)) (hf : ∀ g l, P l → P (.clo g l)) : ∀ u, P u := by
  intro u
  induction u with
  | cons a b iha ihb => exact hc a b iha ihb
  | tup l ih => exact ht l ih
  | clo f l ih => exact hf f l ih
  | ptr j p => exact ha _ rfl
  | at_ j p => exact ha _ rfl
  | sub j p a b => exact ha _ rfl
  | _ => exact hp _ rfl

section
variable {T T' : List Nat} {f g : AV → AV}

theorem Trim.id (T : List Nat) : Trim T (fun u => u) := ⟨fun _ _ => rfl, fun _ => rfl, fun _ _ => rfl, fun _ _ => .inl rfl, fun _ _ _ => rfl, fun _ _ => rfl⟩

theorem Trim.map {g : AV → AV} (h1 : ∀ u, u.ref = true → g u = u ∨ g u = .any) (h2 : ∀ u, u.ref = true → (∀ i ∈ T, u.ment i = false) → g u = u) : Trim T (AV.map g) := by
  have e : ∀ u : AV, u.ref = true → u.map g = g u := by intro u hu; cases u <;> simp only [AV.ref] at hu <;> first | rfl | cases hu
  exact ⟨fun _ _ => rfl, fun _ => rfl, fun _ _ => rfl, fun u hu => by rw [e u hu]; exact h1 u hu, fun u hu hm => by rw [e u hu]; exact h2 u hu hm, fun u hu => by cases u <;> simp only [AV.plain] at hu <;> first | rfl | cases hu⟩

theorem Trim.comp (hf : Trim T f) (hg : Trim T' g) {U : List Nat} (h1 : ∀ i ∈ T, i ∈ U) (h2 : ∀ i ∈ T', i ∈ U) : Trim U (fun u => g (f u)) := by
  refine ⟨fun a b => by rw [hf.cons, hg.cons], fun l => by rw [hf.tup, hg.tup], fun k l => by rw [hf.clo, hg.clo], ?_, ?_, fun u hu => by rw [hf.plain u hu, hg.plain u hu]⟩
  · intro u hu
    rcases hf.atom u hu with h | h
    · rw [h]; exact hg.atom u hu
    · rw [h]; exact .inr (hg.plain _ rfl)
  · intro u hu hm
    rw [hf.keep u hu (fun i hi => hm i (h1 i hi)), hg.keep u hu (fun i hi => hm i (h2 i hi))]

theorem Trim.mono (hf : Trim T f) (h : ∀ i ∈ T, i ∈ T') : Trim T' f := ⟨hf.cons, hf.tup, hf.clo, hf.atom, fun u hu hm => hf.keep u hu (fun i hi => hm i (h i hi)), hf.plain⟩

theorem Trim.fix (hf : Trim T f) : ∀ u, (∀ i ∈ T, u.ment i = false) → f u = u := by
  refine AV.shape _ (fun u hu _ => hf.plain u hu) (fun u hu hm => hf.keep u hu hm) ?_ ?_ ?_
  · intro a b ha hb hm
    simp only [AV.ment, Bool.or_eq_false_iff] at hm
    rw [hf.cons, ha (fun i hi => (hm i hi).1), hb (fun i hi => (hm i hi).2)]
  · intro l hl hm; rw [hf.tup, hl hm]
  · intro k l hl hm; rw [hf.clo, hl hm]

theorem Trim.ment (hf : Trim T f) {i : Nat} : ∀ u, (f u).ment i = true → u.ment i = true := by
  refine AV.shape _ (fun u hu h => by rw [hf.plain u hu] at h; exact h) (fun u hu h => ?_) ?_ ?_ ?_
  · rcases hf.atom u hu with e | e
    · rw [e] at h; exact h
    · rw [e] at h; cases h
  · intro a b ha hb h
    rw [hf.cons] at h
    simp only [AV.ment, Bool.or_eq_true] at h ⊢
    exact h.imp ha hb
  · intro l hl h; rw [hf.tup] at h; exact hl h
  · intro k l hl h; rw [hf.clo] at h; exact hl h

theorem Trim.comm (hf : Trim T f) (hg : Trim T' g) : ∀ u, f (g u) = g (f u) := by
  refine AV.shape _ (fun u hu => by rw [hf.plain u hu, hg.plain u hu, hf.plain u hu]) (fun u hu => ?_) ?_ ?_ ?_
  · have ha : f .any = .any := hf.plain _ rfl
    have hb : g .any = .any := hg.plain _ rfl
    rcases hf.atom u hu with e | e <;> rcases hg.atom u hu with e' | e' <;> simp only [e, e', ha, hb]
  · intro a b ha hb; rw [hg.cons, hf.cons, hf.cons, hg.cons, ha, hb]
  · intro l hl; rw [hg.tup, hf.tup, hf.tup, hg.tup, hl]
  · intro k l hl; rw [hg.clo, hf.clo, hf.clo, hg.clo, hl]

theorem Trim.drop (i : Nat) : Trim [i] (AV.drop i) := by
  refine Trim.map (fun u _ => ?_) (fun u _ hm => ?_)
  · cases hm : u.ment i with
    | true => exact .inr (by simp only)
    | false => exact .inl (by simp only)
  · simp only [hm i (by simp)]

theorem Trim.kill (i : Nat) (ow : Bool × Ty) (q : List Step) : Trim [i] (AV.kill i ow q) := by
  refine Trim.map (fun u hu => ?_) (fun u _ hm => ?_)
  · unfold AV.kill1
    split
    · exact .inl rfl
    · split
      · split <;> first | exact .inl rfl | exact .inr rfl
      · split
        · exact .inl rfl
        · split <;> first | exact .inl rfl | exact .inr rfl
      · split <;> first | exact .inl rfl | exact .inr rfl
      · split <;> first | exact .inl rfl | exact .inr rfl
      · exact .inr rfl
  · unfold AV.kill1; rw [hm i (by simp)]

theorem Trim.killR (i : Nat) (ow : Bool) : Trim [i] (AV.map (AV.killR1 i ow)) := by
  refine Trim.map (fun u hu => ?_) (fun u _ hm => ?_)
  · unfold AV.killR1
    split
    · exact .inl rfl
    · split
      · split <;> first | exact .inl rfl | exact .inr rfl
      · split <;> first | exact .inl rfl | exact .inr rfl
      · split <;> first | exact .inl rfl | exact .inr rfl
      · exact .inr rfl
  · unfold AV.killR1; rw [hm i (by simp)]

def dropsF : List Nat → AV → AV
  | [], u => u
  | i :: g, u => dropsF g (u.drop i)

theorem Trim.drops : ∀ g : List Nat, Trim g (dropsF g)
  | [] => Trim.id []
  | i :: g => Trim.comp (Trim.drop i) (Trim.drops g) (by simp) (fun j hj => List.mem_cons_of_mem _ hj)
end

/-- a state that has turned in the objects T and got those of 'ids' -/
structure Moved (s s1 : St) (T ids : List Nat) (f : AV → AV) (h : Nat → Option Ent) : Prop where
  fr : ∀ n, look n s1.fr = (look n s.fr).map f
  hp : ∀ i, look i s1.hp = if i ∈ T ∨ i ∈ ids then h i else look i s.hp

/-- names that may be laid -/
def NewIds (s : St) (ids : List Nat) : Prop := ∀ n ∈ ids, look n s.hp = none ∧ ∀ m v, look m s.fr = some v → v.ment n = false

theorem look_drops : ∀ {g : List Nat} {s : St} {n : Nat}, look n (St.drops g s).fr = (look n s.fr).map (dropsF g)
  | [], s, n => by simp [St.drops, dropsF]
  | i :: g, s, n => by
    simp only [St.drops]
    rw [look_drops (g := g) (s := s.drop i)]
    simp only [St.drop, look_mapA, Option.map_map]
    rfl

theorem mapA_mem {f : AV → AV} {q : Nat × AV} : ∀ {l : List (Nat × AV)}, q ∈ mapA f l → ∃ r ∈ l, r.1 = q.1
  | (n, x) :: l, h => by
    rcases List.mem_cons.1 h with rfl | h
    · exact ⟨_, List.mem_cons_self .., rfl⟩
    · obtain ⟨r, hr, e⟩ := mapA_mem h; exact ⟨r, by simp [hr], e⟩

theorem uniq_mapA {f : AV → AV} : ∀ {l : List (Nat × AV)}, uniq l → uniq (mapA f l)
  | [], _ => trivial
  | (n, x) :: l, ⟨h1, h2⟩ => ⟨fun q hq => by obtain ⟨r, hr, e⟩ := mapA_mem hq; rw [← e]; exact h1 r hr, uniq_mapA h2⟩

theorem uniq_drops : ∀ {g : List Nat} {s : St}, uniq s.fr → uniq (St.drops g s).fr
  | [], _, h => h
  | i :: g, s, h => uniq_drops (g := g) (s := s.drop i) (uniq_mapA h)

def Agree (s t : St) (xs : List Operand) : Prop := ∀ x ∈ xs, t.ev x = s.ev x ∧ ∀ i, (s.ev x).ment i = true → t.obj i = s.obj i

theorem Agree.refl (s : St) (xs : List Operand) : Agree s s xs := fun _ _ => ⟨rfl, fun _ _ => rfl⟩

def OR.withSt (t : St) : OR → OR
  | .fail w => .fail w
  | .ok v _ => .ok v t
  | .okN p v _ => .okN p v t

def OR.av : OR → AV
  | .ok v _ => v
  | .okN _ v _ => v
  | .fail _ => .any

section
variable {E : Env} {s t : St}

theorem arith_st (k : IntKind) (r : Int) : arith k r t = (arith k r s).withSt t := by unfold arith; split <;> rfl
theorem binI_st (op : BinOp) (k k' : IntKind) (a b : Int) : binI op k a k' b t = (binI op k a k' b s).withSt t := by
  unfold binI
  split
  · rfl
  · rfl
  · split
    · split <;> first | rfl | exact arith_st _ _
    · rfl
theorem binS_st (op : BinOp) (a b : List UInt8) : binS op a b t = (binS op a b s).withSt t := by unfold binS; split <;> rfl
theorem binA_st (T : TypeId) (op : BinOp) (x y : AV) : binA E T op x y t = (binA E T op x y s).withSt t := by
  unfold binA
  split
  · exact binI_st ..
  · split <;> rfl
  · exact binS_st ..
  · rfl
theorem eqA_st (T : TypeId) (op : BinOp) (a : Ty) (x : a.den) (u : Ty) (y : u.den) : eqA E T op a x u y t = (eqA E T op a x u y s).withSt t := by
  unfold eqA
  split
  · split <;> rfl
  · rfl
theorem binE_st (T : TypeId) (op : BinOp) (x y : AV) : binE E T op x y t = (binE E T op x y s).withSt t := by
  unfold binE
  split
  · exact eqA_st ..
  · exact eqA_st ..
  · exact binA_st ..
theorem unA_st (op : UnOp) (x : AV) : unA op x t = (unA op x s).withSt t := by
  unfold unA
  repeat' (first | rfl | exact arith_st _ _ | split)

theorem evs_st : ∀ {xs : List Operand}, (∀ x ∈ xs, t.ev x = s.ev x) → t.evs xs = s.evs xs
  | [], _ => rfl
  | x :: xs, h => by simp only [St.evs, h x (by simp), evs_st (xs := xs) (fun y hy => h y (by simp [hy]))]

theorem evs_ment {i : Nat} : ∀ {xs : List Operand}, (s.evs xs).ment i = true → ∃ x ∈ xs, (s.ev x).ment i = true
  | [], h => by cases h
  | x :: xs, h => by
    simp only [St.evs, AV.ment, Bool.or_eq_true] at h
    rcases h with h | h
    · exact ⟨x, by simp, h⟩
    · obtain ⟨y, hy, h⟩ := evs_ment h; exact ⟨y, by simp [hy], h⟩

theorem ment_evs {i : Nat} {x : Operand} : ∀ {xs : List Operand}, x ∈ xs → (s.ev x).ment i = true → (s.evs xs).ment i = true
  | y :: xs, hx, h => by
    simp only [St.evs, AV.ment, Bool.or_eq_true]
    rcases List.mem_cons.1 hx with rfl | hx
    · exact .inl h
    · exact .inr (ment_evs hx h)

theorem app_ment {i : Nat} : ∀ {a b : AV}, (a.app b).ment i = true → a.ment i = true ∨ b.ment i = true := by
  intro a
  induction a with
  | cons x l _ ih =>
    intro b h
    simp only [AV.app, AV.ment, Bool.or_eq_true] at h ⊢
    rcases h with h | h
    · exact .inl (.inl h)
    · rcases ih h with h | h
      · exact .inl (.inr h)
      · exact .inr h
  | _ => intro b h; exact .inr h

/-- two states alike in the objects that a value speaks of -/
def Alike (s t : St) (v : AV) : Prop := ∀ i, v.ment i = true → t.obj i = s.obj i

theorem part_st {i : Nat} {p : List Step} (h : t.obj i = s.obj i) : t.part i p = s.part i p := by simp only [St.part, h]
theorem view_st {i : Nat} {p : List Step} {a b : Int} (h : t.obj i = s.obj i) : t.view i p a b = s.view i p a b := by simp only [St.view, part_st h]
theorem lend_st {u : Ty} {i : Nat} {p : List Step} (h : t.obj i = s.obj i) : t.lend u i p = s.lend u i p := by simp only [St.lend, part_st h]
theorem asV_st {u : Ty} {v : AV} (h : Alike s t v) : v.asV t u = v.asV s u := by
  cases v <;> first | rfl | exact lend_st (h _ (by simp [AV.ment])) | (simp only [AV.asV]; rw [view_st (h _ (by simp [AV.ment]))])
theorem asR_st {u : Ty} {v : AV} (h : Alike s t v) : v.asR t u = v.asR s u := by
  cases v <;> first | rfl | exact lend_st (h _ (by simp [AV.ment]))
theorem asRL_st : ∀ {ts : List Ty} {v : AV}, Alike s t v → AV.asRL t ts v = AV.asRL s ts v
  | [], v, _ => by cases v <;> rfl
  | u :: ts, v, h => by
    cases v <;> try rfl
    rename_i a b
    simp only [AV.asRL, asR_st (v := a) (fun i hi => h i (by simp [AV.ment, hi])), asRL_st (v := b) (fun i hi => h i (by simp [AV.ment, hi]))]
theorem give_st {v : AV} (h : Alike s t v) : v.give t = v.give s := by
  cases v <;> try rfl
  · rename_i i p; cases p <;> simp only [AV.give, h i (by simp [AV.ment])]
  · rename_i i p a b; cases p <;> simp only [AV.give, h i (by simp [AV.ment])]
theorem els_st {v : AV} (h : Alike s t v) : v.els t = v.els s := by
  unfold AV.els
  split
  · rfl
  · rename_i i p; simp only [part_st (h i (by simp [AV.ment]))]
  · rename_i i p a b; simp only [view_st (h i (by simp [AV.ment]))]
  · rfl
theorem give_ment {v : AV} {r : Sigma Ty.den} {g : List Nat} (h : v.give s = some (r, g)) : ∀ i ∈ g, v.ment i = true := by
  unfold AV.give at h
  split at h
  · cases h; simp
  · split at h
    · cases h; simp [AV.ment]
    · cases h
  · split at h
    · cases h; simp [AV.ment]
    · cases h
  · cases h
theorem giveV_st {v : AV} (h : Alike s t v) : v.giveV t = v.giveV s := by
  unfold AV.giveV
  split
  · rename_i i
    rw [h i (by simp [AV.ment]), give_st h]
  · exact give_st h
theorem giveV_ment {v : AV} {r : Sigma Ty.den} {g : List Nat} (h : v.giveV s = some (r, g)) : ∀ i ∈ g, v.ment i = true := by
  unfold AV.giveV at h
  split at h
  · split at h
    · cases h; simp [AV.ment]
    · exact give_ment h
  · exact give_ment h
theorem app1_st {u : Ty} {v : AV} (h : Alike s t v) : v.app1 t u = v.app1 s u := by
  unfold AV.app1
  split
  · rfl
  · rfl
  · simp only [els_st h, give_st h]
theorem app1_ment {u : Ty} {v : AV} {r : Sigma fun t : Ty => List t.den} {g : List Nat} (h : v.app1 s u = some (r, g)) : ∀ i ∈ g, v.ment i = true := by
  unfold AV.app1 at h
  split at h
  · cases h; simp
  · cases h; simp
  · split at h
    · cases h
    · split at h
      · cases h; simp
      · split at h
        · rename_i hg; cases h; exact give_ment hg
        · cases h
theorem bnd_st {d : Int} {x : Option Operand} (h : ∀ y, x = some y → t.ev y = s.ev y) : bnd t d x = bnd s d x := by
  cases x with
  | none => rfl
  | some y => simp only [bnd, h y rfl]

theorem asK_st {k : PK} {v : AV} (h : Alike s t v) : v.asK t k = v.asK s k := by
  cases k with
  | v u => simp only [AV.asK, asV_st h]
  | rd u => simp only [AV.asK, asR_st h]
  | clo f ts =>
    cases v <;> try rfl
    simp only [AV.asK]; rw [asRL_st (fun i hi => h i (by simpa [AV.ment] using hi))]
  | own u =>
    have hg := giveV_st h
    unfold AV.asK
    dsimp only
    split
    · rfl
    · rw [hg]
  | rw u =>
    cases v <;> try rfl
    rename_i i p; cases p <;> simp only [AV.asK, h i (by simp [AV.ment])]
  | mu u =>
    cases v <;> try rfl
    rename_i i p; cases p <;> simp only [AV.asK, h i (by simp [AV.ment])]
theorem asKs_st : ∀ {ks : List PK} {v : AV}, Alike s t v → AV.asKs t ks v = AV.asKs s ks v
  | [], v, _ => by cases v <;> rfl
  | k :: ks, v, h => by
    cases v <;> try rfl
    rename_i a b
    simp only [AV.asKs, asK_st (v := a) (fun i hi => h i (by simp [AV.ment, hi])), asKs_st (v := b) (fun i hi => h i (by simp [AV.ment, hi]))]

theorem asK_ment {k : PK} {v : AV} {x : k.den} {g m : List Nat} (h : v.asK s k = some (x, g, m)) : (∀ i ∈ g ++ m, v.ment i = true) ∧ (k.takes = false → g = [] ∧ m = []) := by
  cases k with
  | v u => simp only [AV.asK] at h; split at h <;> cases h; simp
  | rd u => simp only [AV.asK] at h; split at h <;> cases h; simp
  | clo f ts =>
    simp only [AV.asK] at h
    split at h
    · split at h
      · split at h <;> cases h; simp
      · cases h
    · cases h
  | own u =>
    refine ⟨?_, fun h => by cases h⟩
    simp only [AV.asK] at h
    split at h
    · split at h <;> cases h; simp
    · split at h
      · rename_i hg
        split at h
        · cases h
          intro i hi
          exact giveV_ment hg i (by simpa using hi)
        · cases h
      · cases h
  | rw u =>
    refine ⟨?_, fun h => by cases h⟩
    simp only [AV.asK] at h
    split at h
    · split at h
      · split at h
        · cases h; simp [AV.ment]
        · cases h
      · cases h
    · cases h
  | mu u =>
    refine ⟨?_, fun h => by cases h⟩
    simp only [AV.asK] at h
    split at h
    · split at h
      · split at h
        · cases h; simp [AV.ment]
        · cases h
      · cases h
    · cases h

theorem asKs_ment : ∀ {ks : List PK} {v : AV} {x : DK ks} {g m : List Nat}, AV.asKs s ks v = some (x, g, m) → (∀ i ∈ g ++ m, v.ment i = true) ∧ (ks.any PK.takes = false → g = [] ∧ m = [])
  | [], v, x, g, m, h => by
    cases v <;> simp only [AV.asKs] at h <;> cases h
    simp
  | k :: ks, v, x, g, m, h => by
    cases v <;> simp only [AV.asKs] at h <;> try (cases h; done)
    split at h
    · rename_i h1 h2
      cases h
      obtain ⟨a1, a2⟩ := asK_ment h1
      obtain ⟨b1, b2⟩ := asKs_ment h2
      refine ⟨?_, ?_⟩
      · intro i hi
        simp only [List.mem_append] at hi a1 b1
        simp only [AV.ment, Bool.or_eq_true]
        rcases hi with (hi | hi) | (hi | hi)
        · exact .inl (a1 i (.inl hi))
        · exact .inr (b1 i (.inl hi))
        · exact .inl (a1 i (.inr hi))
        · exact .inr (b1 i (.inr hi))
      · intro ht
        simp only [List.any_cons, Bool.or_eq_false_iff] at ht
        obtain ⟨r1, r2⟩ := a2 ht.1
        obtain ⟨r3, r4⟩ := b2 ht.2
        simp [r1, r2, r3, r4]
    · cases h

theorem buildL_st : ∀ {parts : List (Nat × Operand)} {r : Sigma Ty.den}, (∀ q ∈ parts, t.ev q.2 = s.ev q.2 ∧ Alike s t (s.ev q.2)) → buildL t r parts = buildL s r parts
  | [], ⟨_, _⟩, _ => rfl
  | (i, v) :: parts, ⟨u, x⟩, h => by
    have ih := fun r => buildL_st (parts := parts) (r := r) (fun q hq => h q (by simp [hq]))
    obtain ⟨h1, h2⟩ := h (i, v) (by simp)
    have h1 : t.ev v = s.ev v := h1
    have h2 := giveV_st h2
    have h2 : (s.ev v).giveV t = (s.ev v).giveV s := h2
    simp only [buildL, h1, ih]
    split
    · rfl
    · split
      · rfl
      · rw [h2]

theorem buildL_ment : ∀ {parts : List (Nat × Operand)} {r r' : Sigma Ty.den} {g : List Nat}, buildL s r parts = some (r', g) → ∀ i ∈ g, ∃ q ∈ parts, (s.ev q.2).ment i = true
  | [], ⟨_, _⟩, r', g, h => by simp only [buildL] at h; cases h; simp
  | (j, v) :: parts, ⟨u, x⟩, r', g, h => by
    simp only [buildL] at h
    split at h
    · cases h
    · split at h
      · split at h
        · split at h
          · intro i hi
            obtain ⟨q, hq, hm⟩ := buildL_ment h i hi
            exact ⟨q, by simp [hq], hm⟩
          · cases h
        · cases h
      · split at h
        · rename_i hg
          split at h
          · split at h
            · rename_i hb
              cases h
              intro i hi
              rcases List.mem_append.1 hi with hi | hi
              · exact ⟨(j, v), by simp, giveV_ment hg i hi⟩
              · obtain ⟨q, hq, hm⟩ := buildL_ment hb i hi
                exact ⟨q, by simp [hq], hm⟩
            · cases h
          · cases h
        · cases h

end
end Go.Ex
