import Derived.Test.YtibpibbnnogdkaaExD
namespace Go.Ex

/-! ### lists by number -/
theorem beq_ne {n m : Nat} (h : n ≠ m) : Nat.beq n m = false := by
  cases e : Nat.beq n m with
  | true => exact absurd (Nat.eq_of_beq_eq_true e) h
  | false => rfl

section
variable {α : Type _}
theorem look_put (n m : Nat) (x : α) : ∀ l : List (Nat × α), look n (put m x l) = if n = m then some x else look n l
  | [] => by
    simp only [put, look]
    by_cases h : n = m
    · subst h; simp
    · rw [if_neg h]; have : Nat.beq n m = false := beq_ne h
      simp [this]
  | (k, y) :: l => by
    simp only [put]
    cases hk : Nat.beq m k with
    | true =>
      have : m = k := Nat.eq_of_beq_eq_true hk
      subst this
      simp only [look]
      by_cases h : n = m
      · subst h; simp
      · rw [if_neg h]; have : Nat.beq n m = false := beq_ne h
        simp [this]
    | false =>
      have hmk : m ≠ k := fun e => by subst e; simp at hk
      cases Nat.blt m k with
      | true =>
        simp only [look]
        by_cases h : n = m
        · subst h; simp
        · rw [if_neg h]; have : Nat.beq n m = false := beq_ne h
          simp [this]
      | false =>
        simp only [look]
        cases hn : Nat.beq n k with
        | true =>
          have : n = k := Nat.eq_of_beq_eq_true hn
          subst this
          simp [Ne.symm hmk]
        | false => exact look_put n m x l

theorem look_del (n m : Nat) : ∀ l : List (Nat × α), look n (del m l) = if n = m then none else look n l
  | [] => by simp [del, look]
  | (k, y) :: l => by
    simp only [del]
    cases hk : Nat.beq m k with
    | true =>
      have : m = k := Nat.eq_of_beq_eq_true hk
      subst this
      simp only [look, look_del n m l]
      by_cases h : n = m
      · simp [h]
      · have : Nat.beq n m = false := beq_ne h
        simp [h, this]
    | false =>
      have hmk : m ≠ k := fun e => by subst e; simp at hk
      simp only [look]
      cases hn : Nat.beq n k with
      | true =>
        have : n = k := Nat.eq_of_beq_eq_true hn
        subst this
        simp [Ne.symm hmk]
      | false => exact look_del n m l

theorem look_mapA (n : Nat) (f : α → α) : ∀ l : List (Nat × α), look n (mapA f l) = (look n l).map f
  | [] => rfl
  | (k, y) :: l => by
    simp only [mapA, look]
    cases Nat.beq n k with
    | true => rfl
    | false => exact look_mapA n f l
end

theorem look_noMent {d : Nat} : ∀ {l : List (Nat × AV)}, noMent d l = true → ∀ {n : Nat} {v : AV}, look n l = some v → v.ment d = false
  | [], _, _, _, h => by cases h
  | (k, y) :: l, h, n, v, hv => by
    simp only [noMent, Bool.and_eq_true, Bool.not_eq_true'] at h
    simp only [look] at hv
    cases hk : Nat.beq n k with
    | true => rw [hk] at hv; cases hv; exact h.1
    | false => rw [hk] at hv; exact look_noMent h.2 hv

/-- values that speak of objects -/
def AV.ref : AV → Bool
  | .ptr _ _ | .at_ _ _ | .sub _ _ _ _ => true
  | _ => false

theorem AV.map_congr {f g : AV → AV} : ∀ {v : AV}, (∀ u : AV, u.ref = true → (∀ i, u.ment i = true → v.ment i = true) → f u = g u) → v.map f = v.map g := by
  intro v
  induction v with
  | ptr i p => intro h; exact h _ rfl (fun _ h => h)
  | at_ i p => intro h; exact h _ rfl (fun _ h => h)
  | sub i p a b => intro h; exact h _ rfl (fun _ h => h)
  | cons a b iha ihb =>
    intro h
    simp only [AV.map]
    rw [iha (fun u hu hm => h u hu (fun i hi => by simp [AV.ment, hm i hi])), ihb (fun u hu hm => h u hu (fun i hi => by simp [AV.ment, hm i hi]))]
  | tup l ih => intro h; simp only [AV.map]; rw [ih h]
  | clo f l ih => intro h; simp only [AV.map]; rw [ih h]
  | _ => intro _; rfl

theorem AV.map_id : ∀ v : AV, v.map (fun u => u) = v := by
  intro v
  induction v with
  | cons a b iha ihb => simp only [AV.map, iha, ihb]
  | tup l ih => simp only [AV.map, ih]
  | clo f l ih => simp only [AV.map, ih]
  | _ => rfl

theorem AV.map_same {f : AV → AV} {v : AV} (h : ∀ u : AV, u.ref = true → (∀ i, u.ment i = true → v.ment i = true) → f u = u) : v.map f = v := by
  rw [AV.map_congr (g := fun u => u) h, AV.map_id]

theorem drop_noMent {d : Nat} {v : AV} (h : v.ment d = false) : v.drop d = v := by
  refine AV.map_same (fun u _ hm => ?_)
  have : u.ment d = false := by
    cases e : u.ment d with
    | false => rfl
    | true => rw [hm d e] at h; cases h
  simp only [this]

theorem kill_noMent {d : Nat} {ow : Bool × Ty} {q : List Step} {v : AV} (h : v.ment d = false) : v.kill d ow q = v := by
  refine AV.map_same (fun u _ hm => ?_)
  have : u.ment d = false := by
    cases e : u.ment d with
    | false => rfl
    | true => rw [hm d e] at h; cases h
  simp only [AV.kill1, this]

/-! ### where a part lies, under another root -/
theorem nav_move {H H' : Array Go.Obj} {S : Nat → Prop} : ∀ {t : Ty} {p : List Step} {r off r' off' : Nat} {O : List Nat} {x : t.den}, Rep H S t O (cellsAt H r off t.size) x → off + t.size ≤ (blk H r).length → okP t x p →
    cellsAt H' r' off' t.size = cellsAt H r off t.size → (∀ c ∈ O, H'[c]? = H[c]?) → ∀ {u : Ty} {y : u.den}, getP t x p = some ⟨u, y⟩ →
    (∃ k, Nav H t p r off = some (r, off + k) ∧ Nav H' t p r' off' = some (r', off' + k) ∧ k + u.size ≤ t.size) ∨ (∃ b o, Nav H t p r off = some (b, o) ∧ Nav H' t p r' off' = some (b, o) ∧ b ∈ O) := by
  intro t
  have sub : ∀ {r off r' off' n o m : Nat}, cellsAt H' r' off' n = cellsAt H r off n → o + m ≤ n → cellsAt H' r' (off' + o) m = cellsAt H r (off + o) m := by
    intro r off r' off' n o m h hm
    have e : ∀ (K : Array Go.Obj) (c d : Nat), cellsAt K c (d + o) m = ((cellsAt K c d n).drop o).take m := by
      intro K c d
      rw [cellsAt_drop, cellsAt_take _ _ _ _ (by omega)]
    rw [e H', e H, h]
  have shift : ∀ {a : Ty} {q : List Step} {r off r' off' d n s : Nat} {O : List Nat}, (∃ k, Nav H a q r (off + d) = some (r, off + d + k) ∧ Nav H' a q r' (off' + d) = some (r', off' + d + k) ∧ k + s ≤ n) ∨ (∃ b o, Nav H a q r (off + d) = some (b, o) ∧ Nav H' a q r' (off' + d) = some (b, o) ∧ b ∈ O) →
      ∀ {m : Nat} {O' : List Nat}, d + n ≤ m → (∀ c ∈ O, c ∈ O') → (∃ k, Nav H a q r (off + d) = some (r, off + k) ∧ Nav H' a q r' (off' + d) = some (r', off' + k) ∧ k + s ≤ m) ∨ (∃ b o, Nav H a q r (off + d) = some (b, o) ∧ Nav H' a q r' (off' + d) = some (b, o) ∧ b ∈ O') := by
    intro a q r off r' off' d n s O h m O' hm hO
    rcases h with ⟨k, h1, h2, h3⟩ | ⟨b, o, h1, h2, h3⟩
    · exact .inl ⟨d + k, by rw [h1, Nat.add_assoc], by rw [h2, Nat.add_assoc], by omega⟩
    · exact .inr ⟨b, o, h1, h2, hO b h3⟩
  induction t with
  | pair a c iha ihc =>
    intro p r off r' off' O x hR hb ho hc hO u y hg
    match p, ho, hg with
    | [], _, hg => simp only [getP, Option.some.injEq] at hg; cases hg; exact .inl ⟨0, rfl, rfl, by omega⟩
    | .fld 0 :: p, ho, hg =>
      obtain ⟨P1, P2, rfl, h1, h2⟩ := hR
      simp only [Ty.size] at *
      rw [cellsAt_take _ _ _ _ (by omega)] at h1
      have := iha h1 (by omega) ho (by have := sub (o := 0) (m := a.size) hc (by omega); simpa using this) (fun c hc => hO c (by simp [hc])) hg
      exact shift (d := 0) this (by omega) (fun c hc => by simp [hc])
    | .fld (n + 1) :: p, ho, hg =>
      obtain ⟨P1, P2, rfl, h1, h2⟩ := hR
      simp only [Ty.size] at *
      rw [cellsAt_drop, Nat.add_sub_cancel_left] at h2
      have := ihc h2 (by omega) ho (sub (o := a.size) (m := c.size) hc (by omega)) (fun c hc => hO c (by simp [hc])) hg
      exact shift (d := a.size) this (by omega) (fun c hc => by simp [hc])
    | .idx i :: p, ho, _ => simp [okP] at ho
  | arr n t ih =>
    intro p r off r' off' O x hR hb ho hc hO u y hg
    match p, ho, hg with
    | [], _, hg => simp only [getP, Option.some.injEq] at hg; cases hg; exact .inl ⟨0, rfl, rfl, by omega⟩
    | .idx i :: p, ho, hg =>
      obtain ⟨hi, ho⟩ := ho
      obtain ⟨hl, hR⟩ := hR
      simp only [Ty.size] at *
      obtain ⟨b1, b2, b3, b4⟩ := idx_bound (sz := t.size) hi
      obtain ⟨P1, P2, P3, rfl, g1, g2, g3⟩ := RepL.split (d := t.dflt) (i := i.toNat) (by rw [hl]; exact b1) hR
      rw [cellsAt_drop, cellsAt_take _ _ _ _ (by omega)] at g2
      have := ih g2 (by omega) ho (sub (o := i.toNat * t.size) (m := t.size) hc (by omega)) (fun c hc => hO c (by simp [hc])) hg
      exact shift (d := i.toNat * t.size) this (by omega) (fun c hc => by simp [hc])
    | .fld i :: p, ho, _ => simp [okP] at ho
  | slc o t ih =>
    intro p r off r' off' O x hR hb ho hc hO u y hg
    match p, ho, hg with
    | [], _, hg => refine .inl ⟨0, by cases o <;> rfl, by cases o <;> rfl, ?_⟩; have hg : some (⟨.slc o t, x⟩ : Sigma Ty.den) = some ⟨u, y⟩ := (by cases o <;> exact hg); cases hg; omega
    | .idx i :: p, ho, hg =>
      cases o with
      | false => simp [okP] at ho
      | true =>
        obtain ⟨hi, ho⟩ := ho
        rcases hR with ⟨_, _, hn⟩ | ⟨b1, o1, cap, O', c1, c2, c3, c4, c5, rfl, c6⟩
        · subst hn; simp at hi; omega
        · simp only [Ty.size] at *
          have hh := (cellsAt_one r off _).1 c1
          have hh' := (cellsAt_one r' off' _).1 (hc.trans c1)
          obtain ⟨b1', b2, b3, b4⟩ := idx_bound (sz := t.size) hi
          obtain ⟨P1, P2, P3, rfl, g1, g2, g3⟩ := RepL.split (d := t.dflt) (i := i.toNat) b1' c5
          rw [cellsAt_drop, cellsAt_take _ _ _ _ (by omega)] at g2
          have hcap : List.length x * t.size ≤ cap * t.size := Nat.mul_le_mul_right _ c2
          have := ih g2 (by omega) ho (r' := b1) (off' := o1 + i.toNat * t.size) (cellsAt_congr (hO b1 (by simp)) _ _) (fun c hc => hO c (by simp [hc])) hg
          simp only [Nav, hh, hh']
          rcases this with ⟨k, h1, h2, h3⟩ | ⟨b, o, h1, h2, h3⟩
          · exact .inr ⟨b1, _, h1, h2, by simp⟩
          · exact .inr ⟨b, o, h1, h2, by simp [h3]⟩
    | .fld i :: p, ho, _ => cases o <;> simp [okP] at ho
  | _ =>
    intro p r off r' off' O x hR hb ho hc hO u y hg
    match p, ho, hg with
    | [], _, hg => simp only [getP, Option.some.injEq] at hg; cases hg; exact .inl ⟨0, rfl, rfl, by omega⟩
    | .fld i :: p, ho, _ => simp [okP] at ho
    | .idx i :: p, ho, _ => simp [okP] at ho



/-! ### what abstract values say -/
structure Ix where
  root : Nat → Nat × Nat
  cells : Nat → List Value
  own : Nat → List Nat

/-- a heap with a value's cells laid behind it -/
def gh (H : Array Go.Obj) (cs : List Value) : Array Go.Obj := H.push (.cells cs.toArray 0)

/-- where an object's cells are to be found -/
def VH (H : Array Go.Obj) (ι : Ix) (i : Nat) : Ent → Array Go.Obj
  | .own _ _ => gh H (ι.cells i)
  | _ => H
def VR (H : Array Go.Obj) (ι : Ix) (i : Nat) : Ent → Nat × Nat
  | .own _ _ => (H.size, 0)
  | _ => ι.root i

def Place (H : Array Go.Obj) (ι : Ix) (i : Nat) (e : Ent) (p : List Step) : Option (Nat × Nat) :=
  match e with
  | .bag => none
  | e => Nav (VH H ι i e) e.ty p (VR H ι i e).1 (VR H ι i e).2

theorem Place_eq {H : Array Go.Obj} {ι : Ix} {i : Nat} {e : Ent} {p : List Step} (he : e ≠ .bag) : Place H ι i e p = Nav (VH H ι i e) e.ty p (VR H ι i e).1 (VR H ι i e).2 := by
  cases e <;> first | rfl | exact absurd rfl he
theorem Place_bag {H : Array Go.Obj} {ι : Ix} {i : Nat} {e : Ent} {p : List Step} {r : Nat × Nat} (h : Place H ι i e p = some r) : e ≠ .bag := by
  rintro rfl; cases h

/-- a part's place in memory -/
def Loc (H : Array Go.Obj) (ι : Ix) (i : Nat) (e : Ent) (p : List Step) : Option (Nat × Nat) :=
  match Place H ι i e p with
  | some (b, off) => if b < H.size then some (b, off) else none
  | none => none

def Cells (H : Array Go.Obj) (ι : Ix) (i : Nat) (e : Ent) (p : List Step) (u : Ty) (cs : List Value) : Prop :=
  ∃ b off, Place H ι i e p = some (b, off) ∧ cs = cellsAt (VH H ι i e) b off u.size

/-- a view of elements: the address moves unless nothing is left -/
def SubV (sz : Nat) (a : Option Addr) (cap : Nat) (lo hi : Int) (v : Value) : Prop :=
  ∃ c A, v = .slice A (hi - lo).toNat c ∧ (c ≠ 0 → A = a.map (·.add (lo.toNat * sz))) ∧ (hi - lo).toNat ≤ c ∧ lo.toNat + c ≤ cap

def VX (H : Array Go.Obj) (S : Nat → Prop) (ι : Ix) (hp : List (Nat × Ent)) : AV → List Value → Prop
  | .any, vs => ∃ v, vs = [v]
  | .raw v, vs => vs = [v]
  | .val t x, vs => ∃ cs, vs = [toV t cs] ∧ Rep H S t [] cs x
  | .ptr i p, vs => ∃ e b off, look i hp = some e ∧ okP e.ty e.x p ∧ Loc H ι i e p = some (b, off) ∧ vs = [.pointer (some ⟨b, off, none⟩)]
  | .rptr t x, vs => ∃ b off, vs = [.pointer (some ⟨b, off, none⟩)] ∧ S b ∧ off + t.size ≤ (blk H b).length ∧ Rep H S t [] (cellsAt H b off t.size) x
  | .at_ i p, vs => ∃ e u y cs, look i hp = some e ∧ okP e.ty e.x p ∧ getP e.ty e.x p = some ⟨u, y⟩ ∧ Cells H ι i e p u cs ∧ vs = [toV u cs]
  | .sub i p lo hi, vs => ∃ e v, look i hp = some e ∧ okP e.ty e.x p ∧ vs = [v] ∧ 0 ≤ lo ∧ lo ≤ hi ∧
      ((∃ t l a cap, getP e.ty e.x p = some ⟨.slc true t, l⟩ ∧ hi ≤ (List.length l : Int) ∧ Cells H ι i e p (.slc true t) [.slice a (List.length l) cap] ∧ SubV t.size a cap lo hi v) ∨
       (∃ n t l b off, getP e.ty e.x p = some ⟨.arr n t, l⟩ ∧ (hi ≤ (n : Int) ∧ n ≤ maxLen) ∧ Loc H ι i e p = some (b, off) ∧ SubV t.size (some ⟨b, off, none⟩) n lo hi v))
  | .nil, vs => vs = []
  | .cons a b, vs => ∃ v us, vs = v :: us ∧ VX H S ι hp a [v] ∧ VX H S ι hp b us
  | .tup l, vs => ∃ us, vs = [.tuple us.toArray] ∧ VX H S ι hp l us
  | .clo f l, vs => ∃ us, vs = [.func (.func f) #[] us.toArray] ∧ VX H S ι hp l us

/-- an object in memory -/
def OB (H : Array Go.Obj) (S : Nat → Prop) (ι : Ix) (i : Nat) : Ent → Prop
  | .var t x => (∃ O, O.Perm (ι.own i) ∧ Rep H S t O (cellsAt H (ι.root i).1 (ι.root i).2 t.size) x) ∧ Free H (ι.root i).1 ((ι.root i).2 + t.size) ∧ ((ι.root i).1 :: ι.own i).Nodup
  | .own t x => (∃ O, O.Perm (ι.own i) ∧ Rep H S t O (ι.cells i) x) ∧ (ι.own i).Nodup
  | .bag => (ι.own i).Nodup

def blks (ι : Ix) (i : Nat) : Ent → List Nat
  | .var _ _ => (ι.root i).1 :: ι.own i
  | .own _ _ => ι.own i
  | .bag => ι.own i

/-- where the call began: its world, what it may read, what was there that it may write, how many slots, and what stays where it is -/
structure Base where
  w0 : World
  S0 : Nat → Prop
  M : Nat → Prop
  n : Nat
  pins : List (Nat × (Nat × Nat) × List Value)

structure HS (B : Base) (S : Nat → Prop) (ι : Ix) (hp : List (Nat × Ent)) (w : World) : Prop where
  os : w.os = B.w0.os
  tape : w.tape = B.w0.tape
  out : w.output = B.w0.output
  size : B.w0.heap.size ≤ w.heap.size
  frame : ∀ c, c < B.w0.heap.size → ¬ B.M c → w.heap[c]? = B.w0.heap[c]?
  slt : ∀ b, S b → b < w.heap.size
  s0 : ∀ b, B.S0 b → S b
  s1 : ∀ b, S b → B.S0 b ∨ B.w0.heap.size ≤ b
  ob : ∀ i e, look i hp = some e → OB w.heap S ι i e
  bl : ∀ i e, look i hp = some e → ∀ b ∈ blks ι i e, ¬ S b ∧ (B.w0.heap.size ≤ b ∨ B.M b) ∧ b < w.heap.size
  dj : ∀ i j ei ej, look i hp = some ei → look j hp = some ej → i ≠ j → ∀ b ∈ blks ι i ei, b ∉ blks ι j ej
  pin : ∀ q ∈ B.pins, pinned q.1 = true ∧ (∃ e, look q.1 hp = some e) ∧ ι.root q.1 = q.2.1 ∧ ι.cells q.1 = q.2.2

structure RS (B : Base) (S : Nat → Prop) (ι : Ix) (s : St) (a : Act) (w : World) : Prop where
  hs : HS B S ι s.hp w
  dfr : a.defers = []
  sz : a.tmps.size = B.n
  fr : ∀ t v, look t s.fr = some v → VX w.heap S ι s.hp v [a.tmps.getD t undef]

section
variable {H H' : Array Go.Obj} {S S' : Nat → Prop} {ι ι' : Ix} {hp hp' : List (Nat × Ent)}

theorem VX.map {f : AV → AV} (hH : ∀ b, S b → H'[b]? = H[b]?) (hS : ∀ b, S b → S' b) : ∀ {v : AV} {vs : List Value},
    (∀ u vs, u.ref = true → (∀ i, u.ment i = true → v.ment i = true) → VX H S ι hp u vs → VX H' S' ι' hp' (f u) vs) → VX H S ι hp v vs → VX H' S' ι' hp' (v.map f) vs := by
  intro v
  induction v with
  | any => intro vs _ h; exact h
  | raw v => intro vs _ h; exact h
  | val t x => rintro vs _ ⟨cs, e, h⟩; exact ⟨cs, e, h.stable (fun b hb => by rcases hb with hb | hb; cases hb; exact hH b hb) hS⟩
  | ptr i p => intro vs hf h; exact hf _ vs rfl (fun _ h => h) h
  | rptr t x =>
    rintro vs _ ⟨b, off, e, hb, h3, h4⟩
    refine ⟨b, off, e, hS b hb, by rw [blk_congr (hH b hb)]; exact h3, ?_⟩
    rw [cellsAt_congr (hH b hb)]
    exact h4.stable (fun b hb => by rcases hb with hb | hb; cases hb; exact hH b hb) hS
  | at_ i p => intro vs hf h; exact hf _ vs rfl (fun _ h => h) h
  | sub i p a b => intro vs hf h; exact hf _ vs rfl (fun _ h => h) h
  | nil => intro vs _ h; exact h
  | cons a b iha ihb => rintro vs hf ⟨v, us, e, ha, hb⟩; exact ⟨v, us, e, iha (fun u vs hu hm => hf u vs hu (fun i hi => by simp [AV.ment, hm i hi])) ha, ihb (fun u vs hu hm => hf u vs hu (fun i hi => by simp [AV.ment, hm i hi])) hb⟩
  | tup l ih => rintro vs hf ⟨us, e, h⟩; exact ⟨us, e, ih hf h⟩
  | clo f l ih => rintro vs hf ⟨us, e, h⟩; exact ⟨us, e, ih hf h⟩

theorem VX.one {v : AV} {vs : List Value} (hr : v.ref = true) (h : VX H S ι hp v vs) : ∃ x, vs = [x] := by
  cases v <;> simp only [AV.ref] at hr <;> try cases hr
  · obtain ⟨e, b, off, _, _, _, h4⟩ := h; exact ⟨_, h4⟩
  · obtain ⟨e, u, y, cs, _, _, _, _, h5⟩ := h; exact ⟨_, h5⟩
  · obtain ⟨e, v, _, _, h3, _⟩ := h; exact ⟨_, h3⟩

theorem gh_old {cs : List Value} {b : Nat} (h : b < H.size) : (gh H cs)[b]? = H[b]? := by
  rw [gh, Array.getElem?_push, if_neg (by omega)]
theorem gh_new {cs : List Value} : (gh H cs)[H.size]? = some (.cells cs.toArray 0) := by simp [gh]
theorem gh_blk {cs : List Value} : blk (gh H cs) H.size = cs := by simp [blk, gh_new]
theorem gh_size {cs : List Value} : (gh H cs).size = H.size + 1 := by simp [gh]

theorem Free.lt {b n : Nat} (h : Free H b n) : b < H.size := by
  obtain ⟨arr, T, ⟨fz, e, _⟩, _⟩ := h
  exact (Array.getElem?_eq_some_iff.1 e).1

theorem OB.own_lt {i : Nat} {e : Ent} (he : e ≠ .bag) (ho : OB H S ι i e) {c : Nat} (hc : c ∈ ι.own i) : c < H.size := by
  cases e with
  | var t x => obtain ⟨⟨O, hO, hR⟩, _⟩ := ho; exact (hR.memO c (hO.mem_iff.2 hc)).lt
  | own t x => obtain ⟨⟨O, hO, hR⟩, _⟩ := ho; exact (hR.memO c (hO.mem_iff.2 hc)).lt
  | bag => exact absurd rfl he

/-- an object, seen where its cells are -/
theorem OB.see {i : Nat} {e : Ent} (he : e ≠ .bag) (ho : OB H S ι i e) (hS : ∀ c, S c → c < H.size) : ∃ O, O.Perm (ι.own i) ∧ Rep (VH H ι i e) S e.ty O (cellsAt (VH H ι i e) (VR H ι i e).1 (VR H ι i e).2 e.ty.size) e.x ∧
    (VR H ι i e).2 + e.ty.size ≤ (blk (VH H ι i e) (VR H ι i e).1).length ∧ ((VR H ι i e).1 :: ι.own i).Nodup ∧ (VR H ι i e).1 < (VH H ι i e).size ∧ (¬ S (VR H ι i e).1 ∨ ∃ t x, e = .var t x) ∧ Free (VH H ι i e) (VR H ι i e).1 ((VR H ι i e).2 + e.ty.size) := by
  cases e with
  | var t x =>
    obtain ⟨⟨O, hO, hR⟩, hf, hnd⟩ := ho
    exact ⟨O, hO, hR, hf.blk, hnd, hf.lt, .inr ⟨t, x, rfl⟩, hf⟩
  | own t x =>
    have hlt := fun c hc => OB.own_lt (c := c) he ho hc
    obtain ⟨⟨O, hO, hR⟩, hnd⟩ := ho
    have hl := hR.length
    have hcells : cellsAt (gh H (ι.cells i)) H.size 0 t.size = ι.cells i := by
      simp only [cellsAt, gh_blk, List.drop_zero]
      exact List.take_of_length_le (by omega)
    refine ⟨O, hO, ?_, ?_, ?_, by simp [VR, VH, gh_size], .inl (fun h => Nat.lt_irrefl _ (hS _ h)), ⟨_, _, ⟨_, gh_new, .inl rfl⟩, by simp [VR, Ent.ty, hl]⟩⟩
    · simp only [VH, VR, Ent.ty, Ent.x, hcells]
      exact hR.stable (fun c hc => gh_old (hc.elim (fun h => hlt c (hO.mem_iff.1 h)) (hS c))) (fun _ h => h)
    · simp only [VH, VR, Ent.ty, gh_blk]; omega
    · exact List.nodup_cons.2 ⟨fun h => Nat.lt_irrefl _ (hlt _ h), hnd⟩
  | bag => exact absurd rfl he

theorem VH_old {i : Nat} {e : Ent} {c : Nat} (h : c < H.size) : (VH H ι i e)[c]? = H[c]? := by
  cases e <;> first | rfl | exact gh_old h

/-- a reading over the heap with the value's cells, over the heap itself -/
theorem VH_rep {i : Nat} {e : Ent} {t : Ty} {O : List Nat} {cs : List Value} {x : t.den} (hO : ∀ c ∈ O, c < H.size) (hS : ∀ c, S c → c < H.size) : Rep (VH H ι i e) S t O cs x ↔ Rep H S t O cs x :=
  ⟨fun h => h.stable (fun c hc => (VH_old (hc.elim (hO c) (hS c))).symm) (fun _ h => h), fun h => h.stable (fun c hc => VH_old (hc.elim (hO c) (hS c))) (fun _ h => h)⟩

/-- a part: its place, and what it owns -/
theorem OB.part {i : Nat} {e : Ent} (he : e ≠ .bag) (ho : OB H S ι i e) (hS : ∀ c, S c → c < H.size) {p : List Step} (hok : okP e.ty e.x p) {u : Ty} {y : u.den} (hg : getP e.ty e.x p = some ⟨u, y⟩) :
    ∃ b off O2, Place H ι i e p = some (b, off) ∧ (∀ c ∈ O2, c ∈ ι.own i) ∧ O2.Nodup ∧ Rep H S u O2 (cellsAt (VH H ι i e) b off u.size) y ∧ off + u.size ≤ (blk (VH H ι i e) b).length ∧
      (b < H.size → b ∈ blks ι i e ∧ Free H b (off + u.size)) := by
  obtain ⟨O, hO, hR, hb, hnd, hlt, hns, hfr⟩ := ho.see he hS
  obtain ⟨O1, O2, b', off', e1, e2, e3, e4, e5, e6⟩ := focus hR hb hok hg
  have hm : ∀ c, c ∈ O1 ∨ c ∈ O2 → c ∈ ι.own i := fun c hc => hO.mem_iff.1 (e1.mem_iff.2 (by simpa using hc))
  have hlt2 : ∀ c ∈ O2, c < H.size := fun c hc => ho.own_lt he (hm c (.inr hc))
  refine ⟨b', off', O2, (Place_eq he).trans e3, fun c hc => hm c (.inr hc), ?_, (VH_rep hlt2 hS).1 e4, e5, fun hbl => ?_⟩
  · exact (List.nodup_append.1 ((e1.nodup_iff).1 ((hO.nodup_iff).2 (List.nodup_cons.1 hnd).2))).2.1
  · have hfree : Free (VH H ι i e) b' (off' + u.size) := by
      rcases e6 with ⟨rfl, g1, g2⟩ | ⟨_, g⟩
      · exact hfr.mono g2
      · exact g
    refine ⟨?_, ?_⟩
    · rcases e6 with ⟨rfl, g1, g2⟩ | ⟨g, _⟩
      · cases e with
        | var t x => simp [blks, VR]
        | own t x => simp [VR] at hbl
        | bag => exact absurd rfl he
      · have := hm b' (.inl g)
        cases e <;> simp [blks, this]
    · obtain ⟨arr, T, ⟨fz, h1, h3⟩, h2⟩ := hfree
      rw [VH_old hbl] at h1
      exact ⟨arr, T, ⟨fz, h1, h3⟩, h2⟩

theorem Loc_place {i : Nat} {e : Ent} {p : List Step} {b off : Nat} (h : Loc H ι i e p = some (b, off)) : Place H ι i e p = some (b, off) ∧ b < H.size := by
  unfold Loc at h
  split at h
  · rename_i b' off' hp
    split at h
    · rename_i hlt; cases h; exact ⟨hp, hlt⟩
    · cases h
  · cases h

theorem Loc_of {i : Nat} {e : Ent} {p : List Step} {b off : Nat} (h : Place H ι i e p = some (b, off)) (hb : b < H.size) : Loc H ι i e p = some (b, off) := by
  unfold Loc; rw [h]; simp [hb]

theorem Loc_mem {i : Nat} {e : Ent} (he : e ≠ .bag) (ho : OB H S ι i e) (hS : ∀ c, S c → c < H.size) {p : List Step} (hok : okP e.ty e.x p) {u : Ty} {y : u.den} (hg : getP e.ty e.x p = some ⟨u, y⟩) {b off : Nat} (hl : Loc H ι i e p = some (b, off)) :
    ∃ O2, (∀ c ∈ O2, c ∈ ι.own i) ∧ O2.Nodup ∧ Rep H S u O2 (cellsAt H b off u.size) y ∧ off + u.size ≤ (blk H b).length ∧ b ∈ blks ι i e ∧ Free H b (off + u.size) := by
  obtain ⟨b', off', O2, k1, k2, k3, k4, k5, k6⟩ := ho.part he hS hok hg
  obtain ⟨h1, h2⟩ := Loc_place hl
  rw [k1] at h1; cases h1
  rw [cellsAt_congr (VH_old h2)] at k4
  rw [blk_congr (VH_old h2)] at k5
  exact ⟨O2, k2, k3, k4, k5, k6 h2⟩

/-- objects in blocks that have not turned -/
theorem OB.stable {i : Nat} {e : Ent} (ho : OB H S ι i e) (hH : ∀ b, b ∈ blks ι i e ∨ S b → H'[b]? = H[b]?) (hS : ∀ b, S b → S' b) : OB H' S' ι i e := by
  cases e with
  | var t x =>
    obtain ⟨⟨O, hO, hR⟩, ⟨arr, T, ⟨fz, hf, hf2⟩, hn⟩, hnd⟩ := ho
    have hr : H'[(ι.root i).1]? = H[(ι.root i).1]? := hH _ (.inl (by simp [blks]))
    refine ⟨⟨O, hO, ?_⟩, ⟨arr, T, ⟨fz, hr.trans hf, hf2⟩, hn⟩, hnd⟩
    rw [cellsAt_congr hr]
    exact hR.stable (fun b hb => hH b (hb.imp (fun h => by simp [blks, hO.mem_iff.1 h]) id)) hS
  | own t x =>
    obtain ⟨⟨O, hO, hR⟩, hnd⟩ := ho
    exact ⟨⟨O, hO, hR.stable (fun b hb => hH b (hb.imp (fun h => hO.mem_iff.1 h) id)) hS⟩, hnd⟩
  | bag => exact ho

/-- places in blocks that have not turned -/
theorem Place_stable {i : Nat} {e : Ent} (he : e ≠ .bag) (ho : OB H S ι i e) (hSl : ∀ c, S c → c < H.size) (hH : ∀ b, b ∈ blks ι i e → H'[b]? = H[b]?) {p : List Step} (hok : okP e.ty e.x p) {u : Ty} {y : u.den} (hg : getP e.ty e.x p = some ⟨u, y⟩) :
    ∃ b off b' off', Place H ι i e p = some (b, off) ∧ Place H' ι i e p = some (b', off') ∧ cellsAt (VH H' ι i e) b' off' u.size = cellsAt (VH H ι i e) b off u.size ∧ (b < H.size → b' = b ∧ off' = off ∧ b < H'.size) ∧ (¬ b < H.size → ¬ b' < H'.size) := by
  have hlt : ∀ c ∈ ι.own i, c < H.size ∧ c < H'.size := fun c hc => by
    have h1 := ho.own_lt he hc
    refine ⟨h1, ?_⟩
    have h2 := hH c (by cases e <;> simp [blks, hc])
    rw [Array.getElem?_eq_getElem h1] at h2
    exact (Array.getElem?_eq_some_iff.1 h2).1
  obtain ⟨O, hO, hR, hb, hnd, _, _, hfr⟩ := ho.see he hSl
  have hroot : cellsAt (VH H' ι i e) (VR H' ι i e).1 (VR H' ι i e).2 e.ty.size = cellsAt (VH H ι i e) (VR H ι i e).1 (VR H ι i e).2 e.ty.size := by
    cases e with
    | var t x => exact cellsAt_congr (hH _ (by simp [blks, VR])) _ _
    | own t x => simp only [VH, VR, cellsAt, gh_blk]
    | bag => exact absurd rfl he
  have hown : ∀ c ∈ O, (VH H' ι i e)[c]? = (VH H ι i e)[c]? := fun c hc => by
    have hc := hO.mem_iff.1 hc
    rw [VH_old (hlt c hc).2, VH_old (hlt c hc).1]
    exact hH c (by cases e <;> simp [blks, hc])
  rcases nav_move hR hb hok hroot hown hg with ⟨k, h1, h2, h3⟩ | ⟨b, o, h1, h2, h3⟩
  · refine ⟨_, _, _, _, (Place_eq he).trans h1, (Place_eq he).trans h2, ?_, ?_, ?_⟩
    · have e0 : ∀ (K : Array Go.Obj) (r : Nat × Nat), cellsAt K r.1 (r.2 + k) u.size = ((cellsAt K r.1 r.2 e.ty.size).drop k).take u.size := by
        intro K r
        rw [cellsAt_drop, cellsAt_take _ _ _ _ (by omega)]
      rw [e0, e0, hroot]
    · intro hbl
      cases e with
      | var t x =>
        refine ⟨rfl, rfl, ?_⟩
        have h2 := hH (ι.root i).1 (by simp [blks])
        have hbl : (ι.root i).1 < H.size := hbl
        rw [Array.getElem?_eq_getElem hbl] at h2
        exact (Array.getElem?_eq_some_iff.1 h2).1
      | own t x => simp [VR] at hbl
      | bag => exact absurd rfl he
    · intro hbl
      cases e with
      | var t x => exact absurd hfr.lt hbl
      | own t x => simp [VR]
      | bag => exact absurd rfl he
  · have hc := hO.mem_iff.1 h3
    refine ⟨b, o, b, o, (Place_eq he).trans h1, (Place_eq he).trans h2, ?_, fun _ => ⟨rfl, rfl, (hlt b hc).2⟩, fun hbl => absurd (hlt b hc).1 hbl⟩
    exact cellsAt_congr (hown b h3) _ _

theorem Loc_stable {i : Nat} {e : Ent} (he : e ≠ .bag) (ho : OB H S ι i e) (hSl : ∀ c, S c → c < H.size) (hH : ∀ b, b ∈ blks ι i e → H'[b]? = H[b]?) {p : List Step} (hok : okP e.ty e.x p) {r : Nat × Nat} (h : Loc H ι i e p = some r) : Loc H' ι i e p = some r := by
  obtain ⟨u, y, hg⟩ := getP_some hok
  obtain ⟨b, off, b', off', h1, h2, h3, h4, h5⟩ := Place_stable (H' := H') he ho hSl hH hok hg
  obtain ⟨k1, k2⟩ := Loc_place (b := r.1) (off := r.2) h
  rw [h1] at k1; cases k1
  obtain ⟨rfl, rfl, h6⟩ := h4 k2
  exact Loc_of h2 h6

theorem Cells_stable {i : Nat} {e : Ent} (he : e ≠ .bag) (ho : OB H S ι i e) (hSl : ∀ c, S c → c < H.size) (hH : ∀ b, b ∈ blks ι i e → H'[b]? = H[b]?) {p : List Step} (hok : okP e.ty e.x p) {u : Ty} {y : u.den} (hg : getP e.ty e.x p = some ⟨u, y⟩)
    {cs : List Value} (h : Cells H ι i e p u cs) : Cells H' ι i e p u cs := by
  obtain ⟨b0, off0, k1, k2⟩ := h
  obtain ⟨b, off, b', off', h1, h2, h3, h4, h5⟩ := Place_stable (H' := H') he ho hSl hH hok hg
  rw [h1] at k1; cases k1
  exact ⟨b', off', h2, k2.trans h3.symm⟩

theorem Loc_bag {i : Nat} {e : Ent} {p : List Step} {r : Nat × Nat} (h : Loc H ι i e p = some r) : e ≠ .bag := Place_bag (Loc_place (b := r.1) (off := r.2) h).1
theorem Cells_bag {i : Nat} {e : Ent} {p : List Step} {u : Ty} {cs : List Value} (h : Cells H ι i e p u cs) : e ≠ .bag := by obtain ⟨_, _, h, _⟩ := h; exact Place_bag h

/-- abstract values where the heap has grown alone, or turned elsewhere -/
theorem VX.grow (hH : ∀ b, (∃ i e, look i hp = some e ∧ b ∈ blks ι i e) ∨ S b → H'[b]? = H[b]?) (hS : ∀ b, S b → S' b) (hSl : ∀ c, S c → c < H.size) (hob : ∀ i e, look i hp = some e → OB H S ι i e) {v : AV} {vs : List Value} (h : VX H S ι hp v vs) :
    VX H' S' ι hp v vs := by
  have := VX.map (H' := H') (S' := S') (ι' := ι) (hp' := hp) (f := fun u => u) (fun b hb => hH b (.inr hb)) hS ?_ h
  · rwa [AV.map_id] at this
  · intro u vs hu _ h
    cases u <;> simp only [AV.ref] at hu <;> try cases hu
    · obtain ⟨e, b, off, h1, h2, h3, h4⟩ := h
      exact ⟨e, b, off, h1, h2, Loc_stable (Loc_bag h3) (hob _ e h1) hSl (fun b hb => hH b (.inl ⟨_, e, h1, hb⟩)) h2 h3, h4⟩
    · obtain ⟨e, u, y, cs, h1, h2, h3, h4, h5⟩ := h
      exact ⟨e, u, y, cs, h1, h2, h3, Cells_stable (Cells_bag h4) (hob _ e h1) hSl (fun b hb => hH b (.inl ⟨_, e, h1, hb⟩)) h2 h3 h4, h5⟩
    · obtain ⟨e, v, h1, h2, h3, h4, h5, h6⟩ := h
      refine ⟨e, v, h1, h2, h3, h4, h5, ?_⟩
      rcases h6 with ⟨t, l, a, cap, k1, k2, k3, k4⟩ | ⟨n, t, l, b, off, k1, k2, k3, k4⟩
      · exact .inl ⟨t, l, a, cap, k1, k2, Cells_stable (Cells_bag k3) (hob _ e h1) hSl (fun b hb => hH b (.inl ⟨_, e, h1, hb⟩)) h2 k1 k3, k4⟩
      · exact .inr ⟨n, t, l, b, off, k1, k2, Loc_stable (Loc_bag k3) (hob _ e h1) hSl (fun b hb => hH b (.inl ⟨_, e, h1, hb⟩)) h2 k3, k4⟩

end
end Go.Ex
