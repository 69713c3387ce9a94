import Derived.Test.YtagjonjobbckdaaExD
namespace Go.Ex

/-! ### lists by number -/
theorem beq_ne {n m : Nat} (h : n ≠ m) : Nat.beq n m = false := by
  cases e : Nat.beq n m with
  | true => exact absurd (Nat.eq_of_beq_eq_true e) h
  | false => rfl

section
variable {α : Type _}
theorem look_put (n m : Nat) (x : α) : ∀ l : List (Nat × α), look n (put m x l) = if n = m then some x else look n l
  | [] => by
    simp only [put, look]
    by_cases h : n = m
    · subst h; simp
    · rw [if_neg h]; have : Nat.beq n m = false := beq_ne h
      simp [this]
  | (k, y) :: l => by
    simp only [put]
    cases hk : Nat.beq m k with
    | true =>
      have : m = k := Nat.eq_of_beq_eq_true hk
      subst this
      simp only [look]
      by_cases h : n = m
      · subst h; simp
      · rw [if_neg h]; have : Nat.beq n m = false := beq_ne h
        simp [this]
    | false =>
      have hmk : m ≠ k := fun e => by subst e; simp at hk
      simp only [look]
      cases hn : Nat.beq n k with
      | true =>
        have : n = k := Nat.eq_of_beq_eq_true hn
        subst this
        simp [Ne.symm hmk]
      | false => exact look_put n m x l

theorem look_del (n m : Nat) : ∀ l : List (Nat × α), look n (del m l) = if n = m then none else look n l
  | [] => by simp [del, look]
  | (k, y) :: l => by
    simp only [del]
    cases hk : Nat.beq m k with
    | true =>
      have : m = k := Nat.eq_of_beq_eq_true hk
      subst this
      simp only [look, look_del n m l]
      by_cases h : n = m
      · simp [h]
      · have : Nat.beq n m = false := beq_ne h
        simp [h, this]
    | false =>
      have hmk : m ≠ k := fun e => by subst e; simp at hk
      simp only [look]
      cases hn : Nat.beq n k with
      | true =>
        have : n = k := Nat.eq_of_beq_eq_true hn
        subst this
        simp [Ne.symm hmk]
      | false => exact look_del n m l

theorem look_mapA (n : Nat) (f : α → α) : ∀ l : List (Nat × α), look n (mapA f l) = (look n l).map f
  | [] => rfl
  | (k, y) :: l => by
    simp only [mapA, look]
    cases Nat.beq n k with
    | true => rfl
    | false => exact look_mapA n f l
end

theorem look_noMent {d : Nat} : ∀ {l : List (Nat × AV)}, noMent d l = true → ∀ {n : Nat} {v : AV}, look n l = some v → v.ment d = false
  | [], _, _, _, h => by cases h
  | (k, y) :: l, h, n, v, hv => by
    simp only [noMent, Bool.and_eq_true, Bool.not_eq_true'] at h
    simp only [look] at hv
    cases hk : Nat.beq n k with
    | true => rw [hk] at hv; cases hv; exact h.1
    | false => rw [hk] at hv; exact look_noMent h.2 hv

theorem drop_noMent {d : Nat} : ∀ {v : AV}, v.ment d = false → v.drop d = v := by
  intro v
  induction v with
  | ptr j p => intro h; have h : Nat.beq d j = false := h; simp [AV.drop, AV.map, h]
  | at_ j p => intro h; have h : Nat.beq d j = false := h; simp [AV.drop, AV.map, h]
  | cons a b iha ihb =>
    intro h
    simp only [AV.ment, Bool.or_eq_false_iff] at h
    have h1 := iha h.1
    have h2 := ihb h.2
    unfold AV.drop at *
    simp only [AV.map, h1, h2]
  | tup l ih => intro h; have h1 := ih h; unfold AV.drop at *; simp only [AV.map, h1]
  | clo f l ih => intro h; have h1 := ih h; unfold AV.drop at *; simp only [AV.map, h1]
  | _ => intro _; rfl

/-! ### what abstract values say -/
structure Ix where
  root : Nat → Nat × Nat
  cells : Nat → List Value
  own : Nat → List Nat

def Ent.ty : Ent → Ty | .var t _ => t | .own t _ => t
def Ent.x : (e : Ent) → e.ty.den | .var _ x => x | .own _ x => x

/-- where a part of an owned slice lies whose header is at hand -/
def NavC (H : Array Go.Obj) : Ty → List Value → List Step → Option (Nat × Nat)
  | .slc true t, [.slice (some a) _ _], .idx i :: p => Nav H t p a.block (a.off + i.toNat * t.size)
  | _, _, _ => none

def Loc (H : Array Go.Obj) (ι : Ix) (i : Nat) : Ent → List Step → Option (Nat × Nat)
  | .var t _, p => Nav H t p (ι.root i).1 (ι.root i).2
  | .own t _, p => NavC H t (ι.cells i) p

def Cells (H : Array Go.Obj) (ι : Ix) (i : Nat) (e : Ent) (p : List Step) (u : Ty) (cs : List Value) : Prop :=
  (∃ b off, Loc H ι i e p = some (b, off) ∧ cs = cellsAt H b off u.size) ∨ (∃ t x, e = .own t x ∧ p = [] ∧ cs = ι.cells i)

def VX (H : Array Go.Obj) (S : Nat → Prop) (ι : Ix) (hp : List (Nat × Ent)) : AV → List Value → Prop
  | .any, vs => ∃ v, vs = [v]
  | .raw v, vs => vs = [v]
  | .val t x, vs => ∃ cs, vs = [toV t cs] ∧ Rep H S t [] cs x
  | .ptr i p, vs => ∃ e b off, look i hp = some e ∧ okP e.ty e.x p ∧ Loc H ι i e p = some (b, off) ∧ vs = [.pointer (some ⟨b, off, none⟩)]
  | .rptr t x, vs => ∃ b off, vs = [.pointer (some ⟨b, off, none⟩)] ∧ S b ∧ off + t.size ≤ (blk H b).length ∧ Rep H S t [] (cellsAt H b off t.size) x
  | .at_ i p, vs => ∃ e u y cs, look i hp = some e ∧ okP e.ty e.x p ∧ getP e.ty e.x p = some ⟨u, y⟩ ∧ Cells H ι i e p u cs ∧ vs = [toV u cs]
  | .nil, vs => vs = []
  | .cons a b, vs => ∃ v us, vs = v :: us ∧ VX H S ι hp a [v] ∧ VX H S ι hp b us
  | .tup l, vs => ∃ us, vs = [.tuple us.toArray] ∧ VX H S ι hp l us
  | .clo f l, vs => ∃ us, vs = [.func (.func f) #[] us.toArray] ∧ VX H S ι hp l us

/-- an object in memory -/
def OB (H : Array Go.Obj) (S : Nat → Prop) (ι : Ix) (i : Nat) : Ent → Prop
  | .var t x => (∃ O, O.Perm (ι.own i) ∧ Rep H S t O (cellsAt H (ι.root i).1 (ι.root i).2 t.size) x) ∧ Free H (ι.root i).1 ((ι.root i).2 + t.size) ∧ ((ι.root i).1 :: ι.own i).Nodup
  | .own t x => (∃ O, O.Perm (ι.own i) ∧ Rep H S t O (ι.cells i) x) ∧ (ι.own i).Nodup

def blks (ι : Ix) (i : Nat) : Ent → List Nat
  | .var _ _ => (ι.root i).1 :: ι.own i
  | .own _ _ => ι.own i

/-- where the call began: its world, what it may read, what was there that it may write, how many slots -/
structure Base where
  w0 : World
  S0 : Nat → Prop
  M : Nat → Prop
  n : Nat

structure HS (B : Base) (S : Nat → Prop) (ι : Ix) (hp : List (Nat × Ent)) (w : World) : Prop where
  os : w.os = B.w0.os
  tape : w.tape = B.w0.tape
  out : w.output = B.w0.output
  size : B.w0.heap.size ≤ w.heap.size
  frame : ∀ c, c < B.w0.heap.size → ¬ B.M c → w.heap[c]? = B.w0.heap[c]?
  slt : ∀ b, S b → b < w.heap.size
  s0 : ∀ b, B.S0 b → S b
  s1 : ∀ b, S b → B.S0 b ∨ B.w0.heap.size ≤ b
  ob : ∀ i e, look i hp = some e → OB w.heap S ι i e
  bl : ∀ i e, look i hp = some e → ∀ b ∈ blks ι i e, ¬ S b ∧ (B.w0.heap.size ≤ b ∨ B.M b) ∧ b < w.heap.size
  dj : ∀ i j ei ej, look i hp = some ei → look j hp = some ej → i ≠ j → ∀ b ∈ blks ι i ei, b ∉ blks ι j ej

structure RS (B : Base) (S : Nat → Prop) (ι : Ix) (s : St) (a : Act) (w : World) : Prop where
  hs : HS B S ι s.hp w
  dfr : a.defers = []
  sz : a.tmps.size = B.n
  fr : ∀ t v, look t s.fr = some v → VX w.heap S ι s.hp v [a.tmps.getD t undef]

section
variable {H H' : Array Go.Obj} {S S' : Nat → Prop} {ι ι' : Ix} {hp hp' : List (Nat × Ent)}

theorem VX.map {fp fa : Nat → List Step → AV} (hH : ∀ b, S b → H'[b]? = H[b]?) (hS : ∀ b, S b → S' b)
    (h1 : ∀ i p vs, VX H S ι hp (.ptr i p) vs → VX H' S' ι' hp' (fp i p) vs) (h2 : ∀ i p vs, VX H S ι hp (.at_ i p) vs → VX H' S' ι' hp' (fa i p) vs) :
    ∀ {v : AV} {vs : List Value}, VX H S ι hp v vs → VX H' S' ι' hp' (v.map fp fa) vs := by
  intro v
  induction v with
  | any => intro vs h; exact h
  | raw v => intro vs h; exact h
  | val t x => rintro vs ⟨cs, e, h⟩; exact ⟨cs, e, h.stable (fun b hb => by rcases hb with hb | hb; cases hb; exact hH b hb) hS⟩
  | ptr i p => intro vs h; exact h1 i p vs h
  | rptr t x =>
    rintro vs ⟨b, off, e, hb, h3, h4⟩
    refine ⟨b, off, e, hS b hb, by rw [blk_congr (hH b hb)]; exact h3, ?_⟩
    rw [cellsAt_congr (hH b hb)]
    exact h4.stable (fun b hb => by rcases hb with hb | hb; cases hb; exact hH b hb) hS
  | at_ i p => intro vs h; exact h2 i p vs h
  | nil => intro vs h; exact h
  | cons a b iha ihb => rintro vs ⟨v, us, e, ha, hb⟩; exact ⟨v, us, e, iha ha, ihb hb⟩
  | tup l ih => rintro vs ⟨us, e, h⟩; exact ⟨us, e, ih h⟩
  | clo f l ih => rintro vs ⟨us, e, h⟩; exact ⟨us, e, ih h⟩

theorem AV.map_id : ∀ v : AV, v.map .ptr .at_ = v := by
  intro v
  induction v with
  | cons a b iha ihb => simp only [AV.map, iha, ihb]
  | tup l ih => simp only [AV.map, ih]
  | clo f l ih => simp only [AV.map, ih]
  | _ => rfl

theorem VX.any {v : AV} {x : Value} (_ : VX H S ι hp v [x]) : VX H S ι hp .any [x] := ⟨x, rfl⟩

theorem Loc_mem {i : Nat} {e : Ent} (ho : OB H S ι i e) {p : List Step} (hok : okP e.ty e.x p) {u : Ty} {y : u.den} (hg : getP e.ty e.x p = some ⟨u, y⟩) {b off : Nat} (hl : Loc H ι i e p = some (b, off)) :
    ∃ O2, (∀ c ∈ O2, c ∈ ι.own i) ∧ Rep H S u O2 (cellsAt H b off u.size) y ∧ off + u.size ≤ (blk H b).length ∧ b ∈ blks ι i e ∧ Free H b (off + u.size) := by
  cases e with
  | var t x =>
    obtain ⟨⟨O, hO, hR⟩, hf, hnd⟩ := ho
    have hb := hf.blk
    obtain ⟨O1, O2, b', off', e1, e2, e3, e4, e5, e6⟩ := focus hR hb hok hg
    have hl : Nav H t p (ι.root i).1 (ι.root i).2 = some (b, off) := hl
    rw [e3] at hl; cases hl
    refine ⟨O2, fun c hc => hO.mem_iff.1 (e1.mem_iff.2 (by simp [hc])), e4, e5, ?_, ?_⟩
    · rcases e6 with ⟨g, _⟩ | ⟨g, _⟩
      · simp [blks, g]
      · have : b ∈ ι.own i := hO.mem_iff.1 (e1.mem_iff.2 (by simp [g]))
        simp [blks, this]
    · rcases e6 with ⟨g, g1, g2⟩ | ⟨g, g1⟩
      · subst g; exact hf.mono g2
      · exact g1
  | own t x =>
    obtain ⟨⟨O, hO, hR⟩, hnd⟩ := ho
    have hl : NavC H t (ι.cells i) p = some (b, off) := hl
    unfold NavC at hl
    split at hl
    · rename_i t' a len cap j q hcs _
      rcases hR with ⟨_, h, _⟩ | ⟨b1, o1, cap', O', c1, c2, c3, c4, c5, rfl, c6⟩
      · rw [hcs] at h; cases h
      · rw [hcs] at c1; cases c1
        obtain ⟨hi, hok⟩ := (show (0 ≤ j ∧ j < List.length x) ∧ okP t' (List.getD x j.toNat t'.dflt) q from hok)
        have hg : getP t' (List.getD x j.toNat t'.dflt) q = some ⟨u, y⟩ := hg
        obtain ⟨b1', b2, b3, b4⟩ := idx_bound (sz := t'.size) hi
        obtain ⟨P1, P2, P3, rfl, g1, g2, g3⟩ := RepL.split (d := t'.dflt) (i := j.toNat) b1' c5
        rw [cellsAt_drop, cellsAt_take _ _ _ _ (by omega)] at g2
        obtain ⟨O1, O2, b', off', e1, e2, e3, e4, e5, e6⟩ := focus g2 (by omega) hok hg
        rw [e3] at hl; cases hl
        have hcap : List.length x * t'.size ≤ cap * t'.size := Nat.mul_le_mul_right _ c2
        have hm : ∀ c, c ∈ O1 ++ O2 → c ∈ ι.own i := fun c hc => hO.mem_iff.1 (by
          have := e1.mem_iff.2 hc
          simp [this])
        refine ⟨O2, fun c hc => hm c (by simp [hc]), e4, e5, ?_, ?_⟩
        · rcases e6 with ⟨g, _⟩ | ⟨g, _⟩
          · exact hO.mem_iff.1 (by simp [g])
          · exact hm _ (by simp [g])
        · rcases e6 with ⟨g, g1, g2⟩ | ⟨g, g1⟩
          · subst g; exact c6.mono (by omega)
          · exact g1
    · cases hl

/-- objects in blocks that have not turned -/
theorem OB.stable {i : Nat} {e : Ent} (ho : OB H S ι i e) (hH : ∀ b, b ∈ blks ι i e ∨ S b → H'[b]? = H[b]?) (hS : ∀ b, S b → S' b) : OB H' S' ι i e := by
  cases e with
  | var t x =>
    obtain ⟨⟨O, hO, hR⟩, ⟨arr, T, hf, hn⟩, hnd⟩ := ho
    have hr : H'[(ι.root i).1]? = H[(ι.root i).1]? := hH _ (.inl (by simp [blks]))
    refine ⟨⟨O, hO, ?_⟩, ⟨arr, T, hr.trans hf, hn⟩, hnd⟩
    rw [cellsAt_congr hr]
    exact hR.stable (fun b hb => hH b (hb.imp (fun h => by simp [blks, hO.mem_iff.1 h]) id)) hS
  | own t x =>
    obtain ⟨⟨O, hO, hR⟩, hnd⟩ := ho
    exact ⟨⟨O, hO, hR.stable (fun b hb => hH b (hb.imp (fun h => hO.mem_iff.1 h) id)) hS⟩, hnd⟩

theorem Loc_stable {i : Nat} {e : Ent} (ho : OB H S ι i e) (hH : ∀ b, b ∈ blks ι i e → H'[b]? = H[b]?) {p : List Step} (hok : okP e.ty e.x p) : Loc H' ι i e p = Loc H ι i e p := by
  cases e with
  | var t x =>
    obtain ⟨⟨O, hO, hR⟩, hf, hnd⟩ := ho
    exact nav_rep hR hf.blk hok (cellsAt_congr (hH _ (by simp [blks])) _ _) (fun c hc => hH c (by simp [blks, hO.mem_iff.1 hc]))
  | own t x =>
    obtain ⟨⟨O, hO, hR⟩, hnd⟩ := ho
    show NavC H' t (ι.cells i) p = NavC H t (ι.cells i) p
    unfold NavC
    split
    · rename_i t' a len cap j q hcs
      rcases hR with ⟨_, h, _⟩ | ⟨b1, o1, cap', O', c1, c2, c3, c4, c5, rfl, c6⟩
      · rw [hcs] at h; cases h
      · rw [hcs] at c1; cases c1
        obtain ⟨hi, hok⟩ := (show (0 ≤ j ∧ j < List.length x) ∧ okP t' (List.getD x j.toNat t'.dflt) q from hok)
        obtain ⟨b1', b2, b3, b4⟩ := idx_bound (sz := t'.size) hi
        obtain ⟨P1, P2, P3, rfl, g1, g2, g3⟩ := RepL.split (d := t'.dflt) (i := j.toNat) b1' c5
        rw [cellsAt_drop, cellsAt_take _ _ _ _ (by omega)] at g2
        show Nav H' t' q b1 (o1 + j.toNat * t'.size) = Nav H t' q b1 (o1 + j.toNat * t'.size)
        refine nav_rep g2 (by omega) hok (cellsAt_congr (hH _ (hO.mem_iff.1 (by simp))) _ _) (fun c hc => hH c (hO.mem_iff.1 (by simp [hc])))
    · rfl

theorem Cells_stable {i : Nat} {e : Ent} (ho : OB H S ι i e) (hH : ∀ b, b ∈ blks ι i e → H'[b]? = H[b]?) {p : List Step} (hok : okP e.ty e.x p) {u : Ty} {y : u.den} (hg : getP e.ty e.x p = some ⟨u, y⟩)
    {cs : List Value} (h : Cells H ι i e p u cs) : Cells H' ι i e p u cs := by
  rcases h with ⟨b, off, hl, e1⟩ | h
  · obtain ⟨O2, _, _, _, hb, _⟩ := Loc_mem ho hok hg hl
    exact .inl ⟨b, off, (Loc_stable ho hH hok).trans hl, by rw [e1, cellsAt_congr (hH b hb)]⟩
  · exact .inr h

/-- abstract values where the heap has grown alone, or turned elsewhere -/
theorem VX.grow (hH : ∀ b, (∃ i e, look i hp = some e ∧ b ∈ blks ι i e) ∨ S b → H'[b]? = H[b]?) (hS : ∀ b, S b → S' b) (hob : ∀ i e, look i hp = some e → OB H S ι i e) {v : AV} {vs : List Value} (h : VX H S ι hp v vs) :
    VX H' S' ι hp v vs := by
  have := VX.map (H' := H') (S' := S') (ι' := ι) (hp' := hp) (fp := .ptr) (fa := .at_) (fun b hb => hH b (.inr hb)) hS ?_ ?_ h
  · rwa [AV.map_id] at this
  · rintro i p vs ⟨e, b, off, h1, h2, h3, h4⟩
    exact ⟨e, b, off, h1, h2, (Loc_stable (hob i e h1) (fun b hb => hH b (.inl ⟨i, e, h1, hb⟩)) h2).trans h3, h4⟩
  · rintro i p vs ⟨e, u, y, cs, h1, h2, h3, h4, h5⟩
    exact ⟨e, u, y, cs, h1, h2, h3, Cells_stable (hob i e h1) (fun b hb => hH b (.inl ⟨i, e, h1, hb⟩)) h2 h3 h4, h5⟩

end
end Go.Ex
