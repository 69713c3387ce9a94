import Derived.Test.YtibpibbnnogdkaaExG
namespace Go.Ex

section
variable {E : Env} {B : Base} {S S' : Nat → Prop} {ι : Ix} {s : St} {a : Act} {w : World} {hp : List (Nat × Ent)}

def Ix.setV (ι : Ix) (d : Nat) (r : Nat × Nat) (o : List Nat) : Ix := { ι with root := fun i => if i = d then r else ι.root i, own := fun i => if i = d then o else ι.own i }
def Ix.setO (ι : Ix) (d : Nat) (cs : List Value) (o : List Nat) : Ix := { ι with cells := fun i => if i = d then cs else ι.cells i, own := fun i => if i = d then o else ι.own i }
def Ix.setB (ι : Ix) (d : Nat) (o : List Nat) : Ix := { ι with own := fun i => if i = d then o else ι.own i }

/-- two numberings that say the same of object i -/
def SameAt (ι ι' : Ix) (i : Nat) : Prop := ι'.root i = ι.root i ∧ ι'.cells i = ι.cells i ∧ ι'.own i = ι.own i

theorem SameAt.ob {ι' : Ix} {i : Nat} (h : SameAt ι ι' i) {H : Array Go.Obj} {e : Ent} : OB H S ι' i e ↔ OB H S ι i e := by
  obtain ⟨h1, h2, h3⟩ := h
  cases e <;> simp only [OB, h1, h2, h3]
theorem SameAt.blks {ι' : Ix} {i : Nat} (h : SameAt ι ι' i) {e : Ent} : blks ι' i e = blks ι i e := by
  obtain ⟨h1, h2, h3⟩ := h
  cases e <;> simp only [Ex.blks, h1, h3]
theorem SameAt.vh {ι' : Ix} {i : Nat} (h : SameAt ι ι' i) {H : Array Go.Obj} {e : Ent} : VH H ι' i e = VH H ι i e := by
  obtain ⟨h1, h2, h3⟩ := h
  cases e <;> simp only [VH, h2]
theorem SameAt.place {ι' : Ix} {i : Nat} (h : SameAt ι ι' i) {H : Array Go.Obj} {e : Ent} {p : List Step} : Place H ι' i e p = Place H ι i e p := by
  have hv := h.vh (H := H) (e := e)
  obtain ⟨h1, h2, h3⟩ := h
  cases e <;> simp only [Place, VR, h1, hv]
theorem SameAt.loc {ι' : Ix} {i : Nat} (h : SameAt ι ι' i) {H : Array Go.Obj} {e : Ent} {p : List Step} : Loc H ι' i e p = Loc H ι i e p := by
  simp only [Loc, h.place]
theorem SameAt.cells_ {ι' : Ix} {i : Nat} (h : SameAt ι ι' i) {H : Array Go.Obj} {e : Ent} {p : List Step} {u : Ty} {cs : List Value} : Cells H ι' i e p u cs ↔ Cells H ι i e p u cs := by
  simp only [Cells, h.place, h.vh]

theorem SameAt.refl (ι : Ix) (i : Nat) : SameAt ι ι i := ⟨rfl, rfl, rfl⟩
theorem sameAt_setV {i d : Nat} (h : i ≠ d) (r : Nat × Nat) (o : List Nat) : SameAt ι (ι.setV d r o) i := by simp [SameAt, Ix.setV, h]
theorem sameAt_setO {i d : Nat} (h : i ≠ d) (cs : List Value) (o : List Nat) : SameAt ι (ι.setO d cs o) i := by simp [SameAt, Ix.setO, h]
theorem sameAt_setB {i d : Nat} (h : i ≠ d) (o : List Nat) : SameAt ι (ι.setB d o) i := by simp [SameAt, Ix.setB, h]

/-- abstract values over another numbering and another list of objects, both as they were in what the values speak of -/
theorem VX.other {ι' : Ix} {hp' : List (Nat × Ent)} {H : Array Go.Obj} {v : AV} (hl : ∀ i, v.ment i = true → look i hp' = look i hp) (hs : ∀ i, v.ment i = true → SameAt ι ι' i) {vs : List Value} (h : VX H S ι hp v vs) : VX H S ι' hp' v vs := by
  have := VX.map (H' := H) (S' := S) (ι' := ι') (hp' := hp') (f := fun u => u) (fun _ _ => rfl) (fun _ h => h) ?_ h
  · rwa [AV.map_id] at this
  · intro u vs hu hm h
    cases u <;> simp only [AV.ref] at hu <;> try cases hu
    · rename_i i p
      have hi := hm i (by simp [AV.ment])
      obtain ⟨e, b, off, h1, h2, h3, h4⟩ := h
      exact ⟨e, b, off, (hl i hi).trans h1, h2, (hs i hi).loc.trans h3, h4⟩
    · rename_i i p
      have hi := hm i (by simp [AV.ment])
      obtain ⟨e, u, y, cs, h1, h2, h3, h4, h5⟩ := h
      exact ⟨e, u, y, cs, (hl i hi).trans h1, h2, h3, (hs i hi).cells_.2 h4, h5⟩
    · rename_i i p lo hi'
      have hi := hm i (by simp [AV.ment])
      obtain ⟨e, v, h1, h2, h3, h4, h5, h6⟩ := h
      refine ⟨e, v, (hl i hi).trans h1, h2, h3, h4, h5, ?_⟩
      rcases h6 with ⟨t, l, a, cap, k1, k2, k3, k4⟩ | ⟨n, t, l, b, off, k1, k2, k3, k4⟩
      · exact .inl ⟨t, l, a, cap, k1, k2, (hs i hi).cells_.2 k3, k4⟩
      · exact .inr ⟨n, t, l, b, off, k1, k2, (hs i hi).loc.trans k3, k4⟩

theorem push_old {H : Array Go.Obj} {o : Go.Obj} {b : Nat} (h : b < H.size) : (H.push o)[b]? = H[b]? := by
  rw [Array.getElem?_push, if_neg (by omega)]
theorem push_new {H : Array Go.Obj} {o : Go.Obj} : (H.push o)[H.size]? = some o := by simp

/-- the world with one block more -/
def pushed (w : World) (o : Go.Obj) : World := { w with heap := w.heap.push o }

theorem HS.bl_lt (h : HS B S ι hp w) {b : Nat} (hb : (∃ i e, look i hp = some e ∧ b ∈ blks ι i e) ∨ S b) : b < w.heap.size := by
  rcases hb with ⟨i, e, h1, h2⟩ | hb
  · exact (h.bl i e h1 b h2).2.2
  · exact h.slt b hb

/-- blocks of the call's own that belong to no object -/
def Flt (B : Base) (S : Nat → Prop) (ι : Ix) (hp : List (Nat × Ent)) (w : World) (O : List Nat) : Prop :=
  O.Nodup ∧ ∀ b ∈ O, ¬ S b ∧ (B.w0.heap.size ≤ b ∨ B.M b) ∧ b < w.heap.size ∧ ∀ i e, look i hp = some e → b ∉ blks ι i e

theorem Flt.nil : Flt B S ι hp w [] := ⟨List.nodup_nil, by simp⟩
theorem Flt.sub {O O' : List Nat} (h : Flt B S ι hp w O) (hn : O'.Nodup) (hs : ∀ b ∈ O', b ∈ O) : Flt B S ι hp w O' := ⟨hn, fun b hb => h.2 b (hs b hb)⟩
theorem Flt.append {O O' : List Nat} (h : Flt B S ι hp w O) (h' : Flt B S ι hp w O') (hd : ∀ b ∈ O, b ∉ O') : Flt B S ι hp w (O ++ O') :=
  ⟨List.nodup_append.2 ⟨h.1, h'.1, fun a ha b hb e => hd a ha (e ▸ hb)⟩, fun b hb => (List.mem_append.1 hb).elim (h.2 b) (h'.2 b)⟩

/-- the world turns in floating blocks, and grows: objects stand as they stood -/
theorem HS.turn (h : HS B S ι hp w) {O : List Nat} (hF : Flt B S ι hp w O) {w' : World} (k : Past O w w') : HS B S ι hp w' := by
  have hlt : ∀ {b}, ((∃ i e, look i hp = some e ∧ b ∈ blks ι i e) ∨ S b) → w'.heap[b]? = w.heap[b]? := by
    intro _ hb
    refine k.frame _ (h.bl_lt hb) (fun hO => ?_)
    rcases hb with ⟨i, e, h1, h2⟩ | hb
    · exact (hF.2 _ hO).2.2.2 i e h1 h2
    · exact (hF.2 _ hO).1 hb
  refine ⟨k.os.trans h.os, k.tape.trans h.tape, k.out.trans h.out, Nat.le_trans h.size k.size, ?_, fun b hb => Nat.lt_of_lt_of_le (h.slt b hb) k.size, h.s0, h.s1, ?_, ?_, h.dj, h.pin⟩
  · intro c hc hm
    rw [k.frame c (Nat.lt_of_lt_of_le hc h.size) (fun hO => by rcases (hF.2 c hO).2.1 with h1 | h1; omega; exact hm h1)]
    exact h.frame c hc hm
  · intro i e hi
    exact (h.ob i e hi).stable (fun b hb => hlt (hb.imp (fun hb => ⟨i, e, hi, hb⟩) id)) (fun _ h => h)
  · intro i e hi b hb
    obtain ⟨h1, h2, h3⟩ := h.bl i e hi b hb
    exact ⟨h1, h2, Nat.lt_of_lt_of_le h3 k.size⟩

theorem VX.turn (h : HS B S ι hp w) {O : List Nat} (hF : Flt B S ι hp w O) {w' : World} (k : Past O w w') {v : AV} {vs : List Value} (hv : VX w.heap S ι hp v vs) : VX w'.heap S ι hp v vs := by
  refine VX.grow (fun b hb => k.frame b (h.bl_lt hb) (fun hO => ?_)) (fun _ h => h) h.slt h.ob hv
  rcases hb with ⟨i, e, h1, h2⟩ | hb
  · exact (hF.2 b hO).2.2.2 i e h1 h2
  · exact (hF.2 b hO).1 hb

theorem RS.turn (h : RS B S ι s a w) {O : List Nat} (hF : Flt B S ι s.hp w O) {w' : World} (k : Past O w w') : RS B S ι s a w' :=
  ⟨h.hs.turn hF k, h.dfr, h.sz, fun t v hv => VX.turn h.hs hF k (h.fr t v hv)⟩

theorem Flt.turn {O O' : List Nat} (h : Flt B S ι hp w O') {w' : World} (k : Past O w w') : Flt B S ι hp w' O' :=
  ⟨h.1, fun b hb => ⟨(h.2 b hb).1, (h.2 b hb).2.1, Nat.lt_of_lt_of_le (h.2 b hb).2.2.1 k.size, (h.2 b hb).2.2.2⟩⟩

theorem Past.push (o : Go.Obj) : Past [] w (pushed w o) := ⟨rfl, rfl, rfl, by simp [pushed], fun c hc _ => push_old hc⟩
theorem Past.drew : Past [] w w.drew := ⟨rfl, rfl, rfl, Nat.le_refl _, fun _ _ _ => rfl⟩
theorem Past.mono {O O' : List Nat} {w' : World} (h : Past O w w') (ho : ∀ b ∈ O, b ∈ O') : Past O' w w' := ⟨h.os, h.tape, h.out, h.size, fun c hc hn => h.frame c hc (fun hO => hn (ho c hO))⟩
theorem Past.trans {O O' : List Nat} {w' w'' : World} (h : Past O w w') (h' : Past O' w' w'') (ho : ∀ b ∈ O', b ∈ O ∨ w.heap.size ≤ b) : Past O w w'' :=
  ⟨h'.os.trans h.os, h'.tape.trans h.tape, h'.out.trans h.out, Nat.le_trans h.size h'.size, fun c hc hn => (h'.frame c (Nat.lt_of_lt_of_le hc h.size) (fun hO => by rcases ho c hO with h1 | h1; exact hn h1; omega)).trans (h.frame c hc hn)⟩

/-- an object laid over floating blocks -/
theorem HS.add (h : HS B S ι hp w) {d : Nat} {e : Ent} {ι' : Ix} {O : List Nat} (hd : look d hp = none) (hs : ∀ i, i ≠ d → SameAt ι ι' i) (hob : OB w.heap S ι' d e) (hb : ∀ b ∈ blks ι' d e, b ∈ O) (hF : Flt B S ι hp w O) :
    HS B S ι' (Ex.put d e hp) w := by
  refine ⟨h.os, h.tape, h.out, h.size, h.frame, h.slt, h.s0, h.s1, ?_, ?_, ?_, ?_⟩
  · intro i e' h1
    rw [look_put] at h1
    by_cases e1 : i = d
    · subst e1; rw [if_pos rfl] at h1; cases h1; exact hob
    · rw [if_neg e1] at h1; exact (hs i e1).ob.2 (h.ob i e' h1)
  · intro i e' h1 b hb'
    rw [look_put] at h1
    by_cases e1 : i = d
    · subst e1; rw [if_pos rfl] at h1; cases h1
      obtain ⟨k1, k2, k3, _⟩ := hF.2 b (hb b hb')
      exact ⟨k1, k2, k3⟩
    · rw [if_neg e1] at h1
      rw [(hs i e1).blks] at hb'
      exact h.bl i e' h1 b hb'
  · intro i j ei ej h1 h2 hij b hb'
    rw [look_put] at h1 h2
    by_cases e1 : i = d
    · subst e1
      rw [if_neg (Ne.symm hij)] at h2
      rw [if_pos rfl] at h1; cases h1
      rw [(hs j (Ne.symm hij)).blks]
      exact (hF.2 b (hb b hb')).2.2.2 j ej h2
    · rw [if_neg e1] at h1
      rw [(hs i e1).blks] at hb'
      by_cases e2 : j = d
      · subst e2
        rw [if_pos rfl] at h2; cases h2
        exact fun hbb => (hF.2 b (hb b hbb)).2.2.2 i ei h1 hb'
      · rw [if_neg e2] at h2
        rw [(hs j e2).blks]
        exact h.dj i j ei ej h1 h2 hij b hb'
  · intro q hq
    obtain ⟨k0, ⟨e', k1⟩, k2, k3⟩ := h.pin q hq
    have hne : q.1 ≠ d := by rintro e1; rw [e1, hd] at k1; cases k1
    exact ⟨k0, ⟨e', by rw [look_put, if_neg hne]; exact k1⟩, by rw [(hs _ hne).1]; exact k2, by rw [(hs _ hne).2.1]; exact k3⟩

theorem fresh_inv {d : Nat} (h : s.fresh d = true) : look d s.hp = none ∧ ∀ m v, look m s.fr = some v → v.ment d = false := by
  simp only [St.fresh, Bool.and_eq_true, Option.isNone_iff_eq_none] at h
  exact ⟨h.1, fun m v hv => look_noMent h.2 hv⟩

theorem VX.add {d : Nat} {e : Ent} {ι' : Ix} {H : Array Go.Obj} (hs : ∀ i, i ≠ d → SameAt ι ι' i) {v : AV} (hm : v.ment d = false) {vs : List Value} (h : VX H S ι hp v vs) : VX H S ι' (Ex.put d e hp) v vs := by
  have hne : ∀ i, v.ment i = true → i ≠ d := by rintro i hi rfl; rw [hm] at hi; cases hi
  exact VX.other (fun i hi => by rw [look_put, if_neg (hne i hi)]) (fun i hi => hs i (hne i hi)) h

theorem RS.add (h : RS B S ι s a w) {d : Nat} {e : Ent} {ι' : Ix} {O : List Nat} (hd : s.fresh d = true) (hs : ∀ i, i ≠ d → SameAt ι ι' i) (hob : OB w.heap S ι' d e) (hb : ∀ b ∈ blks ι' d e, b ∈ O) (hF : Flt B S ι s.hp w O) :
    RS B S ι' (s.putE d e) a w := by
  obtain ⟨k1, k2⟩ := fresh_inv hd
  exact ⟨h.hs.add k1 hs hob hb hF, h.dfr, h.sz, fun t v hv => VX.add hs (k2 t v hv) (h.fr t v hv)⟩

/-! ### objects that go -/
theorem VX.dropped {i : Nat} {H : Array Go.Obj} {v : AV} {vs : List Value} (h : VX H S ι hp v vs) : VX H S ι (del i hp) (v.drop i) vs := by
  refine VX.map (fun _ _ => rfl) (fun _ h => h) (fun u vs hu _ hv => ?_) h
  cases hm : u.ment i with
  | true => obtain ⟨x, rfl⟩ := VX.one hu hv; exact ⟨x, rfl⟩
  | false =>
    have hne : ∀ j, u.ment j = true → j ≠ i := by rintro j hj rfl; rw [hm] at hj; cases hj
    exact VX.other (fun j hj => by rw [look_del, if_neg (hne j hj)]) (fun j _ => SameAt.refl ι j) hv

theorem HS.drop (h : HS B S ι hp w) {i : Nat} (hi : pinned i = false) : HS B S ι (del i hp) w := by
  have hl : ∀ {j : Nat} {e : Ent}, look j (del i hp) = some e → look j hp = some e := by
    intro j e hj
    rw [look_del] at hj
    split at hj
    · cases hj
    · exact hj
  refine ⟨h.os, h.tape, h.out, h.size, h.frame, h.slt, h.s0, h.s1, fun j e hj => h.ob j e (hl hj), fun j e hj => h.bl j e (hl hj), fun j k ej ek hj hk => h.dj j k ej ek (hl hj) (hl hk), fun q hq => ?_⟩
  obtain ⟨k0, ⟨e', k1⟩, k2⟩ := h.pin q hq
  exact ⟨k0, ⟨e', by rw [look_del, if_neg (by rintro e1; rw [e1, hi] at k0; cases k0)]; exact k1⟩, k2⟩

theorem RS.drop (h : RS B S ι s a w) {i : Nat} (hi : pinned i = false) : RS B S ι (s.drop i) a w := by
  refine ⟨h.hs.drop hi, h.dfr, h.sz, ?_⟩
  intro t v hv
  simp only [St.drop, look_mapA, Option.map_eq_some_iff] at hv
  obtain ⟨v0, hv0, rfl⟩ := hv
  exact VX.dropped (h.fr t v0 hv0)

theorem RS.drops {B : Base} {S : Nat → Prop} {ι : Ix} {a : Act} {w : World} : ∀ {g : List Nat} {s : St}, RS B S ι s a w → (g.all fun i => !pinned i) = true → RS B S ι (St.drops g s) a w
  | [], _, h, _ => h
  | i :: g, s, h, hg => by
    simp only [List.all_cons, Bool.and_eq_true, Bool.not_eq_true'] at hg
    exact RS.drops (g := g) (s := s.drop i) (h.drop hg.1) hg.2

theorem drops_look : ∀ {g : List Nat} {s : St} {j : Nat}, look j (St.drops g s).hp = if j ∈ g then none else look j s.hp
  | [], s, j => by simp [St.drops]
  | i :: g, s, j => by
    simp only [St.drops, drops_look (g := g), St.drop, look_del]
    by_cases e : j = i
    · subst e; simp
    · by_cases e2 : j ∈ g <;> simp [e, e2]

/-- what objects owned floats once they are gone -/
theorem Flt.drops (h : HS B S ι s.hp w) {g : List Nat} {O : List Nat} (hn : O.Nodup) (hO : ∀ b ∈ O, ∃ i e, i ∈ g ∧ look i s.hp = some e ∧ b ∈ blks ι i e) : Flt B S ι (St.drops g s).hp w O := by
  refine ⟨hn, fun b hb => ?_⟩
  obtain ⟨i, e, hi, h1, h2⟩ := hO b hb
  obtain ⟨k1, k2, k3⟩ := h.bl i e h1 b h2
  refine ⟨k1, k2, k3, fun j ej hj hbj => ?_⟩
  rw [drops_look] at hj
  split at hj
  · cases hj
  · rename_i hjg
    exact h.dj i j e ej h1 hj (by rintro rfl; exact hjg hi) b h2 hbj

theorem Flt.keep {O : List Nat} (h : Flt B S ι s.hp w O) (g : List Nat) : Flt B S ι (St.drops g s).hp w O :=
  ⟨h.1, fun b hb => ⟨(h.2 b hb).1, (h.2 b hb).2.1, (h.2 b hb).2.2.1, fun i e hi => by rw [drops_look] at hi; split at hi; cases hi; exact (h.2 b hb).2.2.2 i e hi⟩⟩

/-! ### new objects -/
theorem RS.alloc (h : RS B S ι s a w) {d : Nat} (hd : s.fresh d = true) {t : Ty} {x : t.den} {cs : List Value} {O : List Nat} (hR : Rep w.heap S t O cs x) (hF : Flt B S ι s.hp w O) (T : TypeId) :
    RS B S (ι.setV d (w.heap.size, 0) O) (s.putE d (.var t x)) a (pushed w (.cells cs.toArray T)) := by
  have h1 := h.turn Flt.nil (Past.push (.cells cs.toArray T))
  have hF1 := hF.turn (Past.push (w := w) (.cells cs.toArray T))
  have hnew : (pushed w (.cells cs.toArray T)).heap[w.heap.size]? = some (.cells cs.toArray T) := push_new
  have hold : ∀ {b}, b < w.heap.size → (pushed w (.cells cs.toArray T)).heap[b]? = w.heap[b]? := fun hb => push_old hb
  refine h1.add hd (fun i hi => sameAt_setV hi _ _) ?_ (O := w.heap.size :: O) ?_ ⟨List.nodup_cons.2 ⟨fun hm => Nat.lt_irrefl _ (hF.2 _ hm).2.2.1, hF.1⟩, ?_⟩
  · refine ⟨⟨O, by simp [Ix.setV], ?_⟩, ⟨cs.toArray, T, ⟨_, by simpa [Ix.setV] using hnew, .inl rfl⟩, by simp [Ix.setV, hR.length]⟩, ?_⟩
    · have e : cellsAt (pushed w (.cells cs.toArray T)).heap w.heap.size 0 t.size = cs := by
        have hb : blk (pushed w (.cells cs.toArray T)).heap w.heap.size = cs := by simp only [blk, hnew]
        simp only [cellsAt, hb, List.drop_zero]
        exact List.take_of_length_le (by rw [hR.length]; exact Nat.le_refl _)
      simp only [Ix.setV, if_pos]
      rw [e]
      exact hR.stable (fun b hb => hold (hb.elim (fun hb => (hF.2 b hb).2.2.1) (h.hs.slt b))) (fun _ h => h)
    · simp only [Ix.setV, if_pos]
      exact List.nodup_cons.2 ⟨fun hm => Nat.lt_irrefl _ (hF.2 _ hm).2.2.1, hF.1⟩
  · intro b hb
    simpa [blks, Ix.setV] using hb
  · intro b hb
    rcases List.mem_cons.1 hb with rfl | hb
    · refine ⟨fun hS => Nat.lt_irrefl _ (h.hs.slt _ hS), .inl h.hs.size, by simp [pushed], fun i e hi hbi => ?_⟩
      exact Nat.lt_irrefl _ (h.hs.bl i e hi _ hbi).2.2
    · exact hF1.2 b hb

theorem ptr_new {d : Nat} {t : Ty} {x : t.den} {w' : World} {r : Nat × Nat} {o : List Nat} (hr : r.1 < w'.heap.size) : VX w'.heap S (ι.setV d r o) (s.putE d (.var t x)).hp (.ptr d []) [.pointer (some ⟨r.1, r.2, none⟩)] := by
  refine ⟨.var t x, r.1, r.2, by simp [St.putE, look_put], by cases t <;> trivial, Loc_of ?_ hr, rfl⟩
  simp only [Place, VR, VH, Ix.setV, if_pos, Ent.ty]
  cases t <;> first | rfl | (rename_i o _; cases o <;> rfl)

/-- a value of the call's own, laid at a name -/
theorem RS.hold (h : RS B S ι s a w) {d : Nat} (hd : s.fresh d = true) {t : Ty} {x : t.den} {O : List Nat} {cs : List Value} (hR : Rep w.heap S t O cs x) (hF : Flt B S ι s.hp w O) : RS B S (ι.setO d cs O) (s.putE d (.own t x)) a w := by
  refine h.add hd (fun i hi => sameAt_setO hi _ _) ⟨⟨O, by simp [Ix.setO], by simpa [Ix.setO] using hR⟩, by simpa [Ix.setO] using hF.1⟩ (O := O) ?_ hF
  intro b hb
  simpa [blks, Ix.setO] using hb

theorem getP_nil {t : Ty} {x : t.den} : getP t x [] = some ⟨t, x⟩ := by
  cases t <;> first | rfl | (rename_i o _; cases o <;> rfl)
theorem okP_nil {t : Ty} {x : t.den} : okP t x [] := by
  cases t <;> first | trivial | (rename_i o _; cases o <;> trivial)
theorem Nav_nil {H : Array Go.Obj} {t : Ty} {b off : Nat} : Nav H t [] b off = some (b, off) := by
  cases t <;> first | rfl | (rename_i o _; cases o <;> rfl)

theorem own_cells {H : Array Go.Obj} {d : Nat} {t : Ty} {x : t.den} {cs : List Value} (h : ι.cells d = cs) (hl : cs.length = t.size) : Cells H ι d (.own t x) [] t cs := by
  refine ⟨H.size, 0, by simp only [Place, Nav_nil]; rfl, ?_⟩
  simp only [VH, h, cellsAt, gh_blk, List.drop_zero]
  exact (List.take_of_length_le (by omega)).symm

theorem own_cells_inv {H : Array Go.Obj} {d : Nat} {t : Ty} {x : t.den} {u : Ty} {cs : List Value} (h : Cells H ι d (.own t x) [] u cs) (hl : (ι.cells d).length = u.size) : cs = ι.cells d := by
  obtain ⟨b, off, h1, h2⟩ := h
  simp only [Place, Nav_nil, VR, Option.some.injEq, Prod.mk.injEq] at h1
  obtain ⟨rfl, rfl⟩ := h1
  rw [h2]
  simp only [VH, cellsAt, gh_blk, List.drop_zero]
  exact List.take_of_length_le (by omega)

theorem at_new {H : Array Go.Obj} {d : Nat} {t : Ty} {x : t.den} {cs : List Value} {O : List Nat} (hl : cs.length = t.size) : VX H S (ι.setO d cs O) (Ex.put d (.own t x) hp) (.at_ d []) [toV t cs] :=
  ⟨.own t x, t, x, cs, by simp [look_put], okP_nil, getP_nil, own_cells (by simp [Ix.setO]) hl, rfl⟩

theorem alloc_sound (hE : EnvOk E) (h : RS B S ι s a w) {o : Oper} {T : TypeId} (ho : o.op = .alloc T) : ORok E.P B o a w (aop E o s) := by
  unfold aop
  rw [ho]
  simp only
  split
  · rename_i t d ht hd
    split
    · rename_i hf
      have hz := tt_ok hE ht
      have hR : Rep w.heap S t.ty [] (zc t.ty) t.ty.dflt := Rep.dflt _
      intro next Q hn
      unfold Oper.wp
      have : (execOp a.eval o).run E.P w = .ok (.value (.pointer (some ⟨w.heap.size, 0, none⟩))) (pushed w (.cells (zc t.ty).toArray T)) := by
        simp [execOp, ho, Instr.alloc, run_zero hz, newVar, newRow, newObj, Sem.run, pushed, hR.cells]
      rw [this]
      exact hn S _ _ _ (h.alloc hf hR Flt.nil T) (ptr_new (by simp [pushed]))
    · trivial
  · trivial

end
end Go.Ex
