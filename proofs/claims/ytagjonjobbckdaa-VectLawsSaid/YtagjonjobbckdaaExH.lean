import Derived.Test.YtagjonjobbckdaaExG
namespace Go.Ex

section
variable {E : Env} {B : Base} {S : Nat → Prop} {ι : Ix} {s : St} {a : Act} {w : World} {hp : List (Nat × Ent)}

def Ix.setV (ι : Ix) (d : Nat) (r : Nat × Nat) (o : List Nat) : Ix := { ι with root := fun i => if i = d then r else ι.root i, own := fun i => if i = d then o else ι.own i }
def Ix.setO (ι : Ix) (d : Nat) (cs : List Value) (o : List Nat) : Ix := { ι with cells := fun i => if i = d then cs else ι.cells i, own := fun i => if i = d then o else ι.own i }

/-- two numberings that say the same of object i -/
def SameAt (ι ι' : Ix) (i : Nat) : Prop := ι'.root i = ι.root i ∧ ι'.cells i = ι.cells i ∧ ι'.own i = ι.own i

theorem SameAt.ob {ι' : Ix} {i : Nat} (h : SameAt ι ι' i) {H : Array Go.Obj} {e : Ent} : OB H S ι' i e ↔ OB H S ι i e := by
  obtain ⟨h1, h2, h3⟩ := h
  cases e <;> simp only [OB, h1, h2, h3]
theorem SameAt.blks {ι' : Ix} {i : Nat} (h : SameAt ι ι' i) {e : Ent} : blks ι' i e = blks ι i e := by
  obtain ⟨h1, h2, h3⟩ := h
  cases e <;> simp only [Ex.blks, h1, h3]
theorem SameAt.loc {ι' : Ix} {i : Nat} (h : SameAt ι ι' i) {H : Array Go.Obj} {e : Ent} {p : List Step} : Loc H ι' i e p = Loc H ι i e p := by
  obtain ⟨h1, h2, h3⟩ := h
  cases e <;> simp only [Loc, h1, h2]
theorem SameAt.cells_ {ι' : Ix} {i : Nat} (h : SameAt ι ι' i) {H : Array Go.Obj} {e : Ent} {p : List Step} {u : Ty} {cs : List Value} : Cells H ι' i e p u cs ↔ Cells H ι i e p u cs := by
  simp only [Cells, h.loc, h.2.1]

theorem sameAt_setV {i d : Nat} (h : i ≠ d) (r : Nat × Nat) (o : List Nat) : SameAt ι (ι.setV d r o) i := by simp [SameAt, Ix.setV, h]
theorem sameAt_setO {i d : Nat} (h : i ≠ d) (cs : List Value) (o : List Nat) : SameAt ι (ι.setO d cs o) i := by simp [SameAt, Ix.setO, h]

/-- abstract values that do not speak of object d, over another numbering and another list of objects, the heap as it was in all that matters -/
theorem VX.other {ι' : Ix} {hp' : List (Nat × Ent)} {H : Array Go.Obj} {d : Nat} (hl : ∀ i, i ≠ d → look i hp' = look i hp) (hs : ∀ i, i ≠ d → SameAt ι ι' i) {v : AV} (hm : v.ment d = false) {vs : List Value} (h : VX H S ι hp v vs) : VX H S ι' hp' v vs := by
  have := VX.map (H' := H) (S' := S) (ι' := ι') (hp' := hp') (fp := fun j p => match Nat.beq d j with | true => .any | false => .ptr j p) (fa := fun j p => match Nat.beq d j with | true => .any | false => .at_ j p)
    (fun _ _ => rfl) (fun _ h => h) ?_ ?_ h
  · exact (drop_noMent hm) ▸ this
  · rintro i p vs ⟨e, b, off, h1, h2, h3, h4⟩
    by_cases e : d = i
    · subst e; simp only [Nat.beq_refl]; rw [h4]; exact ⟨_, rfl⟩
    · simp only [beq_ne e]
      have e : i ≠ d := Ne.symm e
      exact ⟨_, b, off, (hl i e).trans h1, h2, (hs i e).loc.trans h3, h4⟩
  · rintro i p vs ⟨e, u, y, cs, h1, h2, h3, h4, h5⟩
    by_cases e : d = i
    · subst e; simp only [Nat.beq_refl]; rw [h5]; exact ⟨_, rfl⟩
    · simp only [beq_ne e]
      have e : i ≠ d := Ne.symm e
      exact ⟨_, u, y, cs, (hl i e).trans h1, h2, h3, (hs i e).cells_.2 h4, h5⟩

theorem push_old {H : Array Go.Obj} {o : Go.Obj} {b : Nat} (h : b < H.size) : (H.push o)[b]? = H[b]? := by
  rw [Array.getElem?_push, if_neg (by omega)]
theorem push_new {H : Array Go.Obj} {o : Go.Obj} : (H.push o)[H.size]? = some o := by simp

/-- the world with one block more -/
def pushed (w : World) (o : Go.Obj) : World := { w with heap := w.heap.push o }

theorem HS.bl_lt (h : HS B S ι hp w) {b : Nat} (hb : (∃ i e, look i hp = some e ∧ b ∈ blks ι i e) ∨ S b) : b < w.heap.size := by
  rcases hb with ⟨i, e, h1, h2⟩ | hb
  · exact (h.bl i e h1 b h2).2.2
  · exact h.slt b hb

/-- a new object in a new block -/
theorem HS.alloc (h : HS B S ι hp w) {d : Nat} (hd : look d hp = none) {t : Ty} {x : t.den} {cs : List Value} (hR : Rep w.heap S t [] cs x) (T : TypeId) :
    HS B S (ι.setV d (w.heap.size, 0) []) (Ex.put d (.var t x) hp) (pushed w (.cells cs.toArray T)) := by
  have hold : ∀ {b}, b < w.heap.size → (w.heap.push (.cells cs.toArray T))[b]? = w.heap[b]? := fun hb => push_old hb
  have hne : ∀ i e, look i hp = some e → i ≠ d := by rintro i e h1 rfl; rw [hd] at h1; cases h1
  have hob : ∀ i e, look i hp = some e → OB (w.heap.push (.cells cs.toArray T)) S (ι.setV d (w.heap.size, 0) []) i e := by
    intro i e h1
    exact (sameAt_setV (hne i e h1) _ _).ob.2 ((h.ob i e h1).stable (fun b hb => hold (by
      rcases hb with hb | hb
      · exact (h.bl i e h1 b hb).2.2
      · exact h.slt b hb)) (fun _ h => h))
  have hnew : blk (w.heap.push (.cells cs.toArray T)) w.heap.size = cs := by simp [blk]
  refine ⟨h.os, h.tape, h.out, ?_, ?_, ?_, h.s0, h.s1, ?_, ?_, ?_⟩
  · show _ ≤ (w.heap.push _).size; rw [Array.size_push]; have := h.size; omega
  · intro c hc hm
    show (w.heap.push _)[c]? = _
    rw [hold (by have := h.size; omega)]; exact h.frame c hc hm
  · intro b hb; show _ < (w.heap.push _).size; rw [Array.size_push]; have := h.slt b hb; omega
  · intro i e h1
    rw [look_put] at h1
    by_cases e1 : i = d
    · subst e1
      rw [if_pos rfl] at h1; cases h1
      refine ⟨⟨[], by simp [Ix.setV], ?_⟩, ?_, by simp [Ix.setV]⟩
      · simp only [Ix.setV, if_pos]
        have : cellsAt (w.heap.push (.cells cs.toArray T)) w.heap.size 0 t.size = cs := by
          simp only [cellsAt, hnew, List.drop_zero]
          exact List.take_of_length_le (by rw [hR.length]; exact Nat.le_refl _)
        show Rep _ S t [] (cellsAt (w.heap.push (.cells cs.toArray T)) w.heap.size 0 t.size) x
        rw [this]
        exact hR.stable (fun b hb => by rcases hb with hb | hb; cases hb; exact hold (h.slt b hb)) (fun _ h => h)
      · simp only [Ix.setV, if_pos]
        exact ⟨cs.toArray, T, push_new, by simp [hR.length]⟩
    · rw [if_neg e1] at h1; exact hob i e h1
  · intro i e h1 b hb
    rw [look_put] at h1
    by_cases e1 : i = d
    · subst e1
      rw [if_pos rfl] at h1; cases h1
      simp only [blks, Ix.setV, if_pos, List.mem_cons, List.not_mem_nil, or_false] at hb
      subst hb
      refine ⟨fun hs => Nat.lt_irrefl _ (h.slt _ hs), .inl h.size, ?_⟩
      show _ < (w.heap.push _).size; rw [Array.size_push]; omega
    · rw [if_neg e1] at h1
      rw [(sameAt_setV e1 _ _).blks] at hb
      obtain ⟨k1, k2, k3⟩ := h.bl i e h1 b hb
      refine ⟨k1, k2, ?_⟩
      show _ < (w.heap.push _).size; rw [Array.size_push]; omega
  · intro i j ei ej h1 h2 hij b hb
    rw [look_put] at h1 h2
    by_cases e1 : i = d
    · subst e1
      rw [if_neg (Ne.symm hij)] at h2
      rw [if_pos rfl] at h1; cases h1
      simp only [blks, Ix.setV, if_pos, List.mem_cons, List.not_mem_nil, or_false] at hb
      subst hb
      rw [(sameAt_setV (Ne.symm hij) _ _).blks]
      intro hb
      exact Nat.lt_irrefl _ (h.bl j ej h2 _ hb).2.2
    · rw [if_neg e1] at h1
      rw [(sameAt_setV e1 _ _).blks] at hb
      by_cases e2 : j = d
      · subst e2
        rw [if_pos rfl] at h2; cases h2
        simp only [blks, Ix.setV, if_pos, List.mem_cons, List.not_mem_nil, or_false]
        rintro rfl
        exact Nat.lt_irrefl _ (h.bl i ei h1 _ hb).2.2
      · rw [if_neg e2] at h2
        rw [(sameAt_setV e2 _ _).blks]
        exact h.dj i j ei ej h1 h2 hij b hb

/-- the state with a new object -/
theorem RS.alloc (h : RS B S ι s a w) {d : Nat} (hd : s.fresh d = true) {t : Ty} {x : t.den} {cs : List Value} (hR : Rep w.heap S t [] cs x) (T : TypeId) :
    RS B S (ι.setV d (w.heap.size, 0) []) (s.putE d (.var t x)) a (pushed w (.cells cs.toArray T)) := by
  simp only [St.fresh, Bool.and_eq_true, Option.isNone_iff_eq_none] at hd
  refine ⟨h.hs.alloc hd.1 hR T, h.dfr, h.sz, fun t v hv => ?_⟩
  have h1 := h.fr t v hv
  have h2 : VX (w.heap.push (.cells cs.toArray T)) S ι s.hp v [a.tmps.getD t undef] :=
    VX.grow (fun b hb => push_old (h.hs.bl_lt hb)) (fun _ h => h) h.hs.ob h1
  exact VX.other (d := d) (fun i hi => by rw [St.putE, look_put, if_neg hi]) (fun i hi => sameAt_setV hi _ _) (look_noMent hd.2 hv) h2

theorem ptr_new {d : Nat} {t : Ty} {x : t.den} {w' : World} {r : Nat × Nat} {o : List Nat} : VX w'.heap S (ι.setV d r o) (s.putE d (.var t x)).hp (.ptr d []) [.pointer (some ⟨r.1, r.2, none⟩)] := by
  refine ⟨.var t x, r.1, r.2, by simp [St.putE, look_put], by cases t <;> trivial, ?_, rfl⟩
  simp only [Loc, Ix.setV, if_pos]
  cases t <;> rfl

theorem alloc_sound (hE : EnvOk E) (h : RS B S ι s a w) {o : Oper} {T : TypeId} (ho : o.op = .alloc T) : ORok E.P B o a w (aop E o s) := by
  unfold aop
  rw [ho]
  simp only
  split
  · rename_i t d ht hd
    split
    · rename_i hf
      have hz := tt_ok hE ht
      have hR : Rep w.heap S t.ty [] (zc t.ty) t.ty.dflt := Rep.dflt _
      intro next Q hn
      unfold Oper.wp
      have : (execOp a.eval o).run E.P w = .ok (.value (.pointer (some ⟨w.heap.size, 0, none⟩))) (pushed w (.cells (zc t.ty).toArray T)) := by
        simp [execOp, ho, Instr.alloc, run_zero hz, newVar, newRow, newObj, Sem.run, pushed, hR.cells]
      rw [this]
      exact hn S _ _ _ (h.alloc hf hR T) ptr_new
    · trivial
  · trivial

theorem box_sound (h : RS B S ι s a w) {o : Oper} {T : TypeId} {x : Operand} (ho : o.op = .box T x) : ORok E.P B o a w (aop E o s) := by
  unfold aop
  rw [ho]
  simp only
  split
  · rename_i t d ht hd
    split
    · rename_i hf
      have hv := h.ev x
      split
      · rename_i u y hx
        split
        · rename_i hs
          rw [hx] at hv
          obtain ⟨cs, e, hR⟩ := hv
          have e : a.eval x = toV u cs := by simpa using e
          intro next Q hn
          unfold Oper.wp
          have : (execOp a.eval o).run E.P w = .ok (.value (.pointer (some ⟨w.heap.size, 0, none⟩))) (pushed w (.cells cs.toArray T)) := by
            simp [execOp, ho, Instr.box, e, newVar, newRow, newObj, Sem.run, pushed, hR.cells]
          rw [this]
          exact hn S _ _ _ (h.alloc hf hR T) ptr_new
        · trivial
      · trivial
    · trivial
  · trivial

end
end Go.Ex
