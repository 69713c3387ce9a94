import Derived.Test.YtagjonjobbckdaaExK
namespace Go.Ex

section
variable {E : Env} {B : Base} {S : Nat → Prop} {ι : Ix} {s : St} {a : Act} {w : World} {hp : List (Nat × Ent)} {H H' : Array Go.Obj}

theorem no_idx {α : Type} {n : Int} (h : 0 ≤ n ∧ n < (([] : List α).length : Int)) : False := by
  simp at h; omega

theorem evx {x : Operand} (h : RS B S ι s a w) {v : AV} (e : s.ev x = v) : VX w.heap S ι s.hp v [a.eval x] := e ▸ h.ev x

theorem exec_val {P : Program} {o : Oper} {sem : Sem Value} (he : execOp a.eval o = (do pure (.value (← sem)))) (h : RS B S ι s a w) {v : AV} {val : Value} (hr : sem.run P w = .ok val w)
    (hv : VX w.heap S ι s.hp v [val]) : OpOk P B o a w v s := OpOk.value (exec_value he hr) h hv

theorem ent_of {i : Nat} {e e' : Ent} (h1 : look i s.hp = some e) (h : s.obj i = some e') : e' = e := by
  rw [St.obj, h1] at h; cases h; rfl

theorem fieldAddr_sound (hE : EnvOk E) (h : RS B S ι s a w) {o : Oper} {T : TypeId} {x : Operand} {n : Nat} (ho : o.op = .fieldAddr T x n) : ORok E.P B o a w (aop E o s) := by
  have he : execOp a.eval o = (do pure (.value (← Instr.fieldAt T (a.eval x) n))) := by simp [execOp, ho]
  have core : ∀ {i : Nat} {p : List Step} {e : Ent} {u : Ty} {z : u.den} {r : Sigma Ty.den}, s.ev x = .ptr i p → s.obj i = some e → getP e.ty e.x p = some ⟨u, z⟩ → chk E T u = true → getP u z [.fld n] = some r →
      OpOk E.P B o a w (.ptr i (p ++ [.fld n])) s := by
    intro i p e u z r hx hob hg hc hg2
    obtain ⟨e', b, off, h1, h2, h3, h4⟩ := evx h hx
    obtain rfl := ent_of h1 hob
    have h4 : a.eval x = .pointer (some ⟨b, off, none⟩) := by simpa using h4
    obtain ⟨u2, z2⟩ := r
    refine exec_val he h (by rw [h4]; exact run_fieldAt (chk_ok hE hc) hg2 b off) ⟨e, b, off + offF u n, h1, ok_append hg h2 (ok_fld hg2), Loc_append hg h3 (Nav_fld hg2), rfl⟩
  unfold aop
  rw [ho]
  simp only
  split
  · rename_i i p hx
    split
    · rename_i t y hob
      split
      · rename_i u z hg
        split
        · rename_i r hc hg2; exact core hx hob hg hc hg2
        · trivial
      · trivial
    · rename_i t y hob
      split
      · rename_i u z hg
        split
        · rename_i r hc hg2; exact core hx hob hg hc hg2
        · trivial
      · trivial
    · trivial
  · rename_i t y hx
    split
    · rename_i u z hc hg
      obtain ⟨b, off, e, h1, h2, h3⟩ := evx h hx
      have e : a.eval x = .pointer (some ⟨b, off, none⟩) := by simpa using e
      have hok := ok_fld hg
      obtain ⟨O1, O2, b', off', e1, e2, e3, e4, e5, e6⟩ := focus h3 h2 hok hg
      have hO : O1 = [] ∧ O2 = [] := by have := e1.nil_eq; simpa using this.symm
      rw [Nav_fld hg] at e3; cases e3
      refine exec_val he h (by rw [e]; exact run_fieldAt (chk_ok hE hc) hg b off) ⟨b, off + offF t n, rfl, h1, e5, ?_⟩
      rw [hO.2] at e4; exact e4
    · trivial
  · trivial

theorem indexAddr_sound (hE : EnvOk E) (h : RS B S ι s a w) {o : Oper} {T : TypeId} {x y : Operand} (ho : o.op = .indexAddr T x y) : ORok E.P B o a w (aop E o s) := by
  have he : execOp a.eval o = (do pure (.value (← Instr.indexAt T (a.eval x) (a.eval y)))) := by simp [execOp, ho]
  have core : ∀ {i : Nat} {p : List Step} {e : Ent} {m : Nat} {u : Ty} {z : (Ty.arr m u).den} {k : IntKind} {n : Int}, s.ev x = .ptr i p → s.ev y = .val (.int k) n → s.obj i = some e → getP e.ty e.x p = some ⟨.arr m u, z⟩ → chk E T (.arr m u) = true →
      (0 ≤ n ∧ n < m) → OpOk E.P B o a w (.ptr i (p ++ [.idx n])) s := by
    intro i p e m u z k n hx hy hob hg hc hn
    obtain ⟨e', b, off, h1, h2, h3, h4⟩ := evx h hx
    obtain rfl := ent_of h1 hob
    have h4 : a.eval x = .pointer (some ⟨b, off, none⟩) := by simpa using h4
    obtain ⟨hyv, _⟩ := VX.int_inv (evx h hy)
    refine exec_val he h (by rw [h4, hyv]; exact run_indexAt_arr (chk_ok hE hc) b off hn) ⟨e, b, off + n.toNat * u.size, h1, ok_append hg h2 ⟨hn, by cases u <;> trivial⟩, Loc_append hg h3 ?_, rfl⟩
    simp only [Nav]
  have core2 : ∀ {i : Nat} {p : List Step} {e : Ent} {u : Ty} {z : (Ty.slc true u).den} {k : IntKind} {n : Int}, s.ev x = .at_ i p → s.ev y = .val (.int k) n → s.obj i = some e → getP e.ty e.x p = some ⟨.slc true u, z⟩ → chk E T (.slc true u) = true →
      (0 ≤ n ∧ n < List.length z) → OpOk E.P B o a w (.ptr i (p ++ [.idx n])) s := by
    intro i p e u z k n hx hy hob hg hc hn
    obtain ⟨e', u', y', cs, h1, h2, h3, h4, h5⟩ := evx h hx
    obtain rfl := ent_of h1 hob
    rw [hg] at h3; cases h3
    obtain ⟨hyv, _⟩ := VX.int_inv (evx h hy)
    have hob' := h.hs.ob i e h1
    have hval : ∃ b1 o1 len cap, a.eval x = .slice (some ⟨b1, o1, none⟩) (List.length z) cap ∧ cs = [.slice (some ⟨b1, o1, none⟩) (List.length z) cap] ∧ len = cap := by
      have hR : ∃ O2, Rep w.heap S (.slc true u) O2 cs z := by
        rcases h4 with ⟨b, off, hl, rfl⟩ | ⟨t, x0, rfl, rfl, rfl⟩
        · obtain ⟨O2, _, k2, _⟩ := Loc_mem hob' h2 hg hl
          exact ⟨O2, k2⟩
        · obtain ⟨⟨O, hO, hR⟩, _⟩ := hob'
          have hg : getP t x0 [] = some ⟨.slc true u, z⟩ := hg
          have : (⟨t, x0⟩ : Sigma Ty.den) = ⟨.slc true u, z⟩ := by
            cases t with
            | slc o t => cases o <;> (simp only [getP, Option.some.injEq] at hg; exact hg)
            | _ => simp only [getP, Option.some.injEq] at hg; exact hg
          cases this
          exact ⟨O, hR⟩
      obtain ⟨O2, hR⟩ := hR
      rcases hR with ⟨_, _, hz⟩ | ⟨b1, o1, cap, O', c1, _⟩
      · subst hz; simp at hn; omega
      · have h5 : a.eval x = toV (.slc true u) cs := by simpa using h5
        exact ⟨b1, o1, cap, cap, by rw [h5, c1]; rfl, c1, rfl⟩
    obtain ⟨b1, o1, _, cap, hxv, hcs, _⟩ := hval
    refine exec_val he h (by rw [hxv, hyv]; exact run_indexAt_slc (chk_ok hE hc) b1 o1 _ cap hn) ⟨e, b1, o1 + n.toNat * u.size, h1, ok_append hg h2 ⟨hn, by cases u <;> trivial⟩, ?_, rfl⟩
    rcases h4 with ⟨b, off, hl, rfl⟩ | ⟨t, x0, rfl, rfl, rfl⟩
    · refine Loc_append hg hl ?_
      have hh := (cellsAt_one b off _).1 hcs
      simp only [Nav, hh]
    · have hg : getP t x0 [] = some ⟨.slc true u, z⟩ := hg
      have : (⟨t, x0⟩ : Sigma Ty.den) = ⟨.slc true u, z⟩ := by
        cases t with
        | slc o t => cases o <;> (simp only [getP, Option.some.injEq] at hg; exact hg)
        | _ => simp only [getP, Option.some.injEq] at hg; exact hg
      cases this
      show NavC w.heap (.slc true u) (ι.cells i) [.idx n] = _
      rw [hcs]
      simp only [NavC, Nav]
  unfold aop
  rw [ho]
  simp only
  split
  · rename_i d p k n hx hy
    split
    · rename_i t z hob
      split
      · rename_i m u z' hg
        split
        · rename_i hc; intro hn; exact core hx hy hob hg hc hn
        · trivial
      · trivial
    · rename_i t z hob
      split
      · rename_i m u z' hg
        split
        · rename_i hc; intro hn; exact core hx hy hob hg hc hn
        · trivial
      · trivial
    · trivial
  · rename_i m t z k n hx hy
    split
    · rename_i hc
      intro hn
      obtain ⟨b, off, e, h1, h2, h3⟩ := evx h hx
      have e : a.eval x = .pointer (some ⟨b, off, none⟩) := by simpa using e
      obtain ⟨hyv, _⟩ := VX.int_inv (evx h hy)
      have hok : okP (.arr m t) z [.idx n] := ⟨hn, by cases t <;> trivial⟩
      have hg : getP (.arr m t) z [.idx n] = some ⟨t, List.getD z (Int.toNat n) t.dflt⟩ := by simp only [getP]
      obtain ⟨O1, O2, b', off', e1, e2, e3, e4, e5, e6⟩ := focus h3 h2 hok hg
      have hO : O1 = [] ∧ O2 = [] := by have := e1.nil_eq; simpa using this.symm
      have e3' : Nav w.heap (.arr m t) [.idx n] b off = some (b, off + Int.toNat n * t.size) := by simp only [Nav]
      rw [e3'] at e3; cases e3
      refine exec_val he h (by rw [e, hyv]; exact run_indexAt_arr (chk_ok hE hc) b off hn) ⟨b, off + Int.toNat n * t.size, rfl, h1, e5, ?_⟩
      rw [hO.2] at e4; exact e4
    · trivial
  · rename_i t z k n hx hy
    split
    · rename_i hc
      intro hn
      obtain ⟨cs, e, hR⟩ := evx h hx
      have e : a.eval x = toV (.slc false t) cs := by simpa using e
      obtain ⟨hyv, _⟩ := VX.int_inv (evx h hy)
      rcases hR with ⟨_, _, hz⟩ | ⟨b1, o1, cap, O', c1, c2, c3, c4, c5, c6, c7, c8⟩
      · subst hz; exact (no_idx hn).elim
      · have hxv : a.eval x = .slice (some ⟨b1, o1, none⟩) (List.length z) cap := by rw [e, c1]; rfl
        obtain ⟨b1', b2, b3, b4⟩ := idx_bound (sz := t.size) hn
        obtain ⟨P1, P2, P3, e1, g1, g2, g3⟩ := RepL.split (d := t.dflt) (i := Int.toNat n) b1' c5
        have hle : t.size ≤ List.length z * t.size - Int.toNat n * t.size := by omega
        rw [cellsAt_drop, cellsAt_take _ _ _ _ hle] at g2
        have hP : P2 = [] := by rw [c7] at e1; have := List.append_eq_nil_iff.1 e1.symm; exact (List.append_eq_nil_iff.1 this.2).1
        refine exec_val he h (by rw [hxv, hyv]; exact run_indexAt_slc (chk_ok hE hc) b1 o1 _ cap hn) ⟨b1, o1 + Int.toNat n * t.size, rfl, c8, by omega, ?_⟩
        rw [hP] at g2; exact g2
    · trivial
  · rename_i d p k n hx hy
    split
    · rename_i t z hob
      split
      · rename_i u z' hg
        split
        · rename_i hc; intro hn; exact core2 hx hy hob hg hc hn
        · trivial
      · trivial
    · rename_i t z hob
      split
      · rename_i u z' hg
        split
        · rename_i hc; intro hn; exact core2 hx hy hob hg hc hn
        · trivial
      · trivial
    · trivial
  · trivial

/-- a field of a struct's cells -/
theorem rep_fld : ∀ {t : Ty} {x : t.den} {n : Nat} {u : Ty} {z : u.den} {cs : List Value}, Rep H S t [] cs x → getP t x [.fld n] = some ⟨u, z⟩ → Rep H S u [] ((cs.drop (offF t n)).take u.size) z ∧ t.agg = true := by
  intro t
  induction t with
  | pair a c _ ihc =>
    intro x n u z cs hR h
    obtain ⟨O1, O2, e, h1, h2⟩ := hR
    have e1 : O1 = [] ∧ O2 = [] := by simpa using e.symm
    rw [e1.1] at h1; rw [e1.2] at h2
    refine ⟨?_, rfl⟩
    match n, h with
    | 0, h =>
      have h : some (⟨a, x.1⟩ : Sigma Ty.den) = some ⟨u, z⟩ := by rw [← h]; simp only [getP]
      cases h
      simpa [offF] using h1
    | n + 1, h =>
      have := (ihc (x := x.2) h2 h).1
      simpa [offF, List.drop_drop, Nat.add_comm] using this
  | slc o t _ => intro x n u z cs _ h; cases o <;> simp [getP] at h
  | _ => intro x n u z cs _ h; simp [getP] at h

theorem run_part {P : Program} {k : Nat} {T : TypeId} {u : Ty} {cs : List Value} {off : Nat} {z : u.den} (h : tyOk P k T u = true) (hR : Rep H S u [] ((cs.drop off).take u.size) z) :
    (part T cs.toArray off).run P w = .ok (toV u ((cs.drop off).take u.size)) w := by
  have hl := hR.length
  simp only [part, Sem.run_bind, run_isAgg h, Result.andThen]
  cases hg : u.agg with
  | true =>
    simp only [if_true, Sem.run_bind, run_sizeOf h, Result.andThen]
    simp [toV, hg]
  | false =>
    have h1 : u.size = 1 := by cases u <;> simp_all [Ty.agg, Ty.size]
    rw [h1] at hl ⊢
    match hc : (cs.drop off).take 1, hl with
    | [c], _ =>
      have : cs[off]? = some c := by
        have : ((cs.drop off).take 1)[0]? = some c := by rw [hc]; rfl
        simpa using this
      simp [this, toV, hg]

theorem unOp_sound (h : RS B S ι s a w) {o : Oper} {op : UnOp} {T : TypeId} {x : Operand} {P : Program} (ho : o.op = .unOp op T x) : ORok P B o a w (unA op (s.ev x) s) := by
  have he : execOp a.eval o = (do pure (.value (← Op.unary op (a.eval x)))) := by simp [execOp, ho]
  unfold unA
  split
  · rename_i b hx
    have := VX.bool_inv (evx h hx)
    exact exec_val he h (by rw [this]; rfl) VX.bool
  · rename_i k n hx
    obtain ⟨hv, _⟩ := VX.int_inv (evx h hx)
    exact arith_sound (by rw [exec_value he (w' := w) (val := .int k (k.wrap (0 - n)))]; rw [hv]; rfl) h
  · rename_i k n hx
    obtain ⟨hv, _⟩ := VX.int_inv (evx h hx)
    refine exec_val he h (val := .int k (bXor k (if k.signed then -1 else k.max) n)) (by rw [hv]; rfl) (VX.int (wrap_in _ _))
  · trivial

theorem convert_sound (hE : EnvOk E) (h : RS B S ι s a w) {o : Oper} {T T' : TypeId} {x : Operand} (ho : o.op = .convert T' T x) : ORok E.P B o a w (aop E o s) := by
  have he : execOp a.eval o = (do pure (.value (← convert T' T (a.eval x)))) := by simp [execOp, ho]
  unfold aop
  rw [ho]
  simp only
  split
  · rename_i k n k0 by0 k' by_ hx hT0 hT
    obtain ⟨hv, _⟩ := VX.int_inv (evx h hx)
    have hu := tyOk_int (tt_ok hE hT)
    have hu0 := tyOk_int (tt_ok hE hT0)
    refine exec_val he h (val := .int k' (k'.wrap n)) ?_ (VX.int (wrap_in _ _))
    rw [hv]
    simp [convert, run_under hu, run_under hu0, Conv.intToInt]
  · trivial

theorem field_sound (hE : EnvOk E) (h : RS B S ι s a w) {o : Oper} {T : TypeId} {x : Operand} {n : Nat} (ho : o.op = .field T x n) : ORok E.P B o a w (aop E o s) := by
  have he : execOp a.eval o = (do pure (.value (← Instr.field T (a.eval x) n))) := by simp [execOp, ho]
  unfold aop
  rw [ho]
  simp only
  split
  · rename_i t y hx
    split
    · rename_i u z hc hg
      obtain ⟨cs, e, hR⟩ := evx h hx
      have e : a.eval x = toV t cs := by simpa using e
      obtain ⟨fs, f, k', h1, h2, h3, h4, h5⟩ := tyOk_fields (chk_ok hE hc) hg
      obtain ⟨hR2, hag⟩ := rep_fld hR hg
      have : a.eval x = .agg cs.toArray := by rw [e, toV, hag]; rfl
      refine exec_val he h (val := toV u ((cs.drop (offF t n)).take u.size)) ?_ ⟨_, rfl, hR2⟩
      rw [this]
      have := run_part (w := w) h5 hR2
      simp [Instr.field, run_under h1, h2, asAgg, h3, this]
    · trivial
  · trivial

end
end Go.Ex
