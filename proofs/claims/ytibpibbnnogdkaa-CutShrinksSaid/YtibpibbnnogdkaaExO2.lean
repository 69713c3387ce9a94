import Derived.Test.YtibpibbnnogdkaaExO
namespace Go.Ex

section
variable {H H' : Array Go.Obj} {S : Nat → Prop}

theorem Free.stable {b n : Nat} (h : H'[b]? = H[b]?) : Free H b n → Free H' b n := by
  rintro ⟨arr, T, ⟨fz, e, ef⟩, hn⟩
  exact ⟨arr, T, ⟨fz, by rw [h]; exact e, ef⟩, hn⟩

theorem RepL.stable {t : Ty} {O : List Nat} {cs : List Value} {l : List t.den} (h : RepL (Rep H S t) t.size O cs l) (hH : ∀ c, c ∈ O ∨ S c → H'[c]? = H[c]?) : RepL (Rep H' S t) t.size O cs l :=
  RepL.mono (L := O) (fun _ h => h) (fun _ _ _ hO hr => hr.stable (fun c hc => hH c (hc.imp (hO c) id)) (fun _ h => h)) h

/-- what stays of an object, in a heap that agrees on its blocks -/
theorem RepBut.stable : ∀ {t : Ty} {p : List Step} {b off : Nat} {O : List Nat} {x : t.den}, RepBut H S t p b off O x → (∀ c, c = b ∨ c ∈ O ∨ S c → H'[c]? = H[c]?) →
    RepBut H' S t p b off O x ∧ Nav H' t p b off = Nav H t p b off := by
  intro t
  induction t with
  | pair a c iha ihc =>
    intro p b off O x hR hH
    match p, hR with
    | [], hR => exact ⟨hR, by rw [Nav_nil, Nav_nil]⟩
    | .fld 0 :: p, ⟨O1, O2, e, h1, h2⟩ =>
      subst e
      obtain ⟨k1, k2⟩ := iha h1 (fun c hc => hH c (hc.imp id (Or.imp (fun h => by simp [h]) id)))
      refine ⟨⟨O1, O2, rfl, k1, ?_⟩, k2⟩
      rw [cellsAt_congr (hH b (.inl rfl))]
      exact h2.stable (fun c hc => hH c (.inr (hc.imp (fun h => by simp [h]) id))) (fun _ h => h)
    | .fld (n + 1) :: p, ⟨O1, O2, e, h1, h2⟩ =>
      subst e
      obtain ⟨k1, k2⟩ := ihc h2 (fun c hc => hH c (hc.imp id (Or.imp (fun h => by simp [h]) id)))
      refine ⟨⟨O1, O2, rfl, ?_, k1⟩, k2⟩
      rw [cellsAt_congr (hH b (.inl rfl))]
      exact h1.stable (fun c hc => hH c (.inr (hc.imp (fun h => by simp [h]) id))) (fun _ h => h)
    | .idx i :: p, hR => simp [RepBut] at hR
  | arr n t ih =>
    intro p b off O x hR hH
    match p, hR with
    | [], hR => exact ⟨hR, by rw [Nav_nil, Nav_nil]⟩
    | .fld i :: p, hR => simp [RepBut] at hR
    | .idx i :: p, ⟨hl, hi, O1, O2, O3, e, h1, h2, h3⟩ =>
      subst e
      obtain ⟨k1, k2⟩ := ih h2 (fun c hc => hH c (hc.imp id (Or.imp (fun h => by simp [h]) id)))
      refine ⟨⟨hl, hi, O1, O2, O3, rfl, ?_, k1, ?_⟩, k2⟩
      · rw [cellsAt_congr (hH b (.inl rfl))]
        exact h1.stable (fun c hc => hH c (.inr (hc.imp (fun h => by simp [h]) id)))
      · rw [cellsAt_congr (hH b (.inl rfl))]
        exact h3.stable (fun c hc => hH c (.inr (hc.imp (fun h => by simp [h]) id)))
  | slc o t ih =>
    intro p b off O x hR hH
    match p, hR with
    | [], hR => exact ⟨by cases o <;> exact hR, by rw [Nav_nil, Nav_nil]⟩
    | .fld i :: p, hR => cases o <;> simp [RepBut] at hR
    | .idx i :: p, hR =>
      cases o with
      | false => simp [RepBut] at hR
      | true =>
        obtain ⟨hi, b1, o1, cap, O1, O2, O3, e, e1, e2, e3, e4, h1, h2, h3⟩ := hR
        subst e
        have hb1 : H'[b1]? = H[b1]? := hH b1 (by simp)
        obtain ⟨k1, k2⟩ := ih h2 (fun c hc => hH c (hc.elim (fun h => .inr (.inl (by simp [h]))) (fun h => .inr (h.imp (fun h => by simp [h]) id))))
        refine ⟨⟨hi, b1, o1, cap, O1, O2, O3, rfl, by rw [blk_congr (hH b (.inl rfl))]; exact e1, e2, e3, e4.stable hb1, ?_, k1, ?_⟩, ?_⟩
        · rw [cellsAt_congr hb1]
          exact h1.stable (fun c hc => hH c (.inr (hc.imp (fun h => by simp [h]) id)))
        · rw [cellsAt_congr hb1]
          exact h3.stable (fun c hc => hH c (.inr (hc.imp (fun h => by simp [h]) id)))
        · simp only [Nav, blk_congr (hH b (.inl rfl)), e1]
          exact k2
  | _ =>
    intro p b off O x hR hH
    match p, hR with
    | [], hR => exact ⟨hR, by rw [Nav_nil, Nav_nil]⟩
    | .fld i :: p, hR => simp [RepBut] at hR
    | .idx i :: p, hR => simp [RepBut] at hR
end

section
variable {E : Env} {B : Base} {S : Nat → Prop} {ι : Ix} {s : St} {a : Act} {w : World}

/-- an operation that no heap changes the answer of, and that changes none -/
def PureOk (P : Program) (S : Nat → Prop) (ι : Ix) (o : Oper) (a : Act) (w : World) (s : St) (v : AV) : Prop :=
  ∃ val, (∀ w', (execOp a.eval o).run P w' = .ok (.value val) w') ∧ VX w.heap S ι s.hp v [val]
def ORpure (P : Program) (S : Nat → Prop) (ι : Ix) (o : Oper) (a : Act) (w : World) (s : St) : OR → Prop
  | .fail _ => True
  | .ok v s' => s' = s ∧ PureOk P S ι o a w s v
  | .okN p v s' => p → s' = s ∧ PureOk P S ι o a w s v
theorem pure_val {P : Program} {o : Oper} {sem : Sem Value} (he : execOp a.eval o = (do pure (.value (← sem)))) {v : AV} {val : Value} (hr : ∀ w', sem.run P w' = .ok val w')
    (hv : VX w.heap S ι s.hp v [val]) : s = s ∧ PureOk P S ι o a w s v := ⟨rfl, val, fun w' => by rw [he]; simp [Sem.run_bind, hr w', Result.andThen], hv⟩

theorem fieldAddr_pure (hE : EnvOk E) (h : RS B S ι s a w) {o : Oper} {T : TypeId} {x : Operand} {n : Nat} (ho : o.op = .fieldAddr T x n) : ORpure E.P S ι o a w s (aop E o s) := by
  have he : execOp a.eval o = (do pure (.value (← Instr.fieldAt T (a.eval x) n))) := by simp [execOp, ho]
  unfold aop
  rw [ho]
  simp only
  split
  · rename_i i p hx
    split
    · rename_i u z hpt
      split
      · rename_i r hc hg2
        obtain ⟨e, b, off, h1, h2, h3, h4⟩ := evx h hx
        have hg := part_of h1 hpt
        have h4 : a.eval x = .pointer (some ⟨b, off, none⟩) := by simpa using h4
        obtain ⟨u2, z2⟩ := r
        exact pure_val he (fun _ => by rw [h4]; exact run_fieldAt (chk_ok hE hc) hg2 b off) ⟨e, b, off + offF u n, h1, ok_append hg h2 (ok_fld hg2), Loc_append hg h3 (fun G => Nav_fld hg2), rfl⟩
      · trivial
    · trivial
  · rename_i t y hx
    split
    · rename_i u z hc hg
      obtain ⟨b, off, e, h1, h2, h3⟩ := evx h hx
      have e : a.eval x = .pointer (some ⟨b, off, none⟩) := by simpa using e
      have hok := ok_fld hg
      obtain ⟨O1, O2, b', off', e1, e2, e3, e4, e5, e6⟩ := focus h3 h2 hok hg
      have hO : O1 = [] ∧ O2 = [] := by have := e1.nil_eq; simpa using this.symm
      rw [Nav_fld hg] at e3; cases e3
      refine pure_val he (fun _ => by rw [e]; exact run_fieldAt (chk_ok hE hc) hg b off) ⟨b, off + offF t n, rfl, h1, e5, ?_⟩
      rw [hO.2] at e4; exact e4
    · trivial
  · trivial

theorem indexAddr_pure (hE : EnvOk E) (h : RS B S ι s a w) {o : Oper} {T : TypeId} {x y : Operand} (ho : o.op = .indexAddr T x y) : ORpure E.P S ι o a w s (aop E o s) := by
  have he : execOp a.eval o = (do pure (.value (← Instr.indexAt T (a.eval x) (a.eval y)))) := by simp [execOp, ho]
  unfold aop
  rw [ho]
  simp only
  split
  · rename_i d p k n hx hy
    split
    · rename_i m u z hpt
      split
      · rename_i hc
        intro hn
        obtain ⟨e, b, off, h1, h2, h3, h4⟩ := evx h hx
        have hg := part_of h1 hpt
        have h4 : a.eval x = .pointer (some ⟨b, off, none⟩) := by simpa using h4
        obtain ⟨hyv, _⟩ := VX.int_inv (evx h hy)
        exact pure_val he (fun _ => by rw [h4, hyv]; exact run_indexAt_arr (chk_ok hE hc) b off hn) ⟨e, b, off + n.toNat * u.size, h1, ok_append hg h2 ⟨hn, okP_nil⟩, Loc_append hg h3 (fun G => by simp only [Nav, Nav_nil]), rfl⟩
      · trivial
    · trivial
  · rename_i m t z k n hx hy
    split
    · rename_i hc
      intro hn
      obtain ⟨b, off, e, h1, h2, h3⟩ := evx h hx
      have e : a.eval x = .pointer (some ⟨b, off, none⟩) := by simpa using e
      obtain ⟨hyv, _⟩ := VX.int_inv (evx h hy)
      have hok : okP (.arr m t) z [.idx n] := ⟨hn, by cases t <;> trivial⟩
      have hg : getP (.arr m t) z [.idx n] = some ⟨t, List.getD z (Int.toNat n) t.dflt⟩ := by simp only [getP]
      obtain ⟨O1, O2, b', off', e1, e2, e3, e4, e5, e6⟩ := focus h3 h2 hok hg
      have hO : O1 = [] ∧ O2 = [] := by have := e1.nil_eq; simpa using this.symm
      have e3' : Nav w.heap (.arr m t) [.idx n] b off = some (b, off + Int.toNat n * t.size) := by simp only [Nav]
      rw [e3'] at e3; cases e3
      refine pure_val he (fun _ => by rw [e, hyv]; exact run_indexAt_arr (chk_ok hE hc) b off hn) ⟨b, off + Int.toNat n * t.size, rfl, h1, e5, ?_⟩
      rw [hO.2] at e4; exact e4
    · trivial
  · rename_i t z k n hx hy
    split
    · rename_i hc
      intro hn
      obtain ⟨cs, e, hR⟩ := evx h hx
      have e : a.eval x = toV (.slc false t) cs := by simpa using e
      obtain ⟨hyv, _⟩ := VX.int_inv (evx h hy)
      rcases hR with ⟨_, _, hz⟩ | ⟨b1, o1, cap, O', c1, c2, c3, c4, c5, c6, c7, c8⟩
      · subst hz; exact (no_idx hn).elim
      · have hxv : a.eval x = .slice (some ⟨b1, o1, none⟩) (List.length z) cap := by rw [e, c1]; rfl
        obtain ⟨b1', b2, b3, b4⟩ := idx_bound (sz := t.size) hn
        obtain ⟨P1, P2, P3, e1, g1, g2, g3⟩ := RepL.split (d := t.dflt) (i := Int.toNat n) b1' c5
        have hle : t.size ≤ List.length z * t.size - Int.toNat n * t.size := by omega
        rw [cellsAt_drop, cellsAt_take _ _ _ _ hle] at g2
        have hP : P2 = [] := by rw [c7] at e1; have := List.append_eq_nil_iff.1 e1.symm; exact (List.append_eq_nil_iff.1 this.2).1
        refine pure_val he (fun _ => by rw [hxv, hyv]; exact run_indexAt_slc (chk_ok hE hc) b1 o1 _ cap hn) ⟨b1, o1 + Int.toNat n * t.size, rfl, c8, by omega, ?_⟩
        rw [hP] at g2; exact g2
    · trivial
  · rename_i d p k n hx hy
    split
    · rename_i u z hpt
      split
      · rename_i hc
        intro hn
        obtain ⟨e, u', y', cs, h1, h2, h3, h4, h5⟩ := evx h hx
        have hg := part_of h1 hpt
        rw [h3] at hg; cases hg
        obtain ⟨hyv, _⟩ := VX.int_inv (evx h hy)
        have h5 : a.eval x = toV (.slc true u) cs := by simpa using h5
        obtain ⟨O2, m1, m2, m3⟩ := sub_rep h.hs h1 h2 h3 h4
        rcases m3 with ⟨_, _, hz⟩ | ⟨b1, o1, cap, O', rfl, c2, c3, c4, c5, c6, c7⟩
        · subst hz; exact (no_idx hn).elim
        · have hxv : a.eval x = .slice (some ⟨b1, o1, none⟩) (List.length z) cap := h5
          obtain ⟨b0, off0, q1, q2⟩ := h4
          have hh := (cellsAt_one b0 off0 _).1 q2.symm
          refine pure_val he (fun _ => by rw [hxv, hyv]; exact run_indexAt_slc (chk_ok hE hc) b1 o1 _ cap hn) ⟨e, b1, o1 + n.toNat * u.size, h1, ok_append h3 h2 ⟨hn, okP_nil⟩, Loc_of (Place_append h3 q1 ?_) c7.lt, rfl⟩
          simp only [Nav, hh, Nav_nil]
      · trivial
    · trivial
  · rename_i d p lo hi k n hx hy
    split
    · rename_i u l hvw
      split
      · rename_i hc
        intro hn
        have hn1 : @LE.le Int Int.instLEInt 0 n := hn.1
        have hn2 : @LT.lt Int Int.instLTInt n (hi - lo) := hn.2
        obtain ⟨A, c, k1, k2, k3, k4, k5, e, k6, k7, k8⟩ := sub_els h.hs (evx h hx) hvw
        obtain ⟨hyv, _⟩ := VX.int_inv (evx h hy)
        have hz : l ≠ [] := by rintro rfl; have k3 : ((0 : Nat) : Int) = hi - lo := k3; omega
        obtain ⟨b, off, rfl, k9⟩ := k8 hz
        obtain ⟨off2, q1, rfl, q3⟩ := k9 n hn.1 (by omega)
        exact pure_val he (fun _ => by rw [k1, hyv]; exact run_indexAt_slc (chk_ok hE hc) b off _ c (by omega)) ⟨e, b, _, k6, q3, q1, rfl⟩
      · trivial
    · trivial
  · trivial


theorem addr_pure (hE : EnvOk E) (h : RS B S ι s a w) {o : Oper} (ho : isAddr o.op = true) : ORpure E.P S ι o a w s (aop E o s) := by
  unfold isAddr at ho
  split at ho
  · rename_i e; exact fieldAddr_pure hE h e
  · rename_i e; exact indexAddr_pure hE h e
  · cases ho
end

section
variable {S : Nat → Prop} {ι : Ix} {H H' : Array Go.Obj}

/-- the same of an object, whose root is no memory where it is a value -/
theorem RepBut.move {i : Nat} {e : Ent} {p : List Step} (hk : (∃ t x, e = .var t x) ∨ ∃ t x j q, e = .own (.slc true t) x ∧ p = .idx j :: q) {O : List Nat} (hR : RepBut (VH H ι i e) S e.ty p (VR H ι i e).1 (VR H ι i e).2 O e.x)
    (hO : ∀ c ∈ O, c < H.size) (hS : ∀ c, S c → c < H.size) (hsz : H.size ≤ H'.size) (hH : ∀ c, (c = (VR H ι i e).1 ∧ c < H.size) ∨ c ∈ O ∨ S c → H'[c]? = H[c]?) (hroot : (∃ t x, e = .var t x) → (VR H ι i e).1 < H.size) :
    RepBut (VH H' ι i e) S e.ty p (VR H' ι i e).1 (VR H' ι i e).2 O e.x ∧ Nav (VH H' ι i e) e.ty p (VR H' ι i e).1 (VR H' ι i e).2 = Nav (VH H ι i e) e.ty p (VR H ι i e).1 (VR H ι i e).2 := by
  rcases hk with ⟨t, x, rfl⟩ | ⟨t, x, j, q, rfl, rfl⟩
  · exact RepBut.stable (H := H) hR (fun c hc => hH c (hc.imp (fun h => ⟨h, h ▸ hroot ⟨_, _, rfl⟩⟩) id))
  · have hg : ∀ c, c ∈ O ∨ S c → (VH H' ι i (.own (.slc true t) x))[c]? = (VH H ι i (.own (.slc true t) x))[c]? := fun c hc => by
      have h1 : c < H.size := hc.elim (hO c) (hS c)
      rw [VH_old h1, VH_old (Nat.lt_of_lt_of_le h1 hsz)]
      exact hH c (.inr hc)
    obtain ⟨hi, b1, o1, cap, O1, O2, O3, e0, e1, e2, e3, e4, h1, h2, h3⟩ := hR
    subst e0
    have hb1 := hg b1 (by simp)
    obtain ⟨k1, k2⟩ := RepBut.stable h2 (H' := VH H' ι i (.own (.slc true t) x)) (fun c hc => hg c (hc.elim (fun h => .inl (by simp [h])) (fun h => h.imp (fun h => by simp [h]) id)))
    have hblk : (blk (VH H' ι i (.own (.slc true t) x)) (VR H' ι i (.own (.slc true t) x)).1)[(VR H' ι i (.own (.slc true t) x)).2]? = some (.slice (some ⟨b1, o1, none⟩) (List.length x) cap) := by
      refine Eq.trans ?_ (show (blk (VH H ι i (.own (.slc true t) x)) (VR H ι i (.own (.slc true t) x)).1)[(VR H ι i (.own (.slc true t) x)).2]? = some (.slice (some ⟨b1, o1, none⟩) (List.length x) cap) from e1)
      simp only [VH, VR, gh_blk]
    refine ⟨⟨hi, b1, o1, cap, O1, O2, O3, rfl, hblk, e2, e3, e4.stable hb1, ?_, k1, ?_⟩, ?_⟩
    · rw [cellsAt_congr hb1]; exact h1.stable (fun c hc => hg c (hc.imp (fun h => by simp [h]) id))
    · rw [cellsAt_congr hb1]; exact h3.stable (fun c hc => hg c (hc.imp (fun h => by simp [h]) id))
    · have e1' : (blk (VH H ι i (.own (.slc true t) x)) (VR H ι i (.own (.slc true t) x)).1)[(VR H ι i (.own (.slc true t) x)).2]? = some (.slice (some ⟨b1, o1, none⟩) (List.length x) cap) := e1
      simp only [Ent.ty, Nav, hblk, e1']
      exact k2

theorem Chg.refl {b off n m : Nat} (h : Free H b m) : Chg H H b off n := by
  obtain ⟨arr, T, ⟨fz, e, ef⟩, _⟩ := h
  exact ⟨⟨arr, arr, T, ⟨fz, ⟨e, ef⟩, e⟩, rfl, fun _ _ => rfl⟩, fun _ _ _ => rfl⟩

theorem setP_same : ∀ {t : Ty} {x : t.den} {p : List Step} {u : Ty} {y : u.den}, okP t x p → getP t x p = some ⟨u, y⟩ → setP t x p u y = some ⟨t, x⟩ := by
  intro t
  have set_self : ∀ {α : Type} {l : List α} {i : Int} {d : α}, (0 ≤ i ∧ i < List.length l) → List.set l i.toNat (List.getD l i.toNat d) = l := by
    intro α l i d h
    have h1 : i.toNat < l.length := by omega
    rw [List.getD_eq_getElem?_getD, List.getElem?_eq_getElem h1]; simp
  induction t with
  | pair a c iha ihc =>
    intro x p u y ho hg
    match p, ho, hg with
    | [], _, hg => simp only [getP, Option.some.injEq] at hg; cases hg; simp [setP]
    | .fld 0 :: p, ho, hg => simp only [setP, iha (x := x.1) ho hg]
    | .fld (n + 1) :: p, ho, hg => simp only [setP, ihc (x := x.2) (p := .fld n :: p) ho hg]
    | .idx i :: p, ho, _ => simp [okP] at ho
  | arr n t ih =>
    intro x p u y ho hg
    match p, ho, hg with
    | [], _, hg => simp only [getP, Option.some.injEq] at hg; cases hg; simp [setP]
    | .fld i :: p, ho, _ => simp [okP] at ho
    | .idx i :: p, ho, hg =>
      simp only [setP, ih ho.2 hg, dif_pos]
      by_cases hl : i < List.length x
      · rw [set_self ⟨ho.1.1, hl⟩]
      · rw [List.set_eq_of_length_le (by have := ho.1.1; omega)]
  | slc o t ih =>
    intro x p u y ho hg
    match p, ho, hg with
    | [], _, hg => rw [getP_nil] at hg; cases hg; cases o <;> simp [setP]
    | .fld i :: p, ho, _ => cases o <;> simp [okP] at ho
    | .idx i :: p, ho, hg =>
      cases o with
      | false => simp [okP] at ho
      | true =>
        simp only [setP, ih ho.2 hg, dif_pos]
        rw [set_self ho.1]
  | _ =>
    intro x p u y ho hg
    match p, ho, hg with
    | [], _, hg => simp only [getP, Option.some.injEq] at hg; cases hg; simp [setP]
    | .idx i :: p, ho, _ => simp [okP] at ho
    | .fld i :: p, ho, _ => simp [okP] at ho

/-- an object stays, where what one of its parts owns has changed but reads as before -/
theorem OB.same {i : Nat} {e : Ent} (ho : OB H S ι i e) (hbl : ∀ c ∈ blks ι i e, ¬ S c ∧ c < H.size) (hS : ∀ c, S c → c < H.size) {p : List Step} (hk : (∃ t x, e = .var t x) ∨ ∃ t x j q, e = .own (.slc true t) x ∧ p = .idx j :: q) (hok : okP e.ty e.x p) {u : Ty} {y : u.den} (hg : getP e.ty e.x p = some ⟨u, y⟩)
    {b off : Nat} (hl : Loc H ι i e p = some (b, off)) (hsz : H.size ≤ H'.size) {Op : List Nat} (hOp : Rep H S u Op (cellsAt H b off u.size) y) (hH : ∀ c, c < H.size → c ∉ Op → H'[c]? = H[c]?) (hR' : Rep H' S u Op (cellsAt H' b off u.size) y) :
    OB H' S ι i e ∧ Loc H' ι i e p = some (b, off) := by
  have he : e ≠ .bag := Loc_bag hl
  have hbOp := ho.part_root he hS hok hg hl hOp
  obtain ⟨Om, m1, mn, m2, m3, m4, m5⟩ := Loc_mem he ho hS hok hg hl
  obtain ⟨O, hO, hR, hb, hnd, hlt, hns, hfr⟩ := ho.see he hS
  obtain ⟨O1, O3, b', off', e1, e2, e3, e4, e5, e6⟩ := focus hR hb hok hg
  obtain ⟨hpl, hbl2⟩ := Loc_place hl
  rw [Place_eq he] at hpl
  rw [e3] at hpl; cases hpl
  have hndO : (O1 ++ O3).Nodup := (e1.nodup_iff).1 ((hO.nodup_iff).2 (List.nodup_cons.1 hnd).2)
  have hmem : ∀ c ∈ O1, c ∈ ι.own i := fun c hc => hO.mem_iff.1 (e1.mem_iff.2 (by simp [hc]))
  have hmem3 : ∀ c ∈ O3, c ∈ ι.own i := fun c hc => hO.mem_iff.1 (e1.mem_iff.2 (by simp [hc]))
  have hroot := (List.nodup_cons.1 hnd).1
  have hown : ∀ c ∈ ι.own i, c ∈ blks ι i e := by intro c hc; cases e <;> simp [blks, hc]
  have e4' : Rep H S u O3 (cellsAt H b off u.size) y := by
    rw [cellsAt_congr (VH_old hbl2)] at e4
    exact (VH_rep (fun c hc => ho.own_lt he (hmem3 c hc)) hS).1 e4
  obtain rfl : Op = O3 := hOp.det e4'
  have hlt1 : ∀ c ∈ O1, c < H.size := fun c hc => ho.own_lt he (hmem c hc)
  have hagree : ∀ c, (c = (VR H ι i e).1 ∧ c < H.size) ∨ c ∈ O1 ∨ S c → H'[c]? = H[c]? := by
    rintro c (⟨rfl, h1⟩ | h1 | h1)
    · exact hH _ h1 (fun h => hroot (hmem3 _ h))
    · exact hH c (hlt1 c h1) (fun h => (List.nodup_append.1 hndO).2.2 c h1 c h rfl)
    · exact hH c (hS c h1) (fun h => (hbl c (hown c (hmem3 c h))).1 h1)
  have hvr : (∃ t x, e = .var t x) → (VR H ι i e).1 < H.size := by rintro ⟨t, x, rfl⟩; exact hlt
  obtain ⟨n1, n2⟩ := RepBut.move (H' := H') hk e2 hlt1 hS hsz hagree hvr
  have hb' : (VR H' ι i e).2 + e.ty.size ≤ (blk (VH H' ι i e) (VR H' ι i e).1).length ∧ (VR H' ι i e).1 < (VH H' ι i e).size ∧ ¬ S (VR H' ι i e).1 ∧ (VR H' ι i e).1 ∉ O1 := by
    rcases hk with ⟨t, x, rfl⟩ | ⟨t, x, j, q, rfl, rfl⟩
    · have hr := hvr ⟨_, _, rfl⟩
      refine ⟨?_, Nat.lt_of_lt_of_le hr hsz, (hbl _ (by simp [blks, VR])).1, fun h => hroot (hmem _ h)⟩
      have := blk_congr (hagree _ (.inl ⟨rfl, hr⟩))
      show (VR H ι i (.var t x)).2 + _ ≤ (blk H' (VR H ι i (.var t x)).1).length
      rw [this]; exact hb
    · refine ⟨?_, by simp [VH, VR, gh_size], fun h => by have := hS _ h; simp only [VR] at this; omega, fun h => by have := hlt1 _ h; simp only [VR] at this; omega⟩
      simp only [VH, VR, gh_blk] at hb ⊢; exact hb
  have hfree : Free (VH H' ι i e) b (off + u.size) := Free.stable (H := H') (VH_old (Nat.lt_of_lt_of_le hbl2 hsz)) (m5.stable (hH b hbl2 hbOp))
  have hRv : Rep (VH H' ι i e) S u Op (cellsAt (VH H' ι i e) b off u.size) y := by
    rw [cellsAt_congr (VH_old (Nat.lt_of_lt_of_le hbl2 hsz))]
    exact (VH_rep (fun c hc => Nat.lt_of_lt_of_le (ho.own_lt he (hmem3 c hc)) hsz) (fun c hc => Nat.lt_of_lt_of_le (hS c hc) hsz)).2 hR'
  obtain ⟨O4, f1, f2, f3⟩ := unfocus n1 hg (n2.trans e3) hb'.1 hb'.2.1 (List.nodup_append.1 hndO).1 hb'.2.2.2 (fun c hc => ⟨(hbl c (hown c (hmem c hc))).1, Nat.lt_of_lt_of_le (hlt1 c hc) (Nat.le_trans hsz VH_le)⟩) hb'.2.2.1
    (fun c hc => Nat.lt_of_lt_of_le (hS c hc) (Nat.le_trans hsz VH_le)) (fun _ h => h) (Chg.refl hfree) hRv (setP_same hok hg)
  have hsub : ∀ c ∈ O4, c ∈ ι.own i := fun c hc => (List.mem_append.1 (f1.mem_iff.1 hc)).elim (hmem c) (hmem3 c)
  have hnd4 : O4.Nodup := (f1.nodup_iff).2 hndO
  have f2' := (VH_rep (fun c hc => Nat.lt_of_lt_of_le (ho.own_lt he (hsub c hc)) hsz) (fun c hc => Nat.lt_of_lt_of_le (hS c hc) hsz)).1 f2
  have hp4 : O4.Perm (ι.own i) := f1.trans (e1.symm.trans hO)
  refine ⟨?_, Loc_of (by rw [Place_eq he, n2]; exact e3) (Nat.lt_of_lt_of_le hbl2 hsz)⟩
  cases e with
  | var t x =>
    simp only [OB]
    obtain ⟨_, hf, hnd0⟩ := ho
    exact ⟨⟨O4, hp4, f2'⟩, hf.stable (hagree _ (.inl ⟨rfl, hvr ⟨_, _, rfl⟩⟩)), hnd0⟩
  | own t x =>
    simp only [OB]
    obtain ⟨⟨O', _, hR'⟩, hnd0⟩ := ho
    refine ⟨⟨O4, hp4, ?_⟩, hnd0⟩
    have : cellsAt (VH H' ι i (.own t x)) (VR H' ι i (.own t x)).1 (VR H' ι i (.own t x)).2 t.size = ι.cells i := by
      simp only [VH, VR, cellsAt, gh_blk, List.drop_zero]
      exact List.take_of_length_le (by rw [hR'.length]; exact Nat.le_refl _)
    have f2'' : Rep H' S t O4 (cellsAt (VH H' ι i (.own t x)) (VR H' ι i (.own t x)).1 (VR H' ι i (.own t x)).2 t.size) x := f2'
    rw [this] at f2''
    exact f2''
  | bag => exact absurd rfl he

/-- where nothing has turned: pointers and cells -/
theorem sib {t : Ty} {O : List Nat} {b off : Nat} {x : t.den} (hR : Rep H S t O (cellsAt H b off t.size) x) (hb : off + t.size ≤ (blk H b).length) (hc : cellsAt H' b off t.size = cellsAt H b off t.size) (hO : ∀ c ∈ O, H'[c]? = H[c]?)
    {q : List Step} (ho : okP t x q) {u : Ty} {y : u.den} (hg : getP t x q = some ⟨u, y⟩) {b' off' : Nat} (hn : Nav H t q b off = some (b', off')) : Nav H' t q b off = some (b', off') ∧ cellsAt H' b' off' u.size = cellsAt H b' off' u.size :=
  ⟨(nav_rep hR hb ho hc hO).trans hn, at_rep hR hb ho hc hO hg hn⟩

/-- behind a change within a part that its own pointers do not see -/
theorem but_nav : ∀ {t : Ty} {p : List Step} {b off : Nat} {O1 : List Nat} {x : t.den}, RepBut H S t p b off O1 x → off + t.size ≤ (blk H b).length → cellsAt H' b off t.size = cellsAt H b off t.size → (∀ c ∈ O1, H'[c]? = H[c]?) →
    ∀ {u0 : Ty} {y0 : u0.den}, getP t x p = some ⟨u0, y0⟩ → ∀ {b0 off0 : Nat}, Nav H t p b off = some (b0, off0) →
    (∀ {q : List Step}, okP u0 y0 q → ∀ {u : Ty} {y : u.den}, getP u0 y0 q = some ⟨u, y⟩ → ∀ {b' off' : Nat}, Nav H u0 q b0 off0 = some (b', off') → Nav H' u0 q b0 off0 = some (b', off') ∧ cellsAt H' b' off' u.size = cellsAt H b' off' u.size) →
    ∀ {q : List Step}, okP t x q → ∀ {u : Ty} {y : u.den}, getP t x q = some ⟨u, y⟩ → ∀ {b' off' : Nat}, Nav H t q b off = some (b', off') → Nav H' t q b off = some (b', off') ∧ cellsAt H' b' off' u.size = cellsAt H b' off' u.size := by
  intro t
  have here : ∀ {t : Ty} {x : t.den} {b off : Nat}, cellsAt H' b off t.size = cellsAt H b off t.size → ∀ {u : Ty} {y : u.den}, getP t x [] = some ⟨u, y⟩ → ∀ {b' off' : Nat}, Nav H t [] b off = some (b', off') → Nav H' t [] b off = some (b', off') ∧ cellsAt H' b' off' u.size = cellsAt H b' off' u.size := by
    intro t x b off hc u y hg b' off' hn
    rw [getP_nil] at hg; cases hg
    rw [Nav_nil] at hn; cases hn
    exact ⟨Nav_nil .., hc⟩
  induction t with
  | pair a c iha ihc =>
    intro p b off O1 x hR hb hc hO u0 y0 hg0 b0 off0 hn0 hP q ho u y hg b' off' hn
    match p, hR, hg0, hn0 with
    | [], _, hg0, hn0 =>
      rw [getP_nil] at hg0; cases hg0
      rw [Nav_nil] at hn0; cases hn0
      exact hP ho hg hn
    | .fld 0 :: p, ⟨P1, P2, e, h1, h2⟩, hg0, hn0 =>
      subst e
      simp only [Ty.size] at hb hc
      match q, ho, hg, hn with
      | [], _, hg, hn => exact here hc hg hn
      | .fld 0 :: q, ho, hg, hn => exact iha h1 (by omega) (cells_sub hc (by omega) (by omega)) (fun c hc => hO c (by simp [hc])) hg0 hn0 hP ho hg hn
      | .fld (m + 1) :: q, ho, hg, hn => exact sib h2 (by omega) (cells_sub hc (by omega) (by omega)) (fun c hc => hO c (by simp [hc])) (q := .fld m :: q) ho hg hn
      | .idx i :: q, ho, _, _ => simp [okP] at ho
    | .fld (n + 1) :: p, ⟨P1, P2, e, h1, h2⟩, hg0, hn0 =>
      subst e
      simp only [Ty.size] at hb hc
      match q, ho, hg, hn with
      | [], _, hg, hn => exact here hc hg hn
      | .fld 0 :: q, ho, hg, hn => exact sib h1 (by omega) (cells_sub hc (by omega) (by omega)) (fun c hc => hO c (by simp [hc])) (q := q) ho hg hn
      | .fld (m + 1) :: q, ho, hg, hn => exact ihc h2 (by omega) (cells_sub hc (by omega) (by omega)) (fun c hc => hO c (by simp [hc])) hg0 hn0 hP (q := .fld m :: q) ho hg hn
      | .idx i :: q, ho, _, _ => simp [okP] at ho
    | .idx i :: p, hR, _, _ => simp [RepBut] at hR
  | arr n t ih =>
    intro p b off O1 x hR hb hc hO u0 y0 hg0 b0 off0 hn0 hP q ho u y hg b' off' hn
    match p, hR, hg0, hn0 with
    | [], _, hg0, hn0 =>
      rw [getP_nil] at hg0; cases hg0
      rw [Nav_nil] at hn0; cases hn0
      exact hP ho hg hn
    | .fld i :: p, hR, _, _ => simp [RepBut] at hR
    | .idx i :: p, ⟨hl, hi, P1, P2, P3, e, h1, h2, h3⟩, hg0, hn0 =>
      subst e
      obtain ⟨b1, b2, b3, b4⟩ := idx_bound (sz := t.size) hi
      simp only [Ty.size] at hb hc
      match q, ho, hg, hn with
      | [], _, hg, hn => exact here hc hg hn
      | .fld j :: q, ho, _, _ => simp [okP] at ho
      | .idx j :: q, ⟨hj, ho⟩, hg, hn =>
        obtain ⟨d1, d2, d3, d4⟩ := idx_bound (sz := t.size) hj
        simp only [Nav] at hn ⊢
        simp only [getP] at hg
        have hcj : cellsAt H' b (off + j.toNat * t.size) t.size = cellsAt H b (off + j.toNat * t.size) t.size := cells_sub hc (by omega) (by omega)
        by_cases hij : i.toNat = j.toNat
        · rw [← hij] at ho hg hn hcj ⊢
          exact ih h2 (by omega) hcj (fun c hc => hO c (by simp [hc])) hg0 hn0 hP ho hg hn
        · rcases Nat.lt_or_gt_of_ne hij with hlt | hgt
          · have hd : j.toNat - (i.toNat + 1) < (List.drop (i.toNat + 1) x).length := by simp only [List.length_drop]; omega
            obtain ⟨Q1, Q2, Q3, e, k1, k2, k3⟩ := RepL.split (d := t.dflt) hd h3
            have e1 : (i.toNat + 1) * t.size + (j.toNat - (i.toNat + 1)) * t.size = j.toNat * t.size := by rw [← Nat.add_mul]; congr 1; omega
            have hm : (j.toNat - (i.toNat + 1)) * t.size + t.size ≤ (n - (i.toNat + 1)) * t.size := by omega
            rw [cellsAt_drop, cellsAt_take _ _ _ _ (by omega), Nat.add_assoc, e1] at k2
            have e2 : (List.drop (i.toNat + 1) x).getD (j.toNat - (i.toNat + 1)) t.dflt = List.getD x j.toNat t.dflt := by
              simp only [List.getD_eq_getElem?_getD, List.getElem?_drop]
              rw [show i.toNat + 1 + (j.toNat - (i.toNat + 1)) = j.toNat from by omega]
            rw [e2] at k2
            exact sib k2 (by omega) hcj (fun d hd => hO d (by rw [e]; simp [hd])) ho hg hn
          · have hd : j.toNat < (List.take i.toNat x).length := by simp only [List.length_take]; omega
            obtain ⟨Q1, Q2, Q3, e, k1, k2, k3⟩ := RepL.split (d := t.dflt) hd h1
            have hm : j.toNat * t.size + t.size ≤ i.toNat * t.size := by
              rw [← Nat.succ_mul]; exact Nat.mul_le_mul_right _ (by omega)
            rw [cellsAt_drop, cellsAt_take _ _ _ _ (by omega)] at k2
            have e2 : (List.take i.toNat x).getD j.toNat t.dflt = List.getD x j.toNat t.dflt := by
              simp only [List.getD_eq_getElem?_getD, List.getElem?_take]
              rw [if_pos (by omega)]
            rw [e2] at k2
            exact sib k2 (by omega) hcj (fun d hd => hO d (by rw [e]; simp [hd])) ho hg hn
  | slc o t ih =>
    intro p b off O1 x hR hb hc hO u0 y0 hg0 b0 off0 hn0 hP q ho u y hg b' off' hn
    match p, hR, hg0, hn0 with
    | [], _, hg0, hn0 =>
      rw [getP_nil] at hg0; cases hg0
      rw [Nav_nil] at hn0; cases hn0
      exact hP ho hg hn
    | .fld i :: p, hR, _, _ => cases o <;> simp [RepBut] at hR
    | .idx i :: p, hR, hg0, hn0 =>
      cases o with
      | false => simp [RepBut] at hR
      | true =>
        obtain ⟨hi, c1, o1, cap, P1, P2, P3, e, e1, e2, e3, e4, e5, e6, e7⟩ := hR
        subst e
        obtain ⟨b1, b2, b3, b4⟩ := idx_bound (sz := t.size) hi
        have hcap : List.length x * t.size ≤ cap * t.size := Nat.mul_le_mul_right _ e2
        have hfb := e4.blk
        simp only [Ty.size] at hb hc
        match q, ho, hg, hn with
        | [], _, hg, hn => exact here (t := .slc true t) hc hg hn
        | .fld j :: q, ho, _, _ => simp [okP] at ho
        | .idx j :: q, ⟨hj, ho⟩, hg, hn =>
          obtain ⟨d1, d2, d3, d4⟩ := idx_bound (sz := t.size) hj
          have hhd : (blk H' b)[off]? = some (.slice (some ⟨c1, o1, none⟩) (List.length x) cap) := by
            rw [blk_of_cells hc (j := off) (by omega) (by omega)]; exact e1
          simp only [Nav, e1] at hn hn0
          simp only [Nav, hhd]
          simp only [getP] at hg
          have hcj : cellsAt H' c1 (o1 + j.toNat * t.size) t.size = cellsAt H c1 (o1 + j.toNat * t.size) t.size := cellsAt_congr (hO c1 (by simp)) _ _
          by_cases hij : i.toNat = j.toNat
          · rw [← hij] at ho hg hn hcj ⊢
            exact ih e6 (by omega) hcj (fun c hc => hO c (by simp [hc])) hg0 hn0 hP ho hg hn
          · rcases Nat.lt_or_gt_of_ne hij with hlt | hgt
            · have hd : j.toNat - (i.toNat + 1) < (List.drop (i.toNat + 1) x).length := by simp only [List.length_drop]; omega
              obtain ⟨Q1, Q2, Q3, e, k1, k2, k3⟩ := RepL.split (d := t.dflt) hd e7
              have f1 : (i.toNat + 1) * t.size + (j.toNat - (i.toNat + 1)) * t.size = j.toNat * t.size := by rw [← Nat.add_mul]; congr 1; omega
              have hm : (j.toNat - (i.toNat + 1)) * t.size + t.size ≤ (List.length x - (i.toNat + 1)) * t.size := by omega
              rw [cellsAt_drop, cellsAt_take _ _ _ _ (by omega), Nat.add_assoc, f1] at k2
              have f2 : (List.drop (i.toNat + 1) x).getD (j.toNat - (i.toNat + 1)) t.dflt = List.getD x j.toNat t.dflt := by
                simp only [List.getD_eq_getElem?_getD, List.getElem?_drop]
                rw [show i.toNat + 1 + (j.toNat - (i.toNat + 1)) = j.toNat from by omega]
              rw [f2] at k2
              exact sib k2 (by omega) hcj (fun d hd => hO d (by rw [e]; simp [hd])) ho hg hn
            · have hd : j.toNat < (List.take i.toNat x).length := by simp only [List.length_take]; omega
              obtain ⟨Q1, Q2, Q3, e, k1, k2, k3⟩ := RepL.split (d := t.dflt) hd e5
              have hm : j.toNat * t.size + t.size ≤ i.toNat * t.size := by
                rw [← Nat.succ_mul]; exact Nat.mul_le_mul_right _ (by omega)
              rw [cellsAt_drop, cellsAt_take _ _ _ _ (by omega)] at k2
              have f2 : (List.take i.toNat x).getD j.toNat t.dflt = List.getD x j.toNat t.dflt := by
                simp only [List.getD_eq_getElem?_getD, List.getElem?_take]
                rw [if_pos (by omega)]
              rw [f2] at k2
              exact sib k2 (by omega) hcj (fun d hd => hO d (by rw [e]; simp [hd])) ho hg hn
  | _ =>
    intro p b off O1 x hR hb hc hO u0 y0 hg0 b0 off0 hn0 hP q ho u y hg b' off' hn
    match p, hR, hg0, hn0 with
    | [], _, hg0, hn0 =>
      rw [getP_nil] at hg0; cases hg0
      rw [Nav_nil] at hn0; cases hn0
      exact hP ho hg hn
    | .idx i :: p, hR, _, _ => simp [RepBut] at hR
    | .fld i :: p, hR, _, _ => simp [RepBut] at hR

/-- what was written behind a slice's last element is seen by none -/
theorem spare_part {t0 : Ty} {l : List t0.den} {b off b1 o1 cap n : Nat} {Op : List Nat} (hR : Rep H S (.slc true t0) Op (cellsAt H b off 1) l) (hOp : ∀ c ∈ Op, c < H.size) (hnd : Op.Nodup) (hb : b < H.size) (hbO : b ∉ Op)
    (hh : cellsAt H b off 1 = [.slice (some ⟨b1, o1, none⟩) l.length cap]) (h1 : 1 ≤ cap) (hc : Chg H H' b1 (o1 + l.length * t0.size) n) :
    ∀ {q : List Step}, okP (.slc true t0) l q → ∀ {u : Ty} {y : u.den}, getP (.slc true t0) l q = some ⟨u, y⟩ → ∀ {b' off' : Nat}, Nav H (.slc true t0) q b off = some (b', off') → Nav H' (.slc true t0) q b off = some (b', off') ∧ cellsAt H' b' off' u.size = cellsAt H b' off' u.size := by
  intro q ho u y hg b' off' hn
  rcases hR with ⟨_, ⟨A, c, e, hc0⟩, _⟩ | ⟨b2, o2, cap2, O', c1, c2, c3, c4, c5, rfl, c7⟩
  · rw [hh] at e
    simp only [List.cons.injEq, Value.slice.injEq, and_true] at e
    have := hc0 rfl; omega
  · rw [hh] at c1
    simp only [List.cons.injEq, Value.slice.injEq, Option.some.injEq, Addr.mk.injEq, and_true] at c1
    obtain ⟨⟨rfl, rfl⟩, -, rfl⟩ := c1
    have hne : b ≠ b1 := fun e => hbO (by simp [e])
    have hcb : cellsAt H' b off 1 = cellsAt H b off 1 := hc.cells hb (fun e => absurd e hne)
    match q, ho, hg, hn with
    | [], _, hg, hn =>
      rw [getP_nil] at hg; cases hg
      rw [Nav_nil] at hn; cases hn
      exact ⟨Nav_nil .., hcb⟩
    | .fld j :: q, ho, _, _ => simp [okP] at ho
    | .idx j :: q, ⟨hj, ho⟩, hg, hn =>
      obtain ⟨d1, d2, d3, d4⟩ := idx_bound (sz := t0.size) hj
      have hhd := (cellsAt_one b off _).1 hh
      have hhd' := (cellsAt_one b off _).1 (hcb.trans hh)
      simp only [Nav, hhd] at hn
      simp only [Nav, hhd']
      simp only [getP] at hg
      obtain ⟨P1, P2, P3, e, g1, g2, g3⟩ := RepL.split (d := t0.dflt) d1 c5
      subst e
      rw [cellsAt_drop, cellsAt_take _ _ _ _ (by omega)] at g2
      have hcap := c7.blk
      have hcm : List.length l * t0.size ≤ cap * t0.size := Nat.mul_le_mul_right _ c2
      refine sib g2 (by omega) (hc.cells (hOp b1 (by simp)) (fun _ => .inl (by omega))) (fun d hd => hc.rest d ?_ (hOp d (by simp [hd]))) ho hg hn
      rintro rfl
      exact (List.nodup_cons.1 hnd).1 (by simp [hd])
end

section
variable {E : Env} {B : Base} {S : Nat → Prop} {ι : Ix} {s : St} {a : Act} {w : World}

/-- a world that differs in the unseen room of an object's blocks alone -/
theorem RS.spare (h : RS B S ι s a w) {i : Nat} {e : Ent} (he : look i s.hp = some e) (hnb : e ≠ .bag) {w' : World} (k : Past (blks ι i e) w w') (hob : OB w'.heap S ι i e) (hsz : w'.heap.size = w.heap.size)
    (hnav : ∀ {q : List Step}, okP e.ty e.x q → ∀ {u : Ty} {y : u.den}, getP e.ty e.x q = some ⟨u, y⟩ → ∀ {b off : Nat}, Place w.heap ι i e q = some (b, off) → Place w'.heap ι i e q = some (b, off) ∧ cellsAt (VH w'.heap ι i e) b off u.size = cellsAt (VH w.heap ι i e) b off u.size) :
    RS B S ι s a w' := by
  have hold : ∀ {b : Nat}, ((∃ j ej, j ≠ i ∧ look j s.hp = some ej ∧ b ∈ blks ι j ej) ∨ S b) → w'.heap[b]? = w.heap[b]? := by
    intro b hb
    refine k.frame b (hb.elim (fun ⟨j, ej, _, h1, h2⟩ => (h.hs.bl j ej h1 b h2).2.2) (h.hs.slt b)) (fun hbL => ?_)
    rcases hb with ⟨j, ej, h0, h1, h2⟩ | hb
    · exact h.hs.dj i j e ej he h1 (Ne.symm h0) b hbL h2
    · exact (h.hs.bl i e he b hbL).1 hb
  have hHS : HS B S ι s.hp w' := by
    refine ⟨k.os.trans h.hs.os, k.tape.trans h.hs.tape, k.out.trans h.hs.out, by rw [hsz]; exact h.hs.size, ?_, fun b hb => by rw [hsz]; exact h.hs.slt b hb, h.hs.s0, h.hs.s1, ?_, fun j ej hj c hc => ?_, h.hs.dj, h.hs.pin⟩
    · intro c hc hm
      rw [k.frame c (Nat.lt_of_lt_of_le hc h.hs.size) (fun hcL => by rcases (h.hs.bl i e he c hcL).2.1 with h1 | h1; omega; exact hm h1)]
      exact h.hs.frame c hc hm
    · intro j ej hj
      by_cases e1 : j = i
      · subst e1; rw [he] at hj; cases hj; exact hob
      · exact (h.hs.ob j ej hj).stable (fun b hb => hold (hb.imp (fun hb => ⟨j, ej, e1, hj, hb⟩) id)) (fun _ h => h)
    · rw [hsz]; exact h.hs.bl j ej hj c hc
  have hloc : ∀ {j : Nat} {ej : Ent}, look j s.hp = some ej → ∀ {q : List Step}, okP ej.ty ej.x q → ∀ {r : Nat × Nat}, Loc w.heap ι j ej q = some r → Loc w'.heap ι j ej q = some r := by
    intro j ej hj q hok r hl
    by_cases e1 : j = i
    · subst e1; rw [he] at hj; cases hj
      obtain ⟨u, y, hg⟩ := getP_some hok
      obtain ⟨g1, g2⟩ := Loc_place (b := r.1) (off := r.2) hl
      exact Loc_of (hnav hok hg g1).1 (by rw [hsz]; exact g2)
    · exact Loc_stable (Loc_bag hl) (h.hs.ob j ej hj) h.hs.slt (fun b hb => hold (.inl ⟨j, ej, e1, hj, hb⟩)) hok hl
  have hcel : ∀ {j : Nat} {ej : Ent}, look j s.hp = some ej → ∀ {q : List Step}, okP ej.ty ej.x q → ∀ {u : Ty} {y : u.den}, getP ej.ty ej.x q = some ⟨u, y⟩ → ∀ {cs : List Value}, Cells w.heap ι j ej q u cs → Cells w'.heap ι j ej q u cs := by
    intro j ej hj q hok u y hg cs hc
    by_cases e1 : j = i
    · subst e1; rw [he] at hj; cases hj
      obtain ⟨b0, o0, g1, g2⟩ := hc
      obtain ⟨m1, m2⟩ := hnav hok hg g1
      exact ⟨b0, o0, m1, g2.trans m2.symm⟩
    · exact Cells_stable (Cells_bag hc) (h.hs.ob j ej hj) h.hs.slt (fun b hb => hold (.inl ⟨j, ej, e1, hj, hb⟩)) hok hg hc
  refine ⟨hHS, h.dfr, h.sz, fun t v hv => ?_⟩
  have := VX.map (H' := w'.heap) (S' := S) (ι' := ι) (hp' := s.hp) (f := fun u => u) (fun b hb => hold (.inr hb)) (fun _ h => h) ?_ (h.fr t v hv)
  · rwa [AV.map_id] at this
  · intro u vs hu _ h
    cases u <;> simp only [AV.ref] at hu <;> try cases hu
    · obtain ⟨e', b, off, h1, h2, h3, h4⟩ := h
      exact ⟨e', b, off, h1, h2, hloc h1 h2 h3, h4⟩
    · obtain ⟨e', u, y, cs, h1, h2, h3, h4, h5⟩ := h
      exact ⟨e', u, y, cs, h1, h2, h3, hcel h1 h2 h3 h4, h5⟩
    · obtain ⟨e', v', h1, h2, h3, h4, h5, h6⟩ := h
      refine ⟨e', v', h1, h2, h3, h4, h5, ?_⟩
      rcases h6 with ⟨t, l, a, cap, k1, k2, k3, k4⟩ | ⟨n, t, l, b, off, k1, k2, k3, k4⟩
      · exact .inl ⟨t, l, a, cap, k1, k2, hcel h1 h2 k1 k3, k4⟩
      · exact .inr ⟨n, t, l, b, off, k1, k2, hloc h1 h2 k3, k4⟩

/-- what is known of a slice that was appended to what lies at a place, and is not stored yet -/
def Pend (B : Base) (S : Nat → Prop) (ι : Ix) (hp : List (Nat × Ent)) (g : List Nat) (i : Nat) (e : Ent) (p : List Step) (t0 : Ty) (l m : List t0.den) (b off : Nat) (v' : Value) (w : World) : Prop :=
  ∃ O', Loc w.heap ι i e p = some (b, off) ∧ Rep w.heap S (.slc true t0) O' [v'] (l ++ m) ∧ O'.Nodup ∧ b ∉ O' ∧
    ∀ c ∈ O', (¬ S c ∧ (B.w0.heap.size ≤ c ∨ B.M c) ∧ c < w.heap.size) ∧ (∀ j ej, j ≠ i → j ∉ g → look j hp = some ej → c ∉ blks ι j ej) ∧
      (c ∈ blks ι i e → ∃ Op, Rep w.heap S (.slc true t0) Op (cellsAt w.heap b off 1) l ∧ c ∈ Op)

/-- append to what lies at a place: all is as it was; the new slice is at hand -/
theorem append_keep (hE : EnvOk E) (h : RS B S ι s a w) {o : Oper} {c : Call} (ho : o.op = .call c) (hc : c.callee = .builtin .append) {x y : Operand} {T U : TypeId} (ha : c.args.toList = [x, y]) (hTs : c.argTypes.toList = [T, U])
    (hk : (∃ e', E.P.underlying U = some (.slice e')) ∨ E.P.underlying U = some .string) {q : Bool} {t0 : Ty} {bts : Nat} (hT : look T E.tt = some ⟨.slc q t0, bts⟩) {i : Nat} {p : List Step} (hx : s.ev x = .at_ i p)
    {e : Ent} (he : look i s.hp = some e) (hkd : (∃ t x, e = .var t x) ∨ ∃ t x j q, e = .own (.slc true t) x ∧ p = .idx j :: q) {l : List t0.den} (hg : getP e.ty e.x p = some ⟨.slc true t0, l⟩)
    {b off : Nat} (hl : Loc w.heap ι i e p = some (b, off)) {m : List t0.den} {g : List Nat} (happ : (s.ev y).app1 s t0 = some (⟨t0, m⟩, g)) (hgi : i ∉ g) (hgn : g.Nodup)
    (h63 : l.length + m.length ≤ 140737488355328) (hby : (l.length + m.length) * t0.wb ≤ 140737488355328) :
    ∃ v' w', (execOp a.eval o).run E.P w = .ok (.value v') w' ∧ RS B S ι s a w' ∧ okP e.ty e.x p ∧ Pend B S ι s.hp g i e p t0 l m b off v' w' := by
  have hnb : e ≠ .bag := Loc_bag hl
  obtain ⟨Og, news, k1, k2, k3, k4⟩ := app1_rep (P := E.P) h hk happ (h.ev y)
  obtain ⟨e2, u, y2, cs, r1, hok, r3, r4, r5⟩ := evx h hx
  rw [he] at r1; cases r1
  rw [hg] at r3; cases r3
  obtain ⟨Op, m1, mn, m2, m3, m4, m5⟩ := Loc_mem hnb (h.hs.ob i e he) h.hs.slt hok hg hl
  have hbOp := (h.hs.ob i e he).part_root hnb h.hs.slt hok hg hl m2
  obtain ⟨hpl, hbl2⟩ := Loc_place hl
  have hcs : cs = cellsAt w.heap b off 1 := by
    obtain ⟨b0, off0, q1, q2⟩ := r4
    rw [hpl] at q1; cases q1
    rw [cellsAt_congr (VH_old hbl2)] at q2
    exact q2
  have hv1 : cellsAt w.heap b off 1 = [a.eval x] := by
    have hln : (cellsAt w.heap b off 1).length = 1 := m2.length
    have r5' : a.eval x = toV (.slc true t0) cs := by simpa using r5
    rw [r5', hcs]
    match hcc : cellsAt w.heap b off 1, hln with
    | [z], _ => rfl
  have m2' : Rep w.heap S (.slc true t0) Op [a.eval x] l := by rw [← hv1]; exact m2
  have hty : tyOk E.P 100 T (.slc true t0) = true := tyOk_sh (t := .slc q t0) (u := .slc true t0) rfl (tt_ok hE hT)
  have hOpb : ∀ c ∈ Op, c ∈ blks ι i e := fun c hc => own_blks (m1 c hc)
  have hnd : (Op ++ Og).Nodup := List.nodup_append.2 ⟨mn, k3, by
    rintro c h1 c' h2 rfl
    obtain ⟨j, e', j1, j2, j3⟩ := k4 c h2
    exact h.hs.dj i j e e' he j2 (by rintro rfl; exact hgi j1) c (hOpb c h1) j3⟩
  have hOg : ∀ c ∈ Og, ¬ S c ∧ (B.w0.heap.size ≤ c ∨ B.M c) ∧ c < w.heap.size := fun c hc => by
    obtain ⟨j, e', _, j2, j3⟩ := k4 c hc
    exact h.hs.bl j e' j2 c j3
  have hOpS := fun c hc => h.hs.bl i e he c (hOpb c hc)
  obtain ⟨v', w', O', q1, q2, q3, q4, q5, q6, q7⟩ := append_run hty o.type h.hs.slt m2' k1 k2 hnd (fun c hc => (List.mem_append.1 hc).elim (fun h => ⟨(hOpS c h).1, (hOpS c h).2.2⟩) (fun h => ⟨(hOg c h).1, (hOg c h).2.2⟩)) h63 hby
  have hargs : c.args = #[x, y] := by rw [← ha]
  have hts : c.argTypes = #[T, U] := by rw [← hTs]
  have hrun : (execOp a.eval o).run E.P w = .ok (.value v') w' := by
    simp [execOp, ho, resolve, hc, invoke, builtin, hargs, hts, q1]
  have hbl' : ∀ c ∈ blks ι i e, ¬ S c ∧ c < w.heap.size := fun c hc => ⟨(h.hs.bl i e he c hc).1, (h.hs.bl i e he c hc).2.2⟩
  have hcell : cellsAt w'.heap b off 1 = [a.eval x] := by rw [cellsAt_congr (q4.frame b hbl2 hbOp)]; exact hv1
  obtain ⟨n2, n3⟩ := OB.same (H' := w'.heap) (h.hs.ob i e he) hbl' h.hs.slt hkd hok hg hl q4.size m2 (fun c hc hn => q4.frame c hc hn) (by
    show Rep w'.heap S (.slc true t0) Op (cellsAt w'.heap b off 1) l
    rw [hcell]; exact q6)
  have hRS : RS B S ι s a w' := by
    rcases q7 with q7 | ⟨b1, o1, cap, n, f1, f2, f3, f4, f5⟩
    · exact h.turn Flt.nil q7
    · have hb1 : b1 ∈ Op := by
        rcases m2' with ⟨_, ⟨A, c, e0, hc0⟩, _⟩ | ⟨b2, o2, cap2, O2, c1, _, _, _, _, rfl, _⟩
        · rw [f1] at e0
          simp only [List.cons.injEq, Value.slice.injEq, and_true] at e0
          have := hc0 rfl; omega
        · rw [f1] at c1
          simp only [List.cons.injEq, Value.slice.injEq, Option.some.injEq, Addr.mk.injEq, and_true] at c1
          rw [c1.1.1]; simp
      refine h.spare he hnb (q4.mono hOpb) n2 f5 ?_
      -- the object's own pointers
      obtain ⟨O, hO, hR, hbb, hnd0, hlt0, hns, hfr⟩ := (h.hs.ob i e he).see hnb h.hs.slt
      obtain ⟨O1, O3, b', off', g1, g2, g3, g4, g5, g6⟩ := focus hR hbb hok hg
      have hpl' := hpl
      rw [Place_eq hnb, g3] at hpl'; cases hpl'
      have g4' : Rep w.heap S (.slc true t0) O3 (cellsAt w.heap b off 1) l := by
        have g4 : Rep (VH w.heap ι i e) S (.slc true t0) O3 (cellsAt (VH w.heap ι i e) b off 1) l := g4
        rw [cellsAt_congr (VH_old hbl2)] at g4
        exact (VH_rep (fun c hc => (h.hs.ob i e he).own_lt hnb (hO.mem_iff.1 (g1.mem_iff.2 (by simp [hc])))) h.hs.slt).1 g4
      obtain rfl : Op = O3 := m2.det g4'
      have hndO : (O1 ++ Op).Nodup := (g1.nodup_iff).1 ((hO.nodup_iff).2 (List.nodup_cons.1 hnd0).2)
      have hb1lt : b1 < w.heap.size := (hbl' b1 (hOpb b1 hb1)).2
      have hroot : b1 ≠ (VR w.heap ι i e).1 := by
        rintro rfl
        exact (List.nodup_cons.1 hnd0).1 (hO.mem_iff.1 (g1.mem_iff.2 (by simp [hb1])))
      have hVsz : (VR w'.heap ι i e) = (VR w.heap ι i e) := by cases e <;> simp [VR, f5]
      have hV : ∀ c, c ≠ b1 → (VH w'.heap ι i e)[c]? = (VH w.heap ι i e)[c]? := by
        intro c hcb
        have hr : ∀ c, c ≠ b1 → w'.heap[c]? = w.heap[c]? := by
          intro c hcb
          rcases Nat.lt_or_ge c w.heap.size with h1 | h1
          · exact f4.rest c hcb h1
          · rw [Array.getElem?_eq_none h1, Array.getElem?_eq_none (by omega)]
        cases e with
        | own t x =>
          simp only [VH, gh]
          rw [Array.getElem?_push, Array.getElem?_push, f5]
          split
          · rfl
          · exact hr c hcb
        | _ => exact hr c hcb
      have hVc : Chg (VH w.heap ι i e) (VH w'.heap ι i e) b1 (o1 + l.length * t0.size) n := by
        obtain ⟨arr, arr', T', ⟨fz, ⟨z1, z2⟩, z3⟩, z4, z5⟩ := f4.at_
        exact ⟨⟨arr, arr', T', ⟨fz, ⟨(VH_old hb1lt).trans z1, z2⟩, (VH_old (by omega)).trans z3⟩, z4, z5⟩, fun c hcb _ => hV c hcb⟩
      intro q' hok' u' y' hg' b' o' hp'
      rw [Place_eq hnb] at hp' ⊢
      rw [hVsz]
      have hbV : b < (VH w.heap ι i e).size := Nat.lt_of_lt_of_le hbl2 VH_le
      refine but_nav g2 hbb (cellsAt_congr (hV _ (Ne.symm hroot)) _ _) (fun c hc => hV c ?_) hg g3 ?_ hok' hg' hp'
      · rintro rfl
        exact (List.nodup_append.1 hndO).2.2 c hc c hb1 rfl
      · have hcv : cellsAt (VH w.heap ι i e) b off 1 = [.slice (some ⟨b1, o1, none⟩) l.length cap] := by
          rw [cellsAt_congr (VH_old hbl2), hv1, f1]
        intro q2 hq2 u2 y2 hgq b2 off2 hn2
        exact spare_part (H' := VH w'.heap ι i e) g4 (fun c hc => Nat.lt_of_lt_of_le (hbl' c (hOpb c hc)).2 VH_le) mn hbV hbOp hcv f3 hVc hq2 hgq hn2
  refine ⟨v', w', hrun, hRS, hok, O', n3, q2, q3, ?_, ?_⟩
  · intro hb
    rcases (q5 b hb).1 with h1 | h1
    · omega
    · rcases List.mem_append.1 h1 with h1 | h1
      · exact hbOp h1
      · obtain ⟨j, e', j1, j2, j3⟩ := k4 b h1
        exact h.hs.dj i j e e' he j2 (by rintro rfl; exact hgi j1) b m4 j3
  · intro c hc
    obtain ⟨f1, f2⟩ := q5 c hc
    have fact : (¬ S c ∧ (B.w0.heap.size ≤ c ∨ B.M c) ∧ c < w'.heap.size) ∧ (∀ j ej, j ≠ i → j ∉ g → look j s.hp = some ej → c ∉ blks ι j ej) ∧ (c ∈ blks ι i e → c ∈ Op) := by
      rcases f1 with f1 | f1
      · exact ⟨⟨fun hs => by have := h.hs.slt c hs; omega, .inl (Nat.le_trans h.hs.size f1), f2⟩, fun j ej _ _ hj hcb => by have := (h.hs.bl j ej hj c hcb).2.2; omega, fun hcb => by have := (hbl' c hcb).2; omega⟩
      · rcases List.mem_append.1 f1 with f1 | f1
        · have := hOpS c f1
          exact ⟨⟨this.1, this.2.1, f2⟩, fun j ej hj _ hlj => h.hs.dj i j e ej he hlj (Ne.symm hj) c (hOpb c f1), fun _ => f1⟩
        · have := hOg c f1
          obtain ⟨j0, e0, j1, j2, j3⟩ := k4 c f1
          exact ⟨⟨this.1, this.2.1, f2⟩, fun j ej _ hjg hlj => h.hs.dj j0 j e0 ej j2 hlj (by rintro rfl; exact hjg j1) c j3, fun hcb => absurd hcb (h.hs.dj j0 i e0 e j2 he (by rintro rfl; exact hgi j1) c j3)⟩
    exact ⟨fact.1, fact.2.1, fun hcb => ⟨Op, by rw [hcell]; exact q6, fact.2.2 hcb⟩⟩

theorem stay_spec {e : Ent} {p : List Step} {r : Sigma Ty.den} (h : stayB e p r = true) : Alike1 e e ∧ ((∃ t x, e = .var t x) ∨ ∃ t x j q, e = .own (.slc true t) x ∧ p = .idx j :: q) := by
  unfold stayB at h
  split at h
  · exact ⟨.inl ⟨_, _, _, rfl, rfl⟩, .inl ⟨_, _, rfl⟩⟩
  · split at h
    · exact ⟨.inr ⟨_, _, _, rfl, rfl⟩, .inr ⟨_, _, _, _, rfl, rfl⟩⟩
    · cases h
  · cases h

theorem aput_other {a : Act} {t d : Nat} {v : Value} (h : t ≠ d) : (a.put (some d) v).eval (.tmp t) = a.eval (.tmp t) := by
  show (a.tmps.setIfInBounds d v).getD t undef = a.tmps.getD t undef
  simp only [Array.getD_eq_getD_getElem?, Array.getElem?_setIfInBounds, if_neg (Ne.symm h)]
theorem aput_same {a : Act} {d : Nat} {v : Value} (h : d < a.tmps.size) : (a.put (some d) v).eval (.tmp d) = v := by
  show (a.tmps.setIfInBounds d v).getD d undef = v
  simp only [Array.getD_eq_getD_getElem?, Array.getElem?_setIfInBounds, if_pos h]; rfl

/-- such a place lies in memory -/
theorem loc_stay {H : Array Go.Obj} {i : Nat} {e : Ent} (ho : OB H S ι i e) (hS : ∀ c, S c → c < H.size) {p : List Step} (hkd : (∃ t x, e = .var t x) ∨ ∃ t x j q, e = .own (.slc true t) x ∧ p = .idx j :: q) (hok : okP e.ty e.x p) {u : Ty} {y : u.den} (hg : getP e.ty e.x p = some ⟨u, y⟩) :
    ∃ b off, Loc H ι i e p = some (b, off) := by
  have hnb : e ≠ .bag := by rcases hkd with ⟨_, _, rfl⟩ | ⟨_, _, _, _, rfl, _⟩ <;> (intro h; cases h)
  obtain ⟨O, hO, hR, hbb, hnd0, hlt0, hns, hfr⟩ := ho.see hnb hS
  obtain ⟨O1, O3, b', off', g1, g2, g3, g4, g5, g6⟩ := focus hR hbb hok hg
  have hO1 : ∀ c ∈ O1, c < H.size := fun c hc => ho.own_lt hnb (hO.mem_iff.1 (g1.mem_iff.2 (by simp [hc])))
  refine ⟨b', off', Loc_of (by rw [Place_eq hnb]; exact g3) ?_⟩
  rcases hkd with ⟨t, x, rfl⟩ | ⟨t, x, j, q, rfl, rfl⟩
  · rcases RepBut.range g2 hg g3 with ⟨h1, _⟩ | h1
    · rw [h1]; exact ho.2.1.lt
    · exact hO1 _ h1
  · obtain ⟨hi, c1, o1, cap, P1, P2, P3, e, e1, e2, e3, e4, e5, e6, e7⟩ := g2
    subst e
    have e1' : (blk (VH H ι i (.own (.slc true t) x)) (VR H ι i (.own (.slc true t) x)).1)[(VR H ι i (.own (.slc true t) x)).2]? = some (.slice (some ⟨c1, o1, none⟩) (List.length x) cap) := e1
    simp only [Ent.ty, Nav, e1'] at g3
    rcases RepBut.range e6 hg g3 with ⟨h1, _⟩ | h1
    · rw [h1]; exact hO1 _ (by simp)
    · exact hO1 _ (by simp [h1])

/-- the store of what is pending -/
theorem pend_store (hE : EnvOk E) (h : RS B S ι s a w) {g : List Nat} (hgp : (g.all fun i => !pinned i) = true) {i : Nat} (hgi : i ∉ g) {e : Ent} (he : look i s.hp = some e) {p : List Step} (hok : okP e.ty e.x p) {t0 : Ty} {l m : List t0.den} (hg : getP e.ty e.x p = some ⟨.slc true t0, l⟩) {b off : Nat} {v' : Value}
    (hP : Pend B S ι s.hp g i e p t0 l m b off v' w) {o : Oper} {T : TypeId} {ad : Operand} {d : Nat} (ho : o.op = .store T ad (.tmp d)) (had : a.eval ad = .pointer (some ⟨b, off, none⟩)) (hv : a.eval (.tmp d) = v') (hck : chk E T (.slc true t0) = true)
    {r : Sigma Ty.den} (hset : setP e.ty e.x p (.slc true t0) (l ++ m) = some r) : OpOk E.P B o a w (.raw undef) (((St.drops g s).kill i e.kd p).putE i (e.upd r)) := by
  obtain ⟨O', hl, k5, k6, k7, k8⟩ := hP
  have hd := h.drops (g := g) hgp
  have hl1 : look i (St.drops g s).hp = some e := by rw [drops_look, if_neg hgi]; exact he
  refine store_any hE hd ho (i := i) (e := e) hl1 hok hl had hg hck (u' := .slc true _) (O2 := O') (cs := [v']) k5 k6 (by rw [hv]; rfl) hset (fun c hc => ?_) k7
  obtain ⟨f1, f2, f3⟩ := k8 c hc
  refine ⟨f1, fun j ej hj hlj => ?_, f3⟩
  rw [drops_look] at hlj
  split at hlj
  · cases hlj
  · rename_i hjg; exact f2 j ej hj hjg hlj

/-- the append and the store -/
theorem appS_spec (hE : EnvOk E) (h : RS B S ι s a w) {o : Oper} {c : Call} (ho : o.op = .call c) (hc : c.callee = .builtin .append) {x y : Operand} {T U : TypeId} (ha : c.args.toList = [x, y]) (hTs : c.argTypes.toList = [T, U])
    {o2 : Oper} {T2 : TypeId} {adv : AV} {ad : Operand} {d : Nat} (ho2 : o2.op = .store T2 ad (.tmp d)) {p : Prop} {s2 : St} (hb : appS E T U T2 (s.ev x) (s.ev y) adv d s = some (p, s2)) (hp : p) :
    ∃ i p0 e t0 l m g r v' w', s.ev x = .at_ i p0 ∧ adv = .ptr i p0 ∧ look i s.hp = some e ∧ i ∉ g ∧ (g.all fun i => !pinned i) = true ∧ getP e.ty e.x p0 = some ⟨.slc true t0, l⟩ ∧ chk E T2 (.slc true t0) = true ∧
      setP e.ty e.x p0 (.slc true t0) (l ++ m) = some r ∧ s2 = (((St.drops g (s.put (some d) .any)).kill i e.kd p0).putE i (e.upd r)) ∧
      (execOp a.eval o).run E.P w = .ok (.value v') w' ∧ RS B S ι s a w' ∧ okP e.ty e.x p0 ∧ ∀ b off, Loc w.heap ι i e p0 = some (b, off) → Pend B S ι s.hp g i e p0 t0 l m b off v' w' := by
  unfold appS at hb
  split at hb
  · rename_i i p0 j q q1 t0 bts u1 bts1 hx hT hU
    split at hb
    · rename_i e hob hku
      simp only [Bool.and_eq_true] at hku
      obtain ⟨hij, hku⟩ := hku
      have hij := Nat.eq_of_beq_eq_true hij
      subst hij
      split at hb
      · rename_i u l hg
        split at hb
        · rename_i t m g happ
          split at hb
          · rename_i hu
            split at hb
            · rename_i ht
              subst hu; subst ht
              split at hb
              · rename_i r hset
                split at hb
                · rename_i hck
                  cases hb
                  simp only [Bool.and_eq_true, Bool.not_eq_true'] at hck
                  obtain ⟨⟨⟨⟨hck, hst⟩, hgi⟩, hgn⟩, hgp⟩ := hck
                  obtain ⟨rfl, h63, hby⟩ := hp
                  obtain ⟨_, hkd⟩ := stay_spec hst
                  have hgi : i ∉ g := by intro hm; simp [hm] at hgi
                  have hk : (∃ e', E.P.underlying U = some (.slice e')) ∨ E.P.underlying U = some .string := by
                    cases u1 <;> first | cases hku | skip
                    · exact .inr (tyOk_str (tt_ok hE hU))
                    · obtain ⟨et, k', f1, _⟩ := tyOk_slc (tt_ok hE hU)
                      exact .inl ⟨et, f1⟩
                  have hob : look i s.hp = some e := hob
                  have key : ∀ b off, Loc w.heap ι i e q = some (b, off) → ∃ v' w', (execOp a.eval o).run E.P w = .ok (.value v') w' ∧ RS B S ι s a w' ∧ okP e.ty e.x q ∧ Pend B S ι s.hp g i e q _ l m b off v' w' :=
                    fun b off hl => append_keep hE h ho hc ha hTs hk hT hx hob hkd hg hl happ hgi (noDup_nodup hgn) h63 hby
                  obtain ⟨e2, u, y2, cs, r1, hok, r3, r4, r5⟩ := evx h hx
                  rw [hob] at r1; cases r1
                  obtain ⟨b, off, hl⟩ := loc_stay (h.hs.ob i e hob) h.hs.slt (stay_spec hst).2 hok hg
                  obtain ⟨v', w', k1, k2, k3, k4⟩ := key b off hl
                  exact ⟨i, q, e, _, l, m, g, r, v', w', hx, rfl, hob, hgi, hgp, hg, hck, hset, rfl, k1, k2, k3, fun b' off' hl' => by rw [hl] at hl'; cases hl'; exact k4⟩
                · cases hb
              · cases hb
            · cases hb
          · cases hb
        · cases hb
      · cases hb
    · cases hb
  · cases hb

theorem appS_sound (hE : EnvOk E) (h : RS B S ι s a w) {o : Oper} {c : Call} (ho : o.op = .call c) (hc : c.callee = .builtin .append) {x y : Operand} {T U : TypeId} (ha : c.args.toList = [x, y]) (hTs : c.argTypes.toList = [T, U])
    {o2 : Oper} {T2 : TypeId} {ad : Operand} {d : Nat} (hd : dstOk B.n (some d) = true) (ho2 : o2.op = .store T2 ad (.tmp d)) (had : ∀ t, ad = .tmp t → t ≠ d) {p : Prop} {s2 : St} (hb : appS E T U T2 (s.ev x) (s.ev y) (s.ev ad) d s = some (p, s2)) (hp : p) :
    ∃ v' w', (execOp a.eval o).run E.P w = .ok (.value v') w' ∧ OpOk E.P B o2 (a.put (some d) v') w' (.raw undef) s2 := by
  obtain ⟨i, p0, e, t0, l, m, g, r, v', w', hx, had1, hob, hgi, hgp, hg, hck, hset, rfl, k1, k2, k3, k4⟩ := appS_spec hE h ho hc ha hTs ho2 hb hp
  refine ⟨v', w', k1, ?_⟩
  obtain ⟨e', b, off, h1, h2, h3, h4⟩ := evx h had1
  rw [hob] at h1; cases h1
  have hput := k2.put hd (v := .any) (val := v') ⟨v', rfl⟩
  have hadv : (a.put (some d) v').eval ad = .pointer (some ⟨b, off, none⟩) := by
    have h4' : a.eval ad = .pointer (some ⟨b, off, none⟩) := by simpa using h4
    rw [← h4']
    cases ad with
    | tmp t => exact aput_other (had t rfl)
    | _ => rfl
  have hval : (a.put (some d) v').eval (.tmp d) = v' := aput_same (by rw [h.sz]; simpa [dstOk, Nat.blt_eq] using hd)
  exact pend_store hE hput (g := g) hgp hgi (e := e) (by simpa [St.put] using hob) h2 hg (k4 b off h3) ho2 hadv hval hck hset

theorem addr_run {o : Oper} (ho : isAddr o.op = true) {a a' : Act} (h : ∀ t ∈ opTmps o, a'.eval (.tmp t) = a.eval (.tmp t)) : execOp a'.eval o = execOp a.eval o := by
  have hop : ∀ x ∈ o.op.operands.toList, a'.eval x = a.eval x := by
    intro x hx
    cases x with
    | tmp t => exact h t (List.mem_filterMap.2 ⟨.tmp t, hx, rfl⟩)
    | _ => rfl
  unfold isAddr at ho
  split at ho
  · rename_i e; rw [e] at hop; simp [Op.operands] at hop; simp [execOp, e, hop]
  · rename_i e; rw [e] at hop; simp [Op.operands] at hop; simp [execOp, e, hop]
  · cases ho

theorem aput_swap {a : Act} {d e : Nat} {v u : Value} (h : d ≠ e) : (a.put (some d) v).put (some e) u = (a.put (some e) u).put (some d) v := by
  simp only [Act.put]
  congr 1
  apply Array.ext_getElem?
  intro i
  simp only [Array.getElem?_setIfInBounds, Array.size_setIfInBounds]
  by_cases h1 : e = i
  · subst h1; simp [h]
  · simp [h1]

theorem fuseGo_sound (hE : EnvOk E) (hn : B.n = E.nt) {ops : Array Oper} {Q : Exit → Act → World → Prop} {oa : Oper} {c : Call} (ho : oa.op = .call c) (hc : c.callee = .builtin .append) {x y : Operand} {T U : TypeId} (ha : c.args.toList = [x, y]) (hTs : c.argTypes.toList = [T, U])
    {d : Nat} (hd : dstOk B.n (some d) = true) : ∀ {l : List Oper} {S : Nat → Prop} {ι : Ix} {s : St} {a : Act} {w : World} {p : Prop} {s2 : St} {n : Nat}, RS B S ι s a w → fuseGo E T U x y d l s = some (p, s2, n) → p →
    ∃ v' w', (execOp a.eval oa).run E.P w = .ok (.value v') w' ∧ ((∀ S' ι' a' w'', RS B S' ι' s2 a' w'' → wpList E.P ops Q (l.drop n) a' w'') → wpList E.P ops Q l (a.put (some d) v') w')
  | [], S, ι, s, a, w, p, s2, n, _, hf, _ => by cases hf
  | o :: rest, S, ι, s, a, w, p, s2, n, h, hf, hp => by
    have hargs : c.args = #[x, y] := by rw [← ha]
    have hts : c.argTypes = #[T, U] := by rw [← hTs]
    unfold fuseGo at hf
    split at hf
    · rename_i hg hdo
      split at hf
      · rename_i hia
        split at hf
        · rename_i d1 hd1
          split at hf
          · rename_i p1 v hcond hv
            split at hf
            · rename_i p2 s3 n2 hrec
              cases hf
              simp only [Bool.and_eq_true, Bool.not_eq_true'] at hcond
              obtain ⟨⟨⟨c1, c2⟩, c3⟩, c4⟩ := hcond
              have hne : d1 ≠ d := by rintro rfl; simp at c1
              have hpure := addr_pure hE h hia
              have hval : PureOk E.P S ι o a w s v := by
                split at hv
                · cases hv
                · rename_i v0 s0 e0; cases hv; rw [e0] at hpure; exact hpure.2
                · rename_i q0 v0 s0 e0; cases hv; rw [e0] at hpure; exact (hpure hp.1).2
              obtain ⟨val, hrun, hvx⟩ := hval
              rw [hd1] at hdo
              have hrs := h.put (d := some d1) (by rw [hn]; exact hdo) hvx
              obtain ⟨v', w', g1, g2⟩ := fuseGo_sound hE hn ho hc ha hTs hd (ops := ops) (Q := Q) hrs hrec hp.2
              have ex : (a.put (some d1) val).eval x = a.eval x := by
                cases x with
                | tmp t => exact aput_other (by rintro rfl; simp at c3)
                | _ => rfl
              have ey : (a.put (some d1) val).eval y = a.eval y := by
                cases y with
                | tmp t => exact aput_other (by rintro rfl; simp at c4)
                | _ => rfl
              refine ⟨v', w', ?_, fun hk => ?_⟩
              · rw [← g1]; simp [execOp, ho, resolve, hc, invoke, builtin, hargs, hts, ex, ey]
              · unfold wpList
                simp only [Region.wanted, hg, if_true]
                refine .inl ?_
                unfold Oper.wp
                have hr2 : (execOp (a.put (some d) v').eval o).run E.P w' = .ok (.value val) w' := by
                  have hot : ∀ t ∈ opTmps o, (a.put (some d) v').eval (.tmp t) = a.eval (.tmp t) := by
                    intro t ht
                    refine aput_other (fun e => ?_)
                    rw [e] at ht
                    have h5 : (opTmps o).contains d = true := by simpa using ht
                    rw [h5] at c2; cases c2
                  rw [addr_run hia hot]; exact hrun w'
                rw [hr2]
                show wpList E.P ops Q rest ((a.put (some d) v').put o.dst val) w'
                rw [hd1, aput_swap (Ne.symm hne)]
                exact g2 hk
            · cases hf
          · cases hf
        · cases hf
      · split at hf
        · rename_i T2 ad d' ho2
          split at hf
          · rename_i hcond
            split at hf
            · rename_i p1 s3 happ
              cases hf
              simp only [Bool.and_eq_true] at hcond
              obtain ⟨c1, c2⟩ := hcond
              obtain rfl := Nat.eq_of_beq_eq_true c1
              obtain ⟨v', w', g1, g2⟩ := appS_sound hE h ho hc ha hTs hd ho2 (fun t e => by subst e; rintro rfl; simp at c2) happ hp
              refine ⟨v', w', g1, fun hk => ?_⟩
              unfold wpList
              simp only [Region.wanted, hg, if_true]
              refine .inl (g2 _ _ (fun S' ι' w2 val h1 h2 => ?_))
              exact hk S' ι' _ w2 (h1.put (by rw [hn]; exact hdo) h2)
            · cases hf
          · cases hf
        · cases hf
    · cases hf

/-- a region, in the text's order -/
theorem regF_sound (hE : EnvOk E) (hn : B.n = E.nt) {ops : Array Oper} {k : St → Tree (E.rs ++ wts E.ps)} {L : Code → List Item → St → Prop} {Rt : DL (E.rs ++ wts E.ps) → Prop} {Q : Exit → Act → World → Prop} (hk : ∀ S' ι' s' a' w', RS B S' ι' s' a' w' → (k s').holds L Rt → Q .normal a' w') :
    ∀ {l : List Oper} {m : Nat} {S : Nat → Prop} {ι : Ix} {s : St} {a : Act} {w : World}, RS B S ι s a w → (regF E ops m l s k).holds L Rt → wpList E.P ops Q (l.drop m) a w
  | [], m, S, ι, s, a, w, h, ht => by
    rw [List.drop_nil]
    cases m <;> exact hk S ι s a w h ht
  | o :: l, m + 1, S, ι, s, a, w, h, ht => regF_sound hE hn hk (l := l) (m := m) h ht
  | o :: l, 0, S, ι, s, a, w, h, ht => by
    show wpList E.P ops Q (o :: l) a w
    unfold regF at ht
    split at ht
    · rename_i p s' n hf
      unfold fuseA at hf
      split at hf
      · rename_i d c hg hd hdo ho
        split at hf
        · rename_i x y T U hc ha hT
          split at hf
          · split at hf
            · cases hf
            · rw [← hn, hd] at hdo
              obtain ⟨v', w', g1, g2⟩ := fuseGo_sound hE hn ho hc ha hT hdo (ops := ops) (Q := Q) h hf ht.1
              unfold wpList
              simp only [Region.wanted, hg, if_true]
              refine .inl ?_
              unfold Oper.wp
              rw [g1]
              show wpList E.P ops Q l (a.put o.dst v') w'
              rw [hd]
              exact g2 (fun S' ι' a' w'' h' => regF_sound hE hn hk (l := l) (m := n) h' (ht.2 ht.1))
          · cases hf
        · cases hf
      · cases hf
    · split at ht
      · rename_i p v1 v2 hg hd hb
        rw [← hn] at hd
        obtain ⟨val, hrun, hv⟩ := brA_sound hE h hb
        unfold wpList
        simp only [Region.wanted, hg, if_true]
        refine .inl ?_
        unfold Oper.wp
        rw [hrun]
        rcases hv with ⟨hp, hv⟩ | hv
        · exact regF_sound hE hn hk (l := l) (m := 0) (h.put hd hv) (ht.1 hp)
        · exact regF_sound hE hn hk (l := l) (m := 0) (h.put hd hv) ht.2
      · have := place_sound hE hn h (ops := ops) o (k := fun s' => regF E ops 0 l s' k) ht (next := wpList E.P ops Q l) (Q := Q) (fun S' ι' s' a' w' h1 h2 => regF_sound hE hn hk (l := l) (m := 0) h1 h2)
        unfold wpList
        split
        · rename_i hw; rw [if_pos hw] at this; exact .inl this
        · rename_i hw; rw [if_neg hw] at this; exact this
end
end Go.Ex
