import Derived.Test.YtibpibbnnogdkaaExSd
namespace Go.Ex

section
variable {E : Env} {ops : Array Oper} {B : Base} {S : Nat → Prop} {ι : Ix} {s : St} {a : Act} {w : World}

theorem rs_eqv {s t : St} (he : Eqv s t) (h : RS B S ι s a w) : RS B S ι t a w := by
  have hvx : ∀ {v : AV} {vs : List Value}, VX w.heap S ι s.hp v vs → VX w.heap S ι t.hp v vs := by
    intro v vs hv
    exact VX.other (fun i _ => (he.2 i).symm) (fun i _ => SameAt.refl ι i) hv
  exact ⟨⟨h.hs.os, h.hs.tape, h.hs.out, h.hs.size, h.hs.frame, h.hs.slt, h.hs.s0, h.hs.s1, fun i e hi => h.hs.ob i e ((he.2 i).trans hi), fun i e hi => h.hs.bl i e ((he.2 i).trans hi), fun i j ei ej hi hj => h.hs.dj i j ei ej ((he.2 i).trans hi) ((he.2 j).trans hj), fun q hq => by obtain ⟨r1, ⟨e, r2⟩, r3⟩ := h.hs.pin q hq; exact ⟨r1, ⟨e, (he.2 q.1).symm.trans r2⟩, r3⟩⟩, h.dfr, h.sz,
    fun m v hv => hvx (h.fr m v ((he.1 m).trans hv))⟩

theorem RS.forget (h : RS B S ι s a w) (d : Nat) : RS B S ι { s with fr := Ex.put d .any s.fr } a w := by
  refine ⟨h.hs, h.dfr, h.sz, fun t v hv => ?_⟩
  rw [look_put] at hv
  split at hv
  · cases hv; exact ⟨_, rfl⟩
  · exact h.fr t v hv

theorem RS.forgetA : ∀ {l : List Oper} {s : St}, RS B S ι s a w → RS B S ι (Ex.forgetA l s) a w
  | [], s, h => h
  | o :: l, s, h => by
    unfold Ex.forgetA
    split
    · split
      · exact RS.forgetA (h.forget _)
      · exact RS.forgetA h
    · exact RS.forgetA h

theorem look_forgetA {m : Nat} : ∀ {l : List Oper} {s : St}, look m (Ex.forgetA l s).fr = look m s.fr ∨ look m (Ex.forgetA l s).fr = some .any
  | [], s => .inl rfl
  | o :: l, s => by
    unfold Ex.forgetA
    split
    · split
      · rename_i d _ _
        rcases look_forgetA (m := m) (l := l) (s := { s with fr := Ex.put d .any s.fr }) with h | h
        · rw [look_put] at h
          split at h
          · exact .inr h
          · exact .inl h
        · exact .inr h
      · exact look_forgetA
    · exact look_forgetA

theorem forgetA_any {o : Oper} {c : Call} {d : Nat} (hop : o.op = .call c) (hc : c.callee = .builtin .append) (hd : o.dst = some d) : ∀ {l : List Oper} {s : St}, o ∈ l → look d (Ex.forgetA l s).fr = some .any
  | [], _, h => by cases h
  | x :: l, s, h => by
    unfold Ex.forgetA
    rcases List.mem_cons.1 h with rfl | h
    · rw [hop]
      simp only [hc, hd]
      rcases look_forgetA (m := d) (l := l) (s := { s with fr := Ex.put d .any s.fr }) with h | h
      · rw [h, look_put, if_pos rfl]
      · exact h
    · split
      · split
        · exact forgetA_any hop hc hd h
        · exact forgetA_any hop hc hd h
      · exact forgetA_any hop hc hd h

/-! ### what is quiet -/
theorem load_pure (hE : EnvOk E) (h : RS B S ι s a w) {o : Oper} {T : TypeId} {x : Operand} (ho : o.op = .load T x) {v : AV} {s' : St} (hl : loadA E T (s.ev x) s = .ok v s') :
    s' = s ∧ ∃ val, (execOp a.eval o).run E.P w = .ok (.value val) w ∧ VX w.heap S ι s.hp v [val] := by
  have he : execOp a.eval o = (do pure (.value (← Instr.loadAt T (a.eval x)))) := by simp [execOp, ho]
  have hv := h.ev x
  unfold loadA at hl
  split at hl
  · rename_i t y hx
    rw [hx] at hv
    obtain ⟨b, off, e, hb, hr, hR⟩ := hv
    split at hl
    · rename_i hc
      cases hl
      have e : a.eval x = .pointer (some ⟨b, off, none⟩) := by simpa using e
      refine ⟨rfl, toV t (cellsAt w.heap b off t.size), exec_value he (w' := w) ?_, _, rfl, hR⟩
      rw [e]
      simp [Instr.loadAt, Instr.sureAddr, run_loadVar (chk_ok hE hc) hR]
    · cases hl
  · rename_i i p hx
    rw [hx] at hv
    obtain ⟨e, b, off, h1, h2, h3, h4⟩ := hv
    have h4 : a.eval x = .pointer (some ⟨b, off, none⟩) := by simpa using h4
    split at hl
    · rename_i u y hpt
      have hg := part_of h1 hpt
      obtain ⟨O2, k1, k2, k3, k4, k5⟩ := Loc_mem (Loc_bag h3) (h.hs.ob i e h1) h.hs.slt h2 hg h3
      split at hl
      · rename_i hc
        have hr : (Instr.loadAt T (a.eval x)).run E.P w = .ok (toV u (cellsAt w.heap b off u.size)) w := by
          rw [h4]; simp [Instr.loadAt, Instr.sureAddr, run_loadVar (chk_ok hE hc) k3]
        split at hl
        · rename_i hs
          cases hl
          have := k3.nilO hs
          subst this
          exact ⟨rfl, _, exec_value he hr, _, rfl, k3⟩
        · cases hl
          have hp := Loc_place h3
          exact ⟨rfl, _, exec_value he hr, e, u, y, _, h1, h2, hg, ⟨b, off, hp.1, (cellsAt_congr (VH_old hp.2) _ _).symm⟩, rfl⟩
      · cases hl
    · cases hl
  · cases hl

theorem quiet_run (hE : EnvOk E) (h : RS B S ι s a w) {o : Oper} (hq : quiet o = true) {p : Prop} {s1 : St} (hr : placeR E ops o s = some (p, s1)) (hp : p) :
    o.guard = none ∧ dstOk E.nt o.dst = true ∧ ∃ v val, s1 = s.put o.dst v ∧ (execOp a.eval o).run E.P w = .ok (.value val) w ∧ VX w.heap S ι s.hp v [val] := by
  simp only [quiet, Bool.and_eq_true, Option.isNone_iff_eq_none] at hq
  obtain ⟨hg, hq⟩ := hq
  unfold placeR at hr
  rw [hg] at hr
  simp only at hr
  unfold runR at hr
  split at hr
  · cases hr
  · rename_i hd
    refine ⟨hg, hd, ?_⟩
    have key : ∀ (r : OR), (match r.get with | none => none | some (p, v, s') => some (p, s'.put o.dst v)) = some (p, s1) → ORpure E.P S ι o a w s r → ∃ v val, s1 = s.put o.dst v ∧ (execOp a.eval o).run E.P w = .ok (.value val) w ∧ VX w.heap S ι s.hp v [val] := by
      intro r hr hpr
      cases r with
      | fail why => cases hr
      | ok v s' =>
        simp only [OR.get, Option.some.injEq, Prod.mk.injEq] at hr
        obtain ⟨e1, val, k1, k2⟩ := hpr
        exact ⟨v, val, by rw [← hr.2, e1], k1 w, k2⟩
      | okN p' v s' =>
        simp only [OR.get, Option.some.injEq, Prod.mk.injEq] at hr
        obtain ⟨e1, val, k1, k2⟩ := hpr (by rw [hr.1]; exact hp)
        exact ⟨v, val, by rw [← hr.2, e1], k1 w, k2⟩
    split at hq
    · rename_i x ho
      rw [ho] at hr
      simp only [aop, ho, OR.get, Option.some.injEq, Prod.mk.injEq] at hr
      exact ⟨s.ev x, a.eval x, hr.2.symm, by simp [execOp, ho], h.ev x⟩
    · rename_i T x ho
      rw [ho] at hr
      simp only [aop, ho] at hr
      cases hl : loadA E T (s.ev x) s with
      | fail y => rw [hl] at hr; cases hr
      | ok v s' =>
        rw [hl] at hr
        simp only [OR.get, Option.some.injEq, Prod.mk.injEq] at hr
        obtain ⟨e1, val, k1, k2⟩ := load_pure hE h ho hl
        exact ⟨v, val, by rw [← hr.2, e1], k1, k2⟩
      | okN p' v s' =>
        exfalso
        unfold loadA at hl
        repeat' split at hl
        all_goals cases hl
    · rename_i T x n ho
      have := addr_pure hE h (o := o) (by rw [ho]; rfl)
      rw [ho] at hr
      exact key _ hr this
    · rename_i T x n ho
      have := addr_pure hE h (o := o) (by rw [ho]; rfl)
      rw [ho] at hr
      exact key _ hr this
    · cases hq

theorem quiet_abs {o : Oper} (hq : quiet o = true) {p : Prop} {s1 : St} (hr : placeR E ops o s = some (p, s1)) : ∃ v, s1 = s.put o.dst v := by
  simp only [quiet, Bool.and_eq_true, Option.isNone_iff_eq_none] at hq
  obtain ⟨hg, hq⟩ := hq
  unfold placeR at hr
  rw [hg] at hr
  simp only at hr
  unfold runR at hr
  split at hr
  · cases hr
  · rename_i hd
    have key : ∀ (r : OR) (t : St), (∀ v s', r = .ok v s' → s' = s) → (∀ p v s', r = .okN p v s' → s' = s) → (match r.get with | none => none | some (p, v, s') => some (p, s'.put o.dst v)) = some (p, s1) → ∃ v, s1 = s.put o.dst v := by
      intro r t h1 h2 hr
      cases r with
      | fail why => cases hr
      | ok v s' =>
        simp only [OR.get, Option.some.injEq, Prod.mk.injEq] at hr
        exact ⟨v, by rw [← hr.2, h1 v s' rfl]⟩
      | okN p' v s' =>
        simp only [OR.get, Option.some.injEq, Prod.mk.injEq] at hr
        exact ⟨v, by rw [← hr.2, h2 p' v s' rfl]⟩
    split at hq
    · rename_i x ho
      rw [ho] at hr
      refine key _ s ?_ ?_ hr <;> (intros; simp_all [aop])
    · rename_i T x ho
      rw [ho] at hr
      refine key _ s ?_ ?_ hr
      · intro v s' e
        simp only [aop, ho] at e
        unfold loadA at e
        repeat' split at e
        all_goals (cases e; try rfl)
      · intro q v s' e
        simp only [aop, ho] at e
        unfold loadA at e
        repeat' split at e
        all_goals (cases e; try rfl)
    · rename_i T x n ho
      rw [ho] at hr
      refine key _ s ?_ ?_ hr
      · intro v s' e
        simp only [aop, ho] at e
        repeat' split at e
        all_goals (cases e; try rfl)
      · intro q v s' e
        simp only [aop, ho] at e
        repeat' split at e
        all_goals (cases e; try rfl)
    · rename_i T x n ho
      rw [ho] at hr
      refine key _ s ?_ ?_ hr
      · intro v s' e
        simp only [aop, ho] at e
        repeat' split at e
        all_goals (cases e; try rfl)
      · intro q v s' e
        simp only [aop, ho] at e
        repeat' split at e
        all_goals (cases e; try rfl)
    · cases hq

theorem quiet_runs {M : Nat → Nat} : ∀ {l : List Nat} {acc : List (Nat × St)} {s s' : St}, RunsA E ops M acc l s s' → (∀ j ∈ l, ∀ o, ops[j]? = some o → quiet o = true) →
    s'.hp = s.hp ∧ ∀ m, (∀ j ∈ l, ∀ o, ops[j]? = some o → o.dst ≠ some m) → look m s'.fr = look m s.fr
  | [], acc, s, s', h, _ => by obtain rfl : s = s' := h; exact ⟨rfl, fun _ _ => rfl⟩
  | j :: l, acc, s, s', ⟨o, ho, _, p, s1, h1, _, h2⟩, hq => by
    obtain ⟨v, rfl⟩ := quiet_abs (hq j (by simp) o ho) h1
    obtain ⟨k1, k2⟩ := quiet_runs h2 (fun j' hj' => hq j' (by simp [hj']))
    refine ⟨k1.trans hp_putS, fun m hm => ?_⟩
    rw [k2 m (fun j' hj' => hm j' (by simp [hj'])), look_putS, if_neg (hm j (by simp) o ho)]

/-! ### what the check of a pending append says -/
theorem pend_spec {M : List Nat} {k n : Nat} (h : pendOk ops M k n = true) : n + 1 = ops.size ∧ k < n ∧ ∃ ok, ops[k]? = some ok ∧ ∀ j, j < n → (M.getD n 0).testBit j = true ∧ (j ≠ k → ∃ o, ops[j]? = some o ∧ (∀ d, ok.dst = some d → o.dst ≠ some d) ∧
    ((M.getD k 0).testBit j = true ∨ (quiet o = true ∧ ∀ d, o.dst = some d → d ∉ looks ops ok))) := by
  simp only [pendOk, Bool.and_eq_true] at h
  obtain ⟨⟨h1, h2⟩, h3⟩ := h
  have hn := Nat.eq_of_beq_eq_true h1
  refine ⟨hn, by simpa [Nat.blt_eq] using h2, ?_⟩
  split at h3
  · rename_i ok hok
    refine ⟨ok, hok, fun j hj => ?_⟩
    simp only [List.all_eq_true, List.mem_range] at h3
    have := h3 j hj
    simp only [Bool.and_eq_true, Bool.or_eq_true] at this
    obtain ⟨m1, m2⟩ := this
    refine ⟨m1, fun hjk => ?_⟩
    rcases m2 with m2 | m2
    · exact absurd (Nat.eq_of_beq_eq_true m2) hjk
    · split at m2
      · rename_i o ho
        simp only [Bool.and_eq_true, Bool.or_eq_true] at m2
        refine ⟨o, ho, fun d hd hod => ?_, m2.2.imp id (fun h => ⟨h.1, fun d hd hdl => ?_⟩)⟩
        · have := m2.1
          simp only [notIn, hod, hd, Option.toList] at this
          simp at this
        · have := h.2
          simp only [notIn, hd] at this
          simp [hdl] at this
      · cases m2
  · cases h3

theorem fin_spec {M : List Nat} {q : PendA} {n : Nat} {o : Oper} {s : St} {p : Prop} {s2 : St} (h : finA E ops M q n o s = some (p, s2)) : ∃ T2 ad s3, o.guard = none ∧ o.op = .store T2 ad (.tmp q.d) ∧ (∀ t, ad = .tmp t → t ≠ q.d) ∧ pendOk ops M q.k n = true ∧ dstOk E.nt o.dst = true ∧
    appS E q.T q.U T2 (s.ev q.x) (s.ev q.y) (s.ev ad) q.d s = some (p, s3) ∧ s2 = s3.put o.dst (.raw undef) := by
  unfold finA at h
  split at h
  · rename_i T2 ad d' hg hop
    split at h
    · rename_i hc
      simp only [Bool.and_eq_true] at hc
      obtain ⟨⟨⟨c1, c2⟩, c3⟩, c4⟩ := hc
      obtain rfl := Nat.eq_of_beq_eq_true c1
      split at h
      · rename_i p' s3 hs
        cases h
        exact ⟨T2, ad, s3, hg, hop, fun t e => by subst e; rintro rfl; simp at c2, c3, c4, hs, rfl⟩
      · cases h
    · cases h
  · cases h

theorem appS_inv (hE : EnvOk E) {x y adv : AV} {T U T2 : TypeId} {d : Nat} {p : Prop} {s2 : St} (hb : appS E T U T2 x y adv d s = some (p, s2)) (hp : p) :
    ∃ i p0 e t0 l m g r q bts, x = .at_ i p0 ∧ adv = .ptr i p0 ∧ look i s.hp = some e ∧ i ∉ g ∧ g.Nodup ∧ (g.all fun i => !pinned i) = true ∧ getP e.ty e.x p0 = some ⟨.slc true t0, l⟩ ∧ chk E T2 (.slc true t0) = true ∧
      setP e.ty e.x p0 (.slc true t0) (l ++ m) = some r ∧ s2 = (((St.drops g (s.put (some d) .any)).kill i e.kd p0).putE i (e.upd r)) ∧ look T E.tt = some ⟨.slc q t0, bts⟩ ∧
      ((∃ e', E.P.underlying U = some (.slice e')) ∨ E.P.underlying U = some .string) ∧ y.app1 s t0 = some (⟨t0, m⟩, g) ∧ l.length + m.length ≤ 140737488355328 ∧ (l.length + m.length) * t0.wb ≤ 140737488355328 ∧
      ((∃ t x, e = .var t x) ∨ ∃ t x j q, e = .own (.slc true t) x ∧ p0 = .idx j :: q) := by
  unfold appS at hb
  split at hb
  · rename_i i p0 j q q1 t0 bts u1 bts1 hT hU
    split at hb
    · rename_i e hob hku
      simp only [Bool.and_eq_true] at hku
      obtain ⟨hij, hku⟩ := hku
      have hij := Nat.eq_of_beq_eq_true hij
      subst hij
      split at hb
      · rename_i u l hg
        split at hb
        · rename_i t m g happ
          split at hb
          · rename_i hu
            split at hb
            · rename_i ht
              subst hu; subst ht
              split at hb
              · rename_i r hset
                split at hb
                · rename_i hck
                  cases hb
                  simp only [Bool.and_eq_true, Bool.not_eq_true'] at hck
                  obtain ⟨⟨⟨⟨hck, hst⟩, hgi⟩, hgn⟩, hgp⟩ := hck
                  obtain ⟨rfl, h63, hby⟩ := hp
                  have hgi : i ∉ g := by intro hm; simp [hm] at hgi
                  have hk : (∃ e', E.P.underlying U = some (.slice e')) ∨ E.P.underlying U = some .string := by
                    cases u1 <;> first | cases hku | skip
                    · exact .inr (tyOk_str (tt_ok hE hU))
                    · obtain ⟨et, k', f1, _⟩ := tyOk_slc (tt_ok hE hU)
                      exact .inl ⟨et, f1⟩
                  exact ⟨i, q, e, _, l, m, g, r, _, _, rfl, rfl, hob, hgi, noDup_nodup hgn, hgp, hg, hck, hset, rfl, hT, hk, happ, h63, hby, (stay_spec hst).2⟩
                · cases hb
              · cases hb
            · cases hb
          · cases hb
        · cases hb
      · cases hb
    · cases hb
  · cases hb

theorem Apart.cut : ∀ {A C : List Oper} {o : Oper}, Apart (A ++ o :: C) → Apart (A ++ C) ∧ ∀ x ∈ A ++ C, ∀ d, x.dst = some d → o.dst ≠ some d
  | [], C, o, h => ⟨h.2, fun x hx d hxd hod => h.1 d hod x hx hxd⟩
  | y :: A, C, o, h => by
    obtain ⟨m1, m2⟩ := Apart.cut h.2
    refine ⟨⟨fun d hd x hx => h.1 d hd x (by simp at hx ⊢; rcases hx with hx | hx <;> simp [hx]), m1⟩, fun x hx d hxd hod => ?_⟩
    rcases List.mem_cons.1 hx with rfl | hx
    · exact h.1 d hxd o (by simp) hod
    · exact m2 x hx d hxd hod

theorem Apart.sub {f : Nat → Bool} : ∀ {l : List Nat}, Apart (rem ops l) → Apart (rem ops (l.filter f))
  | [], h => h
  | i :: l, h => by
    cases ho : ops[i]? with
    | none =>
      have e : rem ops (i :: l) = rem ops l := by simp [rem, List.filterMap_cons, ho]
      rw [e] at h
      have := Apart.sub (f := f) h
      rw [List.filter_cons]
      split
      · have e : rem ops (i :: l.filter f) = rem ops (l.filter f) := by simp [rem, List.filterMap_cons, ho]
        rw [e]; exact this
      · exact this
    | some o =>
      rw [rem_cons ho] at h
      rw [List.filter_cons]
      split
      · rw [rem_cons ho]
        refine ⟨fun d hd x hx => h.1 d hd x ?_, Apart.sub h.2⟩
        obtain ⟨j, hj, hjx⟩ := List.mem_filterMap.1 hx
        exact List.mem_filterMap.2 ⟨j, (List.mem_filter.1 hj).1, hjx⟩
      · exact Apart.sub h.2

theorem mem_rem {j : Nat} {o : Oper} {l : List Nat} (hj : j ∈ l) (ho : ops[j]? = some o) : o ∈ rem ops l := List.mem_filterMap.2 ⟨j, hj, ho⟩

/-- the place of one among those that are left, others left out -/
theorem idxs_without {n i : Nat} {listed : Array Bool} {f : Nat → Bool} (hs : listed.size = n) (hi : i ∈ idxs n listed) (hf : f i = true) : ∃ pre post, (idxs n listed).filter f = pre ++ i :: post ∧ (∀ j ∈ pre, j < i) ∧
    (idxs n (listed.setIfInBounds i true)).filter f = pre ++ post := by
  obtain ⟨pre, post, e, h1, h2⟩ := idxs_split hi
  refine ⟨pre.filter f, post.filter f, by rw [e, List.filter_append, List.filter_cons, if_pos hf], fun j hj => h1 j (List.mem_filter.1 hj).1, ?_⟩
  rw [idxs_set hs (mem_idxs.1 hi).1, h2, List.filter_append]

theorem idxs_skip {n i : Nat} {listed : Array Bool} {f g : Nat → Bool} (hs : listed.size = n) (hi : i < n) (hg : ∀ j, g j = (f j && !(j == i))) : (idxs n (listed.setIfInBounds i true)).filter f = (idxs n listed).filter g := by
  rw [idxs_set hs hi, List.filter_filter]
  exact List.filter_congr (fun j _ => (hg j).symm)

theorem idxs_len {n i fuel : Nat} {listed : Array Bool} (hs : listed.size = n) (hi : i ∈ idxs n listed) (hl : (idxs n listed).length = fuel + 1) : (idxs n (listed.setIfInBounds i true)).length = fuel := by
  obtain ⟨pre, post, e, h1, h2⟩ := idxs_split hi
  rw [idxs_set hs (mem_idxs.1 hi).1, h2]
  rw [e] at hl
  simp at hl ⊢; omega

section
variable {q : PendA} {n : Nat} {s1 : St}

theorem ClosedL.set {listed : Array Bool} (hcl : ClosedL ops listed) {i : Nat} {o : Oper} (ho : ops[i]? = some o) (hpre : ∀ e ∈ o.after, Region.binds .any e = true → listed.getD e.on false = true) : ClosedL ops (listed.setIfInBounds i true) := by
  intro k y hy hk e' he' hb'
  by_cases hki : k = i
  · subst hki
    rw [ho] at hy; cases hy
    exact getD_set_true (hpre e' he' hb')
  · rw [getD_set_ne true (Ne.symm hki)] at hk
    exact getD_set_true (hcl k y hy hk e' he' hb')

theorem listed_set {listed : Array Bool} {i : Nat} (hi : i < listed.size) : (listed.setIfInBounds i true).getD i true = true := by simp [hi]
theorem listed_set_false {listed : Array Bool} {i : Nat} (hi : i < listed.size) : (listed.setIfInBounds i true).getD i false = true := by simp [hi]

theorem ready_some (hd : drawOk ops = true) {listed : Array Bool} (hsz : listed.size = ops.size) (hne : idxs ops.size listed ≠ []) : Region.ready .any ops listed ≠ [] := by
  have hM := draw_spec hd
  intro hr
  cases hix : idxs ops.size listed with
  | nil => exact hne hix
  | cons i l =>
    have hmem : i ∈ idxs ops.size listed := by rw [hix]; simp
    obtain ⟨h1, h2⟩ := mem_idxs.1 hmem
    have ho : ops[i]? = some ops[i] := Array.getElem?_eq_getElem h1
    have : i ∈ Region.ready .any ops listed := by
      refine mem_ready.2 ⟨h2, ops[i], ho, fun e he hb => ?_⟩
      have hlt := (hM i _ ho).1 e he hb
      cases hle : listed.getD e.on true with
      | true =>
        have : e.on < listed.size := by omega
        simp [this] at hle ⊢; exact hle
      | false =>
        exfalso
        have hm2 : e.on ∈ idxs ops.size listed := mem_idxs.2 ⟨by omega, hle⟩
        have hs := idxs_sorted ops.size listed
        rw [hix] at hs hm2
        rcases List.mem_cons.1 hm2 with e1 | e1
        · omega
        · have := (List.pairwise_cons.1 hs).1 _ e1; omega
    rw [hr] at this
    cases this

/-- the second half: the append is done, the store still to come -/
theorem drawn_late (hE : EnvOk E) (hn : B.n = E.nt) (hd : drawOk ops = true) {Q : Exit → Act → World → Prop} (hap : Apart ops.toList) (hA : AppOp E ops q) {o2 : Oper} (ho2 : ops[n]? = some o2) {p : Prop} {s2 : St} (hfin : finA E ops (masksGo ops.toList []) q n o2 s1 = some (p, s2)) (hp : p)
    (hQ : ∀ S ι a w, RS B S ι s2 a w → Q .normal a w) {i : Nat} {e : Ent} {p0 : List Step} {t0 : Ty} {l m : List t0.den} {g : List Nat} (hx : s1.ev q.x = .at_ i p0) (he : look i s1.hp = some e) (hok : okP e.ty e.x p0) (hg : getP e.ty e.x p0 = some ⟨.slc true t0, l⟩)
    (happ : (s1.ev q.y).app1 s1 t0 = some (⟨t0, m⟩, g)) {v' : Value} :
    ∀ (fuel : Nat) (listed : Array Bool) (S : Nat → Prop) (ι : Ix) (s s' : St) (a : Act) (w : World), listed.size = ops.size → (idxs ops.size listed).length = fuel → ClosedL ops listed → listed.getD q.k false = true → listed.getD n true = false → uniq s.fr → CleanFor s (rem ops ((idxs ops.size listed).filter (fun j => !(j == n)))) →
      RunsA E ops (fun i => (masksGo ops.toList []).getD i 0) [] ((idxs ops.size listed).filter (fun j => !(j == n))) s s' → Eqv s' s1 → RS B S ι s a w → a.eval (.tmp q.d) = v' → (∀ b off, Loc w.heap ι i e p0 = some (b, off) → Pend B S ι s1.hp g i e p0 t0 l m b off v' w) →
      wpAny E.P .any ops Q fuel listed a w := by
  have hM := draw_spec hd
  obtain ⟨T2, ad, s3, f1, f2, f3, f4, f5, f6, rfl⟩ := fin_spec hfin
  obtain ⟨hns, hkn, ok, hok1, hsp⟩ := pend_spec f4
  obtain ⟨oa, c, a1, a2, a3, a4, a5, a6, a7, a8⟩ := hA
  have e9 : oa = ok := by rw [a1] at hok1; cases hok1; rfl
  subst e9
  have hndst : ∀ j o, j < n → j ≠ q.k → ops[j]? = some o → o.dst ≠ some q.d := by
    intro j o hj hjk ho
    obtain ⟨o', h1, h2, _⟩ := (hsp j hj).2 hjk
    rw [ho] at h1; cases h1
    exact h2 q.d a3
  intro fuel
  induction fuel with
  | zero =>
    intro listed S ι s s' a w hsz hlen hcl hlk hln hu hcf hrun hev hrs hv hpd
    exfalso
    have hnil : idxs ops.size listed = [] := List.length_eq_zero_iff.1 hlen
    have : n ∈ idxs ops.size listed := mem_idxs.2 ⟨by omega, hln⟩
    rw [hnil] at this; cases this
  | succ fuel ih =>
    intro listed S ι s s' a w hsz hlen hcl hlk hln hu hcf hrun hev hrs hv hpd
    refine ⟨fun hr => absurd hr (ready_some hd hsz (by intro h; rw [h] at hlen; cases hlen)), fun i' hi => ?_⟩
    obtain ⟨h1, o, ho, hpre⟩ := mem_ready.1 hi
    have hin : i' < ops.size := (Array.getElem?_eq_some_iff.1 ho).1
    have hmem : i' ∈ idxs ops.size listed := mem_idxs.2 ⟨hin, h1⟩
    have hanc : ∀ j, j < ops.size → ((masksGo ops.toList []).getD i' 0).testBit j = true → listed.getD j false = true := anc_listed (M := fun i => (masksGo ops.toList []).getD i 0) (fun i o ho => ⟨(hM i o ho).1, (hM i o ho).2.1⟩) hcl i' o ho hpre
    by_cases hin2 : i' = n
    · -- the store
      subst hin2
      rw [ho2] at ho; cases ho
      have hall : ∀ j, j ∈ idxs ops.size listed → j = i' := by
        intro j hj
        obtain ⟨j1, j2⟩ := mem_idxs.1 hj
        by_cases e : j = i'
        · exact e
        · have := hanc j j1 (hsp j (by omega)).1
          rw [getD_flip this] at j2; cases j2
      have hnil : (idxs ops.size listed).filter (fun j => !(j == i')) = [] := by
        rw [List.filter_eq_nil_iff]
        intro j hj; simp [hall j hj]
      rw [hnil] at hrun
      obtain rfl : s = s' := hrun
      have hrs1 := rs_eqv hev hrs
      have hrs2 : RS B S ι (s1.put (some q.d) .any) a w := hrs1.forget q.d
      obtain ⟨i2, p2, e2, t2, l2, m2, g2, r, qq, bts, b1, b2, b3, b4, b5, b6, b7, b8, b9, b10, b11, b12, b13, b14, b15, b16⟩ := appS_inv hE f6 hp
      rw [hx] at b1
      obtain ⟨rfl, rfl⟩ : i = i2 ∧ p0 = p2 := by simpa using b1
      rw [he] at b3; cases b3
      rw [hg] at b7
      simp only [Option.some.injEq, Sigma.mk.injEq, Ty.slc.injEq, true_and] at b7
      obtain ⟨b7, b7'⟩ := b7
      subst b7
      obtain rfl : l = l2 := eq_of_heq b7'
      rw [happ] at b13
      simp only [Option.some.injEq, Prod.mk.injEq, Sigma.mk.injEq, heq_eq_eq, true_and] at b13
      obtain ⟨rfl, rfl⟩ := b13
      have hadr := hrs1.ev ad
      rw [b2] at hadr
      obtain ⟨e', b, off, c1, c2, c3, c4⟩ := hadr
      rw [he] at c1; cases c1
      have c4 : a.eval ad = .pointer (some ⟨b, off, none⟩) := by simpa using c4
      have hst := pend_store hE hrs2 (g := g) b6 b4 (e := e) he hok hg (hpd b off c3) f2 c4 hv b8 b9
      have hlen' := idxs_len hsz hmem hlen
      have hnil2 : idxs ops.size (listed.setIfInBounds i' true) = [] := by
        rw [idxs_set hsz hin]
        rw [List.filter_eq_nil_iff]
        intro j hj; simp [hall j hj]
      have hf0 : fuel = 0 := by rw [hnil2] at hlen'; exact hlen'.symm
      subst hf0
      have hw : o2.wp E.P a w (wpAny E.P .any ops Q 0 (listed.setIfInBounds i' true)) Q := by
        refine hst _ _ (fun S' ι' w' val h1 h2 => ⟨?_, hQ S' ι' _ w' ?_⟩)
        · rw [List.eq_nil_iff_forall_not_mem]
          intro j hj
          obtain ⟨j1, oj, j2, _⟩ := mem_ready.1 hj
          have : j ∈ idxs ops.size (listed.setIfInBounds i' true) := mem_idxs.2 ⟨(Array.getElem?_eq_some_iff.1 j2).1, j1⟩
          rw [hnil2] at this; cases this
        · rw [← b10] at h1 h2
          exact h1.put (by rw [hn]; exact f5) h2
      unfold wpOp
      rw [ho2]
      simp only [Region.wanted, f1, if_true]
      exact .inl hw
    · -- something quiet
      have hlt : i' < n := by omega
      have hki : i' ≠ q.k := by rintro rfl; rw [getD_flip hlk] at h1; cases h1
      obtain ⟨o', ho', hdd, hqq⟩ := (hsp i' hlt).2 hki
      rw [ho] at ho'; cases ho'
      have hqt : quiet o = true := by
        rcases hqq with hqq | hqq
        · exfalso
          have hclk : ∀ e ∈ oa.after, Region.binds .any e = true → listed.getD e.on false = true := hcl q.k oa a1 (getD_flip hlk)
          have := anc_listed (M := fun i => (masksGo ops.toList []).getD i 0) (fun i o ho => ⟨(hM i o ho).1, (hM i o ho).2.1⟩) hcl q.k oa a1 hclk i' hin hqq
          rw [getD_flip this] at h1; cases h1
        · exact hqq.1
      obtain ⟨pre, post, e1, hlt', e2⟩ := idxs_without (f := fun j => !(j == n)) hsz hmem (by simpa using hin2)
      rw [e1] at hcf hrun
      have er : rem ops (pre ++ i' :: post) = rem ops pre ++ o :: rem ops post := by simp [rem, List.filterMap_append, List.filterMap_cons, ho]
      have er2 : rem ops (pre ++ post) = rem ops pre ++ rem ops post := by simp [rem, List.filterMap_append]
      have hapr : Apart (rem ops (pre ++ i' :: post)) := by
        rw [← e1]
        refine Apart.sub ?_
        have : rem ops (idxs ops.size listed) = rem ops ((List.range ops.size).filter (fun i => !listed.getD i true)) := rfl
        rw [this]
        refine Apart.sub ?_
        have h9 := rem_all (ops := ops)
        rw [idxs_all] at h9
        rw [h9]; exact hap
      have hind : ∀ j ∈ pre, ((masksGo ops.toList []).getD i' 0).testBit j = false ∧ ∀ x, ops[j]? = some x → indep ops x o = true := by
        intro j hj
        have hji : j ∈ idxs ops.size listed := by
          have : j ∈ (idxs ops.size listed).filter (fun j => !(j == n)) := by rw [e1]; simp [hj]
          exact (List.mem_filter.1 this).1
        have hnm : ((masksGo ops.toList []).getD i' 0).testBit j = false := by
          cases hm : ((masksGo ops.toList []).getD i' 0).testBit j with
          | false => rfl
          | true =>
            exfalso
            have hjl := hanc j (mem_idxs.1 hji).1 hm
            have := (mem_idxs.1 hji).2
            rw [getD_flip hjl] at this
            cases this
        refine ⟨hnm, fun x hx => ?_⟩
        rcases (hM i' o ho).2.2 j x (hlt' j hj) hx with hm | hm
        · rw [hnm] at hm; cases hm
        · exact hm
      obtain ⟨pp, sa, sb, k1, k2, k3, k4, _⟩ := bubble ho hapr hind hu hcf hrun
      obtain ⟨q1, q2, v, val, rfl, q3, q4⟩ := quiet_run hE hrs hqt k1 k2
      rw [er] at hapr hcf
      have hap2 := Apart.cut hapr
      have hnext : wpAny E.P .any ops Q fuel (listed.setIfInBounds i' true) (a.put o.dst val) w := by
        refine ih (listed.setIfInBounds i' true) S ι (s.put o.dst v) sb (a.put o.dst val) w (by simp [hsz]) (idxs_len hsz hmem hlen) (hcl.set ho hpre) (getD_set_true hlk) (by rw [getD_set_ne true hin2]; exact hln) (place_uniq hu k1) ?_ (by rw [e2]; exact k3) (k4.trans hev) (hrs.put (by rw [hn]; exact q2) q4) ?_ hpd
        · rw [e2, er2]
          exact CleanFor.step hu (fun y hy => hcf y (by simp at hy ⊢; rcases hy with hy | hy <;> simp [hy])) hap2.2 k1
        · rw [← hv]
          have hne := hndst i' o hlt hki ho
          cases hod : o.dst with
          | none => rfl
          | some d =>
            rw [hod] at hne
            exact aput_other (fun e => hne (by rw [e]))
      unfold wpOp
      rw [ho]
      simp only [Region.wanted, q1, if_true]
      refine .inl ?_
      unfold Oper.wp
      rw [q3]
      exact hnext

/-- the first half: the append still to come -/
theorem drawn_early (hE : EnvOk E) (hn : B.n = E.nt) (hd : drawOk ops = true) {Q : Exit → Act → World → Prop} (hap : Apart ops.toList) (hA : AppOp E ops q) {o2 : Oper} (ho2 : ops[n]? = some o2) {p : Prop} {s2 : St} (hfin : finA E ops (masksGo ops.toList []) q n o2 s1 = some (p, s2)) (hp : p)
    (hQ : ∀ S ι a w, RS B S ι s2 a w → Q .normal a w) :
    ∀ (fuel : Nat) (listed : Array Bool) (S : Nat → Prop) (ι : Ix) (s s' : St) (a : Act) (w : World), listed.size = ops.size → (idxs ops.size listed).length = fuel → ClosedL ops listed → listed.getD q.k true = false → listed.getD n true = false → uniq s.fr → CleanFor s (rem ops ((idxs ops.size listed).filter (fun j => !(j == n) && !(j == q.k)))) →
      RunsA E ops (fun i => (masksGo ops.toList []).getD i 0) [] ((idxs ops.size listed).filter (fun j => !(j == n) && !(j == q.k))) s s' → Eqv s' s1 → look q.d s.fr = some .any → RS B S ι s a w →
      wpAny E.P .any ops Q fuel listed a w := by
  have hM := draw_spec hd
  obtain ⟨T2, ad, s3, f1, f2, f3, f4, f5, f6, _⟩ := fin_spec hfin
  obtain ⟨hns, hkn, ok, hok1, hsp⟩ := pend_spec f4
  have hA' := hA
  obtain ⟨oa, c, a1, a2, a3, a4, a5, a6, a7, a8⟩ := hA
  have e9 : oa = ok := by rw [a1] at hok1; cases hok1; rfl
  subst e9
  intro fuel
  induction fuel with
  | zero =>
    intro listed S ι s s' a w hsz hlen hcl hlk hln hu hcf hrun hev hany hrs
    exfalso
    have hnil : idxs ops.size listed = [] := List.length_eq_zero_iff.1 hlen
    have : n ∈ idxs ops.size listed := mem_idxs.2 ⟨by omega, hln⟩
    rw [hnil] at this; cases this
  | succ fuel ih =>
    intro listed S ι s s' a w hsz hlen hcl hlk hln hu hcf hrun hev hany hrs
    refine ⟨fun hr => absurd hr (ready_some hd hsz (by intro h; rw [h] at hlen; cases hlen)), fun i' hi => ?_⟩
    obtain ⟨h1, o, ho, hpre⟩ := mem_ready.1 hi
    have hin : i' < ops.size := (Array.getElem?_eq_some_iff.1 ho).1
    have hmem : i' ∈ idxs ops.size listed := mem_idxs.2 ⟨hin, h1⟩
    have hanc : ∀ j, j < ops.size → ((masksGo ops.toList []).getD i' 0).testBit j = true → listed.getD j false = true := anc_listed (M := fun i => (masksGo ops.toList []).getD i 0) (fun i o ho => ⟨(hM i o ho).1, (hM i o ho).2.1⟩) hcl i' o ho hpre
    by_cases hin2 : i' = n
    · exfalso
      subst hin2
      have := hanc q.k (by omega) (hsp q.k hkn).1
      rw [getD_flip this] at hlk; cases hlk
    have hlt : i' < n := by omega
    by_cases hki : i' = q.k
    · -- the append
      subst hki
      rw [a1] at ho; cases ho
      have hquiet : ∀ j ∈ (idxs ops.size listed).filter (fun j => !(j == n) && !(j == q.k)), ∀ oj, ops[j]? = some oj → quiet oj = true ∧ oj.dst ≠ some q.d ∧ ∀ d, oj.dst = some d → d ∉ looks ops oa := by
        intro j hj oj hoj
        obtain ⟨j1, j2⟩ := List.mem_filter.1 hj
        simp only [Bool.and_eq_true, Bool.not_eq_true', beq_eq_false_iff_ne, ne_eq] at j2
        have jn : j < n := by have := (mem_idxs.1 j1).1; omega
        obtain ⟨o', g1, g2, g3⟩ := (hsp j jn).2 j2.2
        rw [hoj] at g1; cases g1
        refine ⟨?_, g2 q.d a3, ?_⟩
        all_goals
          rcases g3 with g3 | g3
          · exfalso
            have := hanc j (by omega) g3
            have h9 := (mem_idxs.1 j1).2
            rw [getD_flip this] at h9; cases h9
        · exact g3.1
        · exact g3.2
      obtain ⟨hhp, hfr⟩ := quiet_runs hrun (fun j hj oj hoj => (hquiet j hj oj hoj).1)
      obtain ⟨i, p0, e, t0, l, m, g, r, qq, bts, b1, b2, b3, b4, b5, b6, b7, b8, b9, b10, b11, b12, b13, b14, b15, b16⟩ := appS_inv hE f6 hp
      have hlook : ∀ j, look j s.hp = look j s1.hp := fun j => by rw [← hhp]; exact hev.2 j
      have hget : ∀ x, x ∈ oa.op.operands.toList → s.ev x = s1.ev x := by
        intro x hx
        cases x with
        | tmp t =>
          have : look t s'.fr = look t s.fr := hfr t (fun j hj oj hoj hd' => (hquiet j hj oj hoj).2.2 t hd' (looks_op hx))
          show s.get t = s1.get t
          rw [← hev.get t]
          simp only [St.get, this]
        | _ => rfl
      have hxm : q.x ∈ oa.op.operands.toList := by rw [a5]; exact ops_arg (by rw [a7]; simp)
      have hym : q.y ∈ oa.op.operands.toList := by rw [a5]; exact ops_arg (by rw [a7]; simp)
      have hxs : s.ev q.x = .at_ i p0 := (hget _ hxm).trans b1
      have hes : look i s.hp = some e := (hlook i).trans b3
      have happs : (s.ev q.y).app1 s t0 = some (⟨t0, m⟩, g) := by
        rw [hget _ hym, app1_st (s := s1) (t := s) (fun j _ => hlook j)]
        exact b13
      have hok : okP e.ty e.x p0 := by
        obtain ⟨e2, u, y2, cs, r1, hok, _⟩ := evx hrs hxs
        rw [hes] at r1; cases r1
        exact hok
      obtain ⟨b, off, hl⟩ := loc_stay (hrs.hs.ob i e hes) hrs.hs.slt b16 hok b7
      obtain ⟨v', w', c1, c2, c3, c4⟩ := append_keep hE hrs a5 a6 a7 a8 b12 b11 hxs hes b16 b7 hl happs b4 b5 b14 b15
      have hl' : Loc w'.heap ι i e p0 = some (b, off) := by obtain ⟨_, h9, _⟩ := c4; exact h9
      have hput : RS B S ι s (a.put (some q.d) v') w' := by
        have h9 := c2.put (d := some q.d) (by rw [hn]; exact a4) (v := .any) (val := v') ⟨v', rfl⟩
        refine rs_eqv (s := s.put (some q.d) .any) (t := s) ⟨fun t => ?_, fun _ => rfl⟩ h9
        rw [look_putS]
        split
        · rename_i e9; cases e9; exact hany.symm
        · rfl
      have hval : (a.put (some q.d) v').eval (.tmp q.d) = v' := aput_same (by rw [hrs.sz, hn]; simpa [dstOk, Nat.blt_eq] using a4)
      have hset : (idxs ops.size (listed.setIfInBounds q.k true)).filter (fun j => !(j == n)) = (idxs ops.size listed).filter (fun j => !(j == n) && !(j == q.k)) := idxs_skip hsz hin (fun j => rfl)
      have hnext : wpAny E.P .any ops Q fuel (listed.setIfInBounds q.k true) (a.put (some q.d) v') w' := by
        refine drawn_late hE hn hd hap hA' ho2 hfin hp hQ (i := i) (e := e) (p0 := p0) (t0 := t0) (l := l) (m := m) (g := g) b1 b3 hok b7 b13 (v' := v') fuel (listed.setIfInBounds q.k true) S ι s s' _ w' (by simp [hsz]) (idxs_len hsz hmem hlen) (hcl.set a1 hpre) (listed_set_false (by omega)) (by rw [getD_set_ne true (by omega)]; exact hln) hu (by rw [hset]; exact hcf) (by rw [hset]; exact hrun) hev hput hval ?_
        intro b' off' hb'
        rw [hl'] at hb'; cases hb'
        obtain ⟨O', g1, g2, g3, g4, g5⟩ := c4
        exact ⟨O', g1, g2, g3, g4, fun cc hcc => ⟨(g5 cc hcc).1, fun j ej hj hjg hlj => (g5 cc hcc).2.1 j ej hj hjg ((hlook j).trans hlj), (g5 cc hcc).2.2⟩⟩
      unfold wpOp
      rw [a1]
      simp only [Region.wanted, a2, if_true]
      refine .inl ?_
      unfold Oper.wp
      rw [c1]
      show wpAny E.P .any ops Q fuel (listed.setIfInBounds q.k true) (a.put oa.dst v') w'
      rw [a3]
      exact hnext
    · -- another one
      obtain ⟨pre, post, e1, hlt', e2⟩ := idxs_without (f := fun j => !(j == n) && !(j == q.k)) hsz hmem (by simp [hin2, hki])
      rw [e1] at hcf hrun
      have er : rem ops (pre ++ i' :: post) = rem ops pre ++ o :: rem ops post := by simp [rem, List.filterMap_append, List.filterMap_cons, ho]
      have er2 : rem ops (pre ++ post) = rem ops pre ++ rem ops post := by simp [rem, List.filterMap_append]
      have hapr : Apart (rem ops (pre ++ i' :: post)) := by
        rw [← e1]
        refine Apart.sub ?_
        have : rem ops (idxs ops.size listed) = rem ops ((List.range ops.size).filter (fun i => !listed.getD i true)) := rfl
        rw [this]
        refine Apart.sub ?_
        have h9 := rem_all (ops := ops)
        rw [idxs_all] at h9
        rw [h9]; exact hap
      have hind : ∀ j ∈ pre, ((masksGo ops.toList []).getD i' 0).testBit j = false ∧ ∀ x, ops[j]? = some x → indep ops x o = true := by
        intro j hj
        have hji : j ∈ idxs ops.size listed := by
          have : j ∈ (idxs ops.size listed).filter (fun j => !(j == n) && !(j == q.k)) := by rw [e1]; simp [hj]
          exact (List.mem_filter.1 this).1
        have hnm : ((masksGo ops.toList []).getD i' 0).testBit j = false := by
          cases hm : ((masksGo ops.toList []).getD i' 0).testBit j with
          | false => rfl
          | true =>
            exfalso
            have hjl := hanc j (mem_idxs.1 hji).1 hm
            have := (mem_idxs.1 hji).2
            rw [getD_flip hjl] at this
            cases this
        refine ⟨hnm, fun x hx => ?_⟩
        rcases (hM i' o ho).2.2 j x (hlt' j hj) hx with hm | hm
        · rw [hnm] at hm; cases hm
        · exact hm
      obtain ⟨pp, sa, sb, k1, k2, k3, k4, _⟩ := bubble ho hapr hind hu hcf hrun
      have hnd : o.dst ≠ some q.d := by
        obtain ⟨o', g1, g2, _⟩ := (hsp i' hlt).2 hki
        rw [ho] at g1; cases g1
        exact g2 q.d a3
      have hany' : look q.d sa.fr = some .any := by
        obtain ⟨v, ids, f, hf, z1, z2, z3, z4, z5⟩ := place_eff (ops := ops) hu k1
        obtain ⟨sa', y1, _, y2⟩ := z5 s hu ((Eqv.refl s).agreeS _) z2
        rw [k1] at y1; cases y1
        rw [y2.fr, if_neg hnd, hany]
        simp [z1.plain _ (rfl : AV.plain .any = true)]
      rw [er] at hapr hcf
      have hap2 := Apart.cut hapr
      have hps := place_sound hE hn hrs (ops := ops) o (k := fun x => Tree.cut .skip [] x) (L := fun _ _ x => x = sa) (Rt := fun _ => True) (pl_place.2 ⟨pp, sa, k1, k2, rfl⟩)
        (next := wpAny E.P .any ops Q fuel (listed.setIfInBounds i' true)) (Q := Q) (fun S' ι' x a' w' hx hxe => by
          have hxe : x = sa := hxe
          subst hxe
          refine ih (listed.setIfInBounds i' true) S' ι' x sb a' w' (by simp [hsz]) (idxs_len hsz hmem hlen) (hcl.set ho hpre) (by rw [getD_set_ne true hki]; exact hlk) (by rw [getD_set_ne true hin2]; exact hln) (place_uniq hu k1) ?_ (by rw [e2]; exact k3) (k4.trans hev) hany' hx
          rw [e2, er2]
          exact CleanFor.step hu (fun y hy => hcf y (by simp at hy ⊢; rcases hy with hy | hy <;> simp [hy])) hap2.2 k1)
      unfold wpOp
      rw [ho]
      simp only
      split
      · rename_i hw; rw [if_pos hw] at hps; exact .inl hps
      · rename_i hw; rw [if_neg hw] at hps; exact hps

/-- a drawn region with an append to a place -/
theorem drawn_pend (hE : EnvOk E) (hn : B.n = E.nt) {id : Nat} (hd : (drawOk ops && entryOk ops s && E.P.follows .mixedOrders) = true) {Q : Exit → Act → World → Prop} (hA : AppOp E ops q) {s' : St}
    (hr : RunsA E ops (fun i => (masksGo ops.toList []).getD i 0) [] ((List.range' 0 (ops.toList.length - 1)).filter (fun j => !(j == q.k))) s s') {k : St → Tree (E.rs ++ wts E.ps)} {L : Code → List Item → St → Prop} {R : DL (E.rs ++ wts E.ps) → Prop}
    (hf : FinRun E ops (masksGo ops.toList []) q s' k L R) (hany : look q.d s.fr = some .any)
    (hQ : ∀ S ι s2 a w, RS B S ι s2 a w → (k s2).holds L R → Q .normal a w) (h : RS B S ι s a w) : (Code.region id ops true).wp E.P Q a w := by
  simp only [Bool.and_eq_true, entryOk, List.all_eq_true] at hd
  obtain ⟨⟨h1, ⟨h2, h3⟩, h4⟩, h5⟩ := hd
  refine wp_region_any h5 ?_
  obtain ⟨o2, p, s2, g1, g2, g3, g4⟩ := hf
  obtain ⟨T2, ad, s3, f1, f2, f3, f4, f5, f6, _⟩ := fin_spec g2
  obtain ⟨hns, hkn, _⟩ := pend_spec f4
  have hlen : (idxs ops.size (Array.replicate ops.size false)).length = ops.size := by
    rw [idxs_all]; simp
  have hset : (idxs ops.size (Array.replicate ops.size false)).filter (fun j => !(j == ops.size - 1) && !(j == q.k)) = (List.range' 0 (ops.toList.length - 1)).filter (fun j => !(j == q.k)) := by
    rw [idxs_all, show List.range ops.size = List.range (ops.size - 1) ++ [ops.size - 1] from by rw [← List.range_succ]; congr 1; omega, List.filter_append, List.filter_cons]
    simp only [beq_self_eq_true, Bool.not_true, Bool.false_and, Bool.false_eq_true, if_false, List.filter_nil, List.append_nil, Array.length_toList]
    rw [List.range_eq_range']
    refine List.filter_congr (fun j hj => ?_)
    have : j ≠ ops.size - 1 := by have := (List.mem_range'_1.1 hj).2; omega
    simp [this]
  refine drawn_early (n := ops.size - 1) hE hn h1 (apart_of h3) hA g1 g2 g3 (fun S ι a w hh => hQ S ι _ a w hh g4) ops.size _ S ι s s' a w.drew (by simp) hlen ?_ ?_ ?_ (uniq_of h2) ?_ (by rw [hset]; exact hr) (Eqv.refl _) hany (h.turn Flt.nil Past.drew)
  · intro k o hk hl
    have : k < ops.size := (Array.getElem?_eq_some_iff.1 hk).1
    simp [this] at hl
  · have : q.k < ops.size := by omega
    simp [this]
  · have : ops.size - 1 < ops.size := by omega
    simp [this]
  · intro o ho d hd
    obtain ⟨j, hj, hjo⟩ := List.mem_filterMap.1 ho
    have : o ∈ ops.toList := by
      have := Array.mem_of_getElem? hjo
      simpa using this
    exact h4 d (List.mem_filterMap.2 ⟨o, this, hd⟩)
end
end
end Go.Ex
