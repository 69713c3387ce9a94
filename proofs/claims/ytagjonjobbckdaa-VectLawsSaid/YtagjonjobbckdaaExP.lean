import Derived.Test.YtagjonjobbckdaaExSd
namespace Go.Ex

section
variable {E : Env} {B : Base} {S S' : Nat → Prop} {ι : Ix} {s : St} {a : Act} {w : World} {hp : List (Nat × Ent)} {H H' : Array Go.Obj}

/-- from here the function comes to its end, and R holds there -/
def At (P : Program) (fn : Func) (R : Ending → World → Prop) (k : List Item) (a : Act) (w : World) : Prop :=
  ∀ (b : Frame) (cs : List Frame), ∃ (e : Exit) (a' : Act) (w' : World), bodyPost P fn R e a' w' ∧ Arrives P (lone (b.at a k) cs w) b [] cs e a' w'

section at_
variable {P : Program} {fn : Func} {R : Ending → World → Prop} {k k' : List Item}

theorem At.step (hs : ∀ (b : Frame) (cs : List Frame), step P (lone (b.at a k) cs w) = .next (lone (b.at a k') cs w)) (h : At P fn R k' a w) : At P fn R k a w :=
  fun b cs => let ⟨e, a', w', q, r⟩ := h b cs; ⟨e, a', w', q, .of_steps (.one (hs b cs)) r⟩

theorem At.region {id : Nat} {ops : Array Oper} {d : Bool} (h : (Code.region id ops d).wp P (fun e a w => e = .normal ∧ At P fn R k a w) a w) : At P fn R (.code (.region id ops d) :: k) a w := by
  intro b cs
  obtain ⟨e, a', w', ⟨rfl, h2⟩, harr⟩ := h b k cs
  obtain ⟨e, a'', w'', q, r⟩ := h2 b cs
  exact ⟨e, a'', w'', q, .of_steps harr r⟩

theorem At.done (h : bodyPost P fn R .normal a w) : At P fn R [] a w := fun _ _ => ⟨.normal, a, w, h, Steps.refl _ _⟩
theorem At.ret (h : bodyPost P fn R .ret a w) : At P fn R (.code .ret :: k) a w := fun _ _ => ⟨.ret, a, w, h, _, .one step_ret⟩

theorem calls_of_at {f : FuncId} {c : Code} {args : Array Value} (hf : P.funcs[f]? = some fn) (hb : fn.body = some c)
    (h : At P fn R [.code c] { tmps := args ++ Array.replicate (fn.ntmps - args.size) undef, defers := [] } w) : Calls P f args w R := by
  intro cs
  let b : Frame := { (default : Frame) with fn := f, kind := .normal }
  have henter : Frame.enter P f args .normal = b.at { tmps := args ++ Array.replicate (fn.ntmps - args.size) undef, defers := [] } [.code c] := by
    simp [Frame.enter, Frame.at, hf, hb, b]
  obtain ⟨e, a', w', hq, harr⟩ := h b cs
  rw [← henter] at harr
  cases e with
  | normal =>
    obtain ⟨hd, v, hr, hR⟩ := hq
    exact ⟨.returned v, w', _, hR, Steps.trans harr (.one step_end), rfl, rfl, hd, rfl, fn, hf, hr⟩
  | ret =>
    obtain ⟨hd, v, hr, hR⟩ := hq
    obtain ⟨todo, hs⟩ := harr
    exact ⟨.returned v, w', _, hR, hs, rfl, rfl, hd, rfl, fn, hf, hr⟩
  | panic chain =>
    obtain ⟨hd, hR⟩ := hq
    obtain ⟨todo, hs⟩ := harr
    exact ⟨.panicked chain, w', _, hR, hs, rfl, rfl, hd, fn, hf⟩
  | exit id => exact hq.elim
  | goto l => exact hq.elim
  | outgrown => exact ⟨.outgrown, w', b, hq, harr.resolve_left (by simp [b]), rfl, trivial⟩
end at_

/-! ### what is kept at a cut -/
theorem RS.drop (h : RS B S ι s a w) (i : Nat) : RS B S ι (s.drop i) a w := by
  refine ⟨⟨h.hs.os, h.hs.tape, h.hs.out, h.hs.size, h.hs.frame, h.hs.slt, h.hs.s0, h.hs.s1, ?_, ?_, ?_⟩, h.dfr, h.sz, ?_⟩
  · intro j e hj
    simp only [St.drop, look_del] at hj
    split at hj
    · cases hj
    · exact h.hs.ob j e hj
  · intro j e hj
    simp only [St.drop, look_del] at hj
    split at hj
    · cases hj
    · exact h.hs.bl j e hj
  · intro j k ej ek hj hk
    simp only [St.drop, look_del] at hj hk
    split at hj
    · cases hj
    · split at hk
      · cases hk
      · exact h.hs.dj j k ej ek hj hk
  · intro t v hv
    simp only [St.drop, look_mapA, Option.map_eq_some_iff] at hv
    obtain ⟨v0, hv0, rfl⟩ := hv
    refine VX.map (fun _ _ => rfl) (fun _ h => h) ?_ ?_ (h.fr t v0 hv0)
    · rintro j p vs ⟨e, b, off, h1, h2, h3, h4⟩
      by_cases e1 : i = j
      · subst e1; simp only [Nat.beq_refl]; rw [h4]; exact ⟨_, rfl⟩
      · simp only [beq_ne e1]
        exact ⟨e, b, off, by simp only [St.drop, look_del, if_neg (Ne.symm e1)]; exact h1, h2, h3, h4⟩
    · rintro j p vs ⟨e, u, y, cs, h1, h2, h3, h4, h5⟩
      by_cases e1 : i = j
      · subst e1; simp only [Nat.beq_refl]; rw [h5]; exact ⟨_, rfl⟩
      · simp only [beq_ne e1]
        exact ⟨e, u, y, cs, by simp only [St.drop, look_del, if_neg (Ne.symm e1)]; exact h1, h2, h3, h4, h5⟩

theorem RS.dropAll (live : List Nat) (s0 : St) : ∀ {l : List (Nat × Ent)} {s : St}, RS B S ι s a w → RS B S ι (dropAll live s0 l s) a w
  | [], _, h => h
  | (i, _) :: l, s, h => by
    simp only [Ex.dropAll]
    split
    · exact RS.dropAll live s0 h
    · exact RS.dropAll live s0 (h.drop i)

theorem RS.canon (h : RS B S ι s a w) (x : List Nat) : RS B S ι (canon x s) a w := by
  have h1 : RS B S ι (Ex.dropAll x s s.hp s) a w := RS.dropAll x s h
  refine ⟨h1.hs, h1.dfr, h1.sz, ?_⟩
  intro t v hv
  have : v = (Ex.dropAll x s s.hp s).get t := by
    simp only [Ex.canon] at hv
    generalize Ex.dropAll x s s.hp s = s1 at hv
    clear h1
    revert hv
    induction x with
    | nil => intro hv; cases hv
    | cons t' l ih =>
      intro hv
      simp only [List.map_cons, look] at hv
      cases hb : Nat.beq t t' with
      | true =>
        rw [hb] at hv
        have := Nat.eq_of_beq_eq_true hb
        subst this
        cases hv; rfl
      | false => rw [hb] at hv; exact ih hv
  rw [this]
  exact h1.get t

/-! ### results -/
theorem resA_sound (hE : EnvOk E) (h : RS B S ι s a w) : ∀ {rs : List ResultVar} {l : AV}, resA E s rs = some l →
    ∃ us, (rs.mapM fun r => (match r with
      | .tmp t => pure (a.tmps.getD t undef)
      | .cell c t => do loadVar t (← asAddr (a.tmps.getD c undef)) : Sem Value)).run E.P w = .ok us w ∧ VX w.heap S ι s.hp l us
  | [], l, hl => by
    simp only [resA, Option.some.injEq] at hl
    subst hl
    exact ⟨[], rfl, rfl⟩
  | .tmp t :: rs, l, hl => by
    simp only [resA] at hl
    split at hl
    · rename_i v hv
      cases hl
      obtain ⟨us, h1, h2⟩ := resA_sound hE h hv
      exact ⟨a.tmps.getD t undef :: us, by simp only [List.mapM_cons, Sem.run_bind, Sem.run_pure, Result.andThen, h1], _, us, rfl, h.get t, h2⟩
    · cases hl
  | .cell c T :: rs, l, hl => by
    simp only [resA] at hl
    split at hl
    · rename_i i p hc
      have hv := h.get c
      rw [hc] at hv
      obtain ⟨e, b, off, k1, k2, k3, k4⟩ := hv
      have k4 : a.tmps.getD c undef = .pointer (some ⟨b, off, none⟩) := by simpa using k4
      split at hl
      · rename_i t x hob
        obtain rfl := ent_of k1 hob
        split at hl
        · rename_i u y hg
          split at hl
          · rename_i hck
            split at hl
            · rename_i v hv
              obtain ⟨us, h1, h2⟩ := resA_sound hE h hv
              obtain ⟨O2, m1, m2, m3, m4, m5⟩ := Loc_mem (h.hs.ob i _ k1) k2 hg k3
              have hld : (do loadVar T (← asAddr (a.tmps.getD c undef)) : Sem Value).run E.P w = .ok (toV u (cellsAt w.heap b off u.size)) w := by
                rw [k4]; simp [asAddr, run_loadVar (chk_ok hE hck) m2]
              refine ⟨toV u (cellsAt w.heap b off u.size) :: us, ?_, ?_⟩
              · simp only [List.mapM_cons]
                rw [Sem.run_bind, hld]
                simp only [Result.andThen, Sem.run_bind, Sem.run_pure, h1]
              · split at hl
                · rename_i hs
                  cases hl
                  have := m2.nilO hs
                  subst this
                  exact ⟨_, us, rfl, ⟨_, rfl, m2⟩, h2⟩
                · cases hl
                  exact ⟨_, us, rfl, ⟨_, u, y, _, k1, k2, hg, .inl ⟨b, off, k3, rfl⟩, rfl⟩, h2⟩
            · cases hl
          · cases hl
        · cases hl
      · cases hl
    · cases hl

theorem results_run (hE : EnvOk E) (h : RS B S ι s a w) {fn : Func} (hres : fn.results.toList = E.res) {l : AV} (hl : resA E s E.res = some l) :
    ∃ us, (results fn a.tmps).run E.P w = .ok (retV us) w ∧ VX w.heap S ι s.hp l us := by
  obtain ⟨us, h1, h2⟩ := resA_sound hE h hl
  refine ⟨us, ?_, h2⟩
  rw [← hres] at h1
  have : (fn.results.mapM fun r => (match r with
      | .tmp t => pure (a.tmps.getD t undef)
      | .cell c t => do loadVar t (← asAddr (a.tmps.getD c undef)) : Sem Value)).run E.P w = .ok us.toArray w := by
    rw [Array.mapM_eq_mapM_toList, Sem.run_map, h1]; rfl
  simp only [results]
  rw [Sem.run_bind]
  refine (congrArg (fun r : Result (Array Value) => r.andThen fun vs w' => Sem.run E.P (pure (if h : vs.size = 1 then vs[0] else Value.tuple vs)) w') this).trans ?_
  simp only [Result.andThen, Sem.run_pure]
  match us with
  | [] => rfl
  | [v] => rfl
  | v :: v2 :: l => rfl

theorem sub_rep_nd {i : Nat} {e : Ent} (ho : OB H S ι i e) {p : List Step} (hok : okP e.ty e.x p) {u : Ty} {y : u.den} (hg : getP e.ty e.x p = some ⟨u, y⟩) {cs : List Value} (hc : Cells H ι i e p u cs) :
    ∃ O2, (∀ c ∈ O2, c ∈ ι.own i) ∧ Rep H S u O2 cs y ∧ O2.Nodup := by
  rcases hc with ⟨b, off, hl, rfl⟩ | ⟨t, x0, rfl, rfl, rfl⟩
  · cases e with
    | var t x =>
      obtain ⟨⟨O, hO, hR⟩, hf, hnd⟩ := ho
      obtain ⟨O1, O2, b', off', e1, e2, e3, e4, e5, e6⟩ := focus hR hf.blk hok hg
      have hl : Nav H t p (ι.root i).1 (ι.root i).2 = some (b, off) := hl
      rw [e3] at hl; cases hl
      exact ⟨O2, fun c hc => hO.mem_iff.1 (e1.mem_iff.2 (by simp [hc])), e4, (List.nodup_append.1 ((e1.nodup_iff).1 ((hO.nodup_iff).2 (List.nodup_cons.1 hnd).2))).2.1⟩
    | own t x =>
      obtain ⟨⟨O, hO, hR⟩, hnd⟩ := ho
      have hl : NavC H t (ι.cells i) p = some (b, off) := hl
      unfold NavC at hl
      split at hl
      · rename_i t' a len cap j q hcs _
        rcases hR with ⟨_, h, _⟩ | ⟨b1, o1, cap', O', c1, c2, c3, c4, c5, rfl, c6⟩
        · rw [hcs] at h; cases h
        · rw [hcs] at c1; cases c1
          obtain ⟨hi, hok⟩ := (show (0 ≤ j ∧ j < List.length x) ∧ okP t' (List.getD x j.toNat t'.dflt) q from hok)
          have hg : getP t' (List.getD x j.toNat t'.dflt) q = some ⟨u, y⟩ := hg
          obtain ⟨b1', b2, b3, b4⟩ := idx_bound (sz := t'.size) hi
          obtain ⟨P1, P2, P3, rfl, g1, g2, g3⟩ := RepL.split (d := t'.dflt) (i := j.toNat) b1' c5
          rw [cellsAt_drop, cellsAt_take _ _ _ _ (by omega)] at g2
          obtain ⟨O1, O2, b', off', e1, e2, e3, e4, e5, e6⟩ := focus g2 (by omega) hok hg
          rw [e3] at hl; cases hl
          have hnd' := (List.nodup_cons.1 ((hO.nodup_iff).2 hnd)).2
          have hnd2 : P2.Nodup := (List.nodup_append.1 (List.nodup_append.1 hnd').2.1).1
          refine ⟨O2, fun c hc => hO.mem_iff.1 ?_, e4, (List.nodup_append.1 ((e1.nodup_iff).1 hnd2)).2.1⟩
          have := e1.mem_iff.2 (List.mem_append_right O1 hc)
          simp [this]
      · cases hl
  · obtain ⟨⟨O, hO, hR⟩, hnd⟩ := ho
    have hg : getP t x0 [] = some ⟨u, y⟩ := hg
    have : (⟨t, x0⟩ : Sigma Ty.den) = ⟨u, y⟩ := by
      cases t with
      | slc o t => cases o <;> (simp only [getP, Option.some.injEq] at hg; exact hg)
      | _ => simp only [getP, Option.some.injEq] at hg; exact hg
    cases this
    exact ⟨O, fun c hc => hO.mem_iff.1 hc, hR, (hO.nodup_iff).2 hnd⟩

theorem as_rep' {v : AV} {t : Ty} {x : t.den} {val : Value} (h : v.as t = some x) (hv : VX H S ι hp v [val]) : ∃ cs, val = toV t cs ∧ Rep H S t [] cs x := as_rep h hv

/-- results of their types, each object going out once -/
theorem retA_sound (h : HS B S ι s.hp w) : ∀ {rs : List Ty} {used : List Nat} {l : AV} {y : DL rs} {us : List Value}, retA s rs used l = some y → VX w.heap S ι s.hp l us →
    ∃ O, ResRep w.heap S rs O us y ∧ O.Nodup ∧ ∀ b ∈ O, ∃ i e, i ∉ used ∧ look i s.hp = some e ∧ b ∈ blks ι i e
  | [], used, l, y, us, hr, hv => by
    cases l <;> simp only [retA] at hr <;> first | cases hr | skip
    exact ⟨[], ⟨rfl, hv⟩, List.nodup_nil, by simp⟩
  | t :: ts, used, l, y, us, hr, hv => by
    cases l <;> simp only [retA] at hr <;> first | cases hr | skip
    rename_i av bv
    obtain ⟨v, us', rfl, ha, hb⟩ := hv
    have plain : ∀ {x : t.den} {y' : DL ts}, av.as t = some x → retA s ts used bv = some y' → ∃ O, ResRep w.heap S (t :: ts) O (v :: us') (x, y') ∧ O.Nodup ∧ ∀ b ∈ O, ∃ i e, i ∉ used ∧ look i s.hp = some e ∧ b ∈ blks ι i e := by
      intro x y' h1 h2
      obtain ⟨cs, e, hR⟩ := as_rep h1 ha
      obtain ⟨O, k1, k2, k3⟩ := retA_sound h h2 hb
      exact ⟨O, ⟨v, us', [], O, cs, rfl, rfl, e, hR, k1⟩, k2, k3⟩
    have obj : ∀ {i : Nat} {e : Ent} {y' : DL ts}, av = .at_ i [] → used.contains i = false → s.obj i = some e → (hu : e.ty = t) → retA s ts (i :: used) bv = some y' → ∃ O, ResRep w.heap S (t :: ts) O (v :: us') (hu ▸ e.x, y') ∧ O.Nodup ∧ ∀ b ∈ O, ∃ i e, i ∉ used ∧ look i s.hp = some e ∧ b ∈ blks ι i e := by
      rintro i e y' rfl hused hob rfl h2
      obtain ⟨O, k1, k2, k3⟩ := retA_sound h h2 hb
      have hgx : getP e.ty e.x [] = some ⟨e.ty, e.x⟩ := by
        cases e with
        | var t x => cases t <;> first | rfl | (rename_i o _; cases o <;> rfl)
        | own t x => cases t <;> first | rfl | (rename_i o _; cases o <;> rfl)
      obtain ⟨e', u', y1, cs, q1, q2, q3, q4, q5⟩ := ha
      obtain rfl := ent_of q1 hob
      rw [hgx] at q3; cases q3
      obtain ⟨O1, m1, m2⟩ := sub_rep_nd (h.ob i e q1) q2 hgx q4
      refine ⟨O1 ++ O, ⟨v, us', O1, O, cs, rfl, rfl, by simpa using q5, m2.1, k1⟩, List.nodup_append.2 ⟨m2.2, k2, ?_⟩, ?_⟩
      · rintro c hc d hd rfl
        obtain ⟨j, ej, n1, n2, n3⟩ := k3 c hd
        have hij : i ≠ j := by rintro rfl; exact n1 (by simp)
        exact h.dj i j e ej q1 n2 hij c (own_blks (m1 c hc)) n3
      · intro c hc
        rcases List.mem_append.1 hc with hc | hc
        · exact ⟨i, e, by simpa using hused, q1, own_blks (m1 c hc)⟩
        · obtain ⟨j, ej, n1, n2, n3⟩ := k3 c hc
          exact ⟨j, ej, fun hj => n1 (by simp [hj]), n2, n3⟩
    split at hr
    · rename_i i
      split at hr
      · cases hr
      · rename_i hused
        split at hr
        · rename_i u x hob
          split at hr
          · rename_i hu
            split at hr
            · rename_i y' hy'
              cases hr
              exact obj rfl hused hob hu hy'
            · cases hr
          · cases hr
        · rename_i u x hob
          split at hr
          · rename_i hu
            split at hr
            · rename_i y' hy'
              cases hr
              exact obj rfl hused hob hu hy'
            · cases hr
          · cases hr
        · cases hr
    · split at hr
      · rename_i x y' h1 h2
        cases hr
        exact plain h1 h2
      · cases hr

end
end Go.Ex
