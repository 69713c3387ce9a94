import Derived.Test.YtibpibbnnogdkaaExSe
namespace Go.Ex

section
variable {E : Env} {B : Base} {S S' : Nat → Prop} {ι : Ix} {s : St} {a : Act} {w : World} {hp : List (Nat × Ent)} {H H' : Array Go.Obj}

/-- from here the function comes to its end, and R holds there -/
def At (P : Program) (fn : Func) (R : Ending → World → Prop) (k : List Item) (a : Act) (w : World) : Prop :=
  ∀ (b : Frame) (cs : List Frame), ∃ (e : Exit) (a' : Act) (w' : World), bodyPost P fn R e a' w' ∧ Arrives P (lone (b.at a k) cs w) b [] cs e a' w'

section at_
variable {P : Program} {fn : Func} {R : Ending → World → Prop} {k k' : List Item}

theorem At.step (hs : ∀ (b : Frame) (cs : List Frame), step P (lone (b.at a k) cs w) = .next (lone (b.at a k') cs w)) (h : At P fn R k' a w) : At P fn R k a w :=
  fun b cs => let ⟨e, a', w', q, r⟩ := h b cs; ⟨e, a', w', q, .of_steps (.one (hs b cs)) r⟩

theorem At.region {id : Nat} {ops : Array Oper} {d : Bool} (h : (Code.region id ops d).wp P (fun e a w => e = .normal ∧ At P fn R k a w) a w) : At P fn R (.code (.region id ops d) :: k) a w := by
  intro b cs
  obtain ⟨e, a', w', ⟨rfl, h2⟩, harr⟩ := h b k cs
  obtain ⟨e, a'', w'', q, r⟩ := h2 b cs
  exact ⟨e, a'', w'', q, .of_steps harr r⟩

theorem At.done (h : bodyPost P fn R .normal a w) : At P fn R [] a w := fun _ _ => ⟨.normal, a, w, h, Steps.refl _ _⟩
theorem At.ret (h : bodyPost P fn R .ret a w) : At P fn R (.code .ret :: k) a w := fun _ _ => ⟨.ret, a, w, h, _, .one step_ret⟩

theorem calls_of_at {f : FuncId} {c : Code} {args : Array Value} (hf : P.funcs[f]? = some fn) (hb : fn.body = some c)
    (h : At P fn R [.code c] { tmps := args ++ Array.replicate (fn.ntmps - args.size) undef, defers := [] } w) : Calls P f args w R := by
  intro cs
  let b : Frame := { (default : Frame) with fn := f, kind := .normal }
  have henter : Frame.enter P f args .normal = b.at { tmps := args ++ Array.replicate (fn.ntmps - args.size) undef, defers := [] } [.code c] := by
    simp [Frame.enter, Frame.at, hf, hb, b]
  obtain ⟨e, a', w', hq, harr⟩ := h b cs
  rw [← henter] at harr
  cases e with
  | normal =>
    obtain ⟨hd, v, hr, hR⟩ := hq
    exact ⟨.returned v, w', _, hR, Steps.trans harr (.one step_end), rfl, rfl, hd, rfl, fn, hf, hr⟩
  | ret =>
    obtain ⟨hd, v, hr, hR⟩ := hq
    obtain ⟨todo, hs⟩ := harr
    exact ⟨.returned v, w', _, hR, hs, rfl, rfl, hd, rfl, fn, hf, hr⟩
  | panic chain =>
    obtain ⟨hd, hR⟩ := hq
    obtain ⟨todo, hs⟩ := harr
    exact ⟨.panicked chain, w', _, hR, hs, rfl, rfl, hd, fn, hf⟩
  | exit id => exact hq.elim
  | goto l => exact hq.elim
  | outgrown => exact ⟨.outgrown, w', b, hq, harr.resolve_left (by simp [b]), rfl, trivial⟩
end at_

/-! ### what is kept at a cut -/
theorem RS.dropAll (live : List Nat) (s0 : St) : ∀ {l : List (Nat × Ent)} {s : St}, RS B S ι s a w → RS B S ι (dropAll live s0 l s) a w
  | [], _, h => h
  | (i, _) :: l, s, h => by
    simp only [Ex.dropAll]
    split
    · exact RS.dropAll live s0 h
    · rename_i hp
      simp only [Bool.or_eq_false_iff] at hp
      exact RS.dropAll live s0 (h.drop hp.1)

/-- a slot, spoken of otherwise -/
theorem RS.slot (h : RS B S ι s a w) {m : Nat} {v : AV} (hv : VX w.heap S ι s.hp v [a.tmps.getD m undef]) : RS B S ι { s with fr := Ex.put m v s.fr } a w := by
  refine ⟨h.hs, h.dfr, h.sz, fun t u hu => ?_⟩
  simp only [look_put] at hu
  split at hu
  · rename_i e; subst e; cases hu; exact hv
  · exact h.fr t u hu

/-- a value of the call's own, laid at a name of its own; the slot that held it speaks of it -/
theorem RS.lodge (h : RS B S ι s a w) {m d : Nat} (hf : s.fresh d = true) {t : Ty} {x : t.den} {O : List Nat} {cs : List Value} (hv : a.tmps.getD m undef = toV t cs) (hR : Rep w.heap S t O cs x) (hF : Flt B S ι s.hp w O) :
    ∃ ι', RS B S ι' { s.putE d (.own t x) with fr := Ex.put m (.at_ d []) s.fr } a w :=
  ⟨_, (h.hold hf hR hF).slot (m := m) (v := .at_ d []) (by rw [hv]; exact at_new hR.length)⟩

/-- two numbers that say the same of two objects -/
def SameAs (ι ι' : Ix) (i j : Nat) : Prop := ι'.root j = ι.root i ∧ ι'.cells j = ι.cells i ∧ ι'.own j = ι.own i

theorem SameAs.place {ι' : Ix} {i j : Nat} (h : SameAs ι ι' i j) {H : Array Go.Obj} {e : Ent} {p : List Step} : Place H ι' j e p = Place H ι i e p := by
  obtain ⟨h1, h2, h3⟩ := h
  cases e <;> simp only [Place, VH, VR, h1, h2]
theorem SameAs.loc {ι' : Ix} {i j : Nat} (h : SameAs ι ι' i j) {H : Array Go.Obj} {e : Ent} {p : List Step} : Loc H ι' j e p = Loc H ι i e p := by
  simp only [Loc, h.place]
theorem SameAs.cells_ {ι' : Ix} {i j : Nat} (h : SameAs ι ι' i j) {H : Array Go.Obj} {e : Ent} {p : List Step} {u : Ty} {cs : List Value} : Cells H ι' j e p u cs ↔ Cells H ι i e p u cs := by
  have hv : VH H ι' j e = VH H ι i e := by obtain ⟨h1, h2, h3⟩ := h; cases e <;> simp only [VH, h2]
  simp only [Cells, h.place, hv]

/-- an object under another name -/
theorem RS.ren (h : RS B S ι s a w) {i j : Nat} (hi : pinned i = false) {u : Ty} {x : u.den} (h1 : look i s.hp = some (.own u x)) (hf : s.fresh j = true) :
    ∃ ι', RS B S ι' { fr := mapA (AV.ren i j) s.fr, hp := Ex.put j (.own u x) (del i s.hp) } a w := by
  obtain ⟨f1, f2⟩ := fresh_inv hf
  have hij : i ≠ j := by rintro rfl; rw [f1] at h1; cases h1
  let ι' : Ix := { root := fun k => if k = j then ι.root i else ι.root k, cells := fun k => if k = j then ι.cells i else ι.cells k, own := fun k => if k = j then ι.own i else ι.own k }
  have hsj : SameAs ι ι' i j := ⟨by simp [ι'], by simp [ι'], by simp [ι']⟩
  have hsk : ∀ k, k ≠ j → SameAt ι ι' k := fun k hk => ⟨by simp [ι', hk], by simp [ι', hk], by simp [ι', hk]⟩
  have hF : Flt B S ι (St.drops [i] s).hp w (ι.own i) := by
    obtain ⟨⟨O, hO, hR⟩, hnd⟩ := (h.hs.ob i _ h1 : OB w.heap S ι i (.own u x))
    exact Flt.drops h.hs hnd (fun b hb => ⟨i, _, by simp, h1, hb⟩)
  have hob : OB w.heap S ι' j (.own u x) := by
    obtain ⟨⟨O, hO, hR⟩, hnd⟩ := (h.hs.ob i _ h1 : OB w.heap S ι i (.own u x))
    obtain ⟨e1, e2, e3⟩ := hsj
    exact ⟨⟨O, by rw [e3]; exact hO, by rw [e2]; exact hR⟩, by rw [e3]; exact hnd⟩
  have hd := h.hs.drop hi
  refine ⟨ι', ⟨hd.add (d := j) (e := .own u x) (ι' := ι') (O := ι.own i) ?_ hsk hob ?_ hF, h.dfr, h.sz, ?_⟩⟩
  · rw [look_del]; split <;> first | rfl | exact f1
  · intro b hb
    have : ι'.own j = ι.own i := hsj.2.2
    show b ∈ ι.own i
    rw [← this]; exact hb
  · intro t v hv
    simp only [look_mapA, Option.map_eq_some_iff] at hv
    obtain ⟨v0, hv0, rfl⟩ := hv
    have hvj := f2 t v0 hv0
    refine VX.map (fun _ _ => rfl) (fun _ h => h) (fun q vs hq hm hv => ?_) (h.fr t v0 hv0)
    have hlk : ∀ k, q.ment k = true → k ≠ i → look k (Ex.put j (.own u x) (del i s.hp)) = look k s.hp := by
      intro k hk hki
      have hkj : k ≠ j := by rintro rfl; rw [hm k hk] at hvj; cases hvj
      rw [look_put, if_neg hkj, look_del, if_neg hki]
    have hlj : look j (Ex.put j (Ent.own u x) (del i s.hp)) = some (.own u x) := by rw [look_put, if_pos rfl]
    dsimp only
    split
    · rename_i hmi
      refine VX.other (fun k hk => hlk k hk ?_) (fun k hk => hsk k ?_) hv
      · rintro rfl; rw [hk] at hmi; cases hmi
      · rintro rfl; rw [hm k hk] at hvj; cases hvj
    · rename_i hmi
      split
      · rename_i k p
        have := Nat.eq_of_beq_eq_true hmi
        subst this
        obtain ⟨e, b, off, k1, k2, k3, k4⟩ := hv
        rw [h1] at k1; cases k1
        exact ⟨_, b, off, hlj, k2, hsj.loc.trans k3, k4⟩
      · rename_i k p
        have := Nat.eq_of_beq_eq_true hmi
        subst this
        obtain ⟨e, u', y, cs, k1, k2, k3, k4, k5⟩ := hv
        rw [h1] at k1; cases k1
        exact ⟨_, u', y, cs, hlj, k2, k3, hsj.cells_.2 k4, k5⟩
      · rename_i k p lo hi'
        have := Nat.eq_of_beq_eq_true hmi
        subst this
        obtain ⟨e, v, k1, k2, k3, k4, k5, k6⟩ := hv
        rw [h1] at k1; cases k1
        refine ⟨_, v, hlj, k2, k3, k4, k5, ?_⟩
        rcases k6 with ⟨t', l, A, cap, q1, q2, q3, q4⟩ | ⟨n, t', l, b, off, q1, q2, q3, q4⟩
        · exact .inl ⟨t', l, A, cap, q1, q2, hsj.cells_.2 q3, q4⟩
        · exact .inr ⟨n, t', l, b, off, q1, q2, hsj.loc.trans q3, q4⟩
      · obtain ⟨y, e⟩ := VX.one hq hv
        exact ⟨y, e⟩

theorem RS.settle (h : RS B S ι s a w) (m : Nat) (t : Ty) : ∃ ι', RS B S ι' (settle m t s) a w := by
  have hg := h.get m
  unfold Ex.settle
  split
  · rename_i hm
    rw [hm] at hg
    have hv : a.tmps.getD m undef = Value.slice none 0 0 := by
      have : [a.tmps.getD m undef] = [Value.slice none 0 0] := hg
      simpa using this
    split
    · rename_i u hf
      exact h.lodge hf (t := .slc true u) (x := ([] : List u.den)) (O := []) (cs := [.slice none 0 0]) hv (.inl ⟨rfl, ⟨none, 0, rfl, fun _ => rfl⟩, rfl⟩) Flt.nil
    · exact ⟨ι, h⟩
  · rename_i i hm
    split
    · rename_i u x hob
      split
      · exact ⟨ι, h⟩
      · rename_i hc
        simp only [Bool.or_eq_false_iff, Bool.not_eq_false'] at hc
        exact h.ren hc.1 hob hc.2
    · exact ⟨ι, h⟩
  · rename_i i lo hi hm
    rw [hm] at hg
    split
    · rename_i u x g hgv
      split
      · exact ⟨ι, h⟩
      · rename_i hc
        simp only [Bool.or_eq_false_iff, Bool.not_eq_false'] at hc
        obtain ⟨O, cs, k1, k2, k3, k4⟩ := give_rep h.hs hgv hg
        have hgi : g = [i] := by
          simp only [AV.give] at hgv
          split at hgv <;> cases hgv
          rfl
        subst hgi
        exact (h.drop hc.1).lodge hc.2 k1 k2 (Flt.drops h.hs k3 k4)
    · exact ⟨ι, h⟩
  · rename_i u x hm
    rw [hm] at hg
    split
    · rename_i hc
      simp only [Bool.and_eq_true] at hc
      obtain ⟨cs, e, hR⟩ := hg
      exact h.lodge hc.2 (by simpa using e) hR Flt.nil
    · exact ⟨ι, h⟩
  · exact ⟨ι, h⟩

theorem RS.settles : ∀ {l : List (Nat × Option Ty)} {ι : Ix} {s : St}, RS B S ι s a w → ∃ ι', RS B S ι' (settles l s) a w
  | [], ι, s, h => ⟨ι, h⟩
  | (_, none) :: l, ι, s, h => RS.settles (l := l) h
  | (m, some t) :: l, ι, s, h => by
    obtain ⟨ι', h'⟩ := h.settle m t
    exact RS.settles (l := l) h'

theorem RS.canon (h : RS B S ι s a w) (x : List (Nat × Option Ty)) : ∃ ι', RS B S ι' (canon x s) a w := by
  have h1 : RS B S ι (Ex.dropAll (x.map (·.1)) s s.hp s) a w := RS.dropAll (x.map (·.1)) s h
  obtain ⟨ι', h2⟩ := RS.settles (l := x) h1
  have h3 := RS.dropAll (x.map (·.1)) (Ex.settles x (Ex.dropAll (x.map (·.1)) s s.hp s)) (l := (Ex.settles x (Ex.dropAll (x.map (·.1)) s s.hp s)).hp) h2
  refine ⟨ι', h3.hs, h3.dfr, h3.sz, ?_⟩
  intro t v hv
  simp only [Ex.canon] at hv
  generalize hs : Ex.dropAll (x.map (·.1)) (Ex.settles x (Ex.dropAll (x.map (·.1)) s s.hp s)) (Ex.settles x (Ex.dropAll (x.map (·.1)) s s.hp s)).hp (Ex.settles x (Ex.dropAll (x.map (·.1)) s s.hp s)) = s1 at hv h3
  have : v = s1.get t := by
    generalize x.map (·.1) = ts at hv
    clear h3 hs
    revert hv
    induction ts with
    | nil => intro hv; cases hv
    | cons t' l ih =>
      intro hv
      simp only [List.map_cons, look] at hv
      cases hb : Nat.beq t t' with
      | true =>
        rw [hb] at hv
        have := Nat.eq_of_beq_eq_true hb
        subst this
        cases hv; rfl
      | false => rw [hb] at hv; exact ih hv
  rw [this]
  have := h3.get t
  simp only [Ex.canon, hs]
  exact this

/-! ### results -/
theorem resA_sound (hE : EnvOk E) (h : RS B S ι s a w) : ∀ {rs : List ResultVar} {l : AV}, resA E s rs = some l →
    ∃ us, (rs.mapM fun r => (match r with
      | .tmp t => pure (a.tmps.getD t undef)
      | .cell c t => do loadVar t (← asAddr (a.tmps.getD c undef)) : Sem Value)).run E.P w = .ok us w ∧ VX w.heap S ι s.hp l us
  | [], l, hl => by
    simp only [resA, Option.some.injEq] at hl
    subst hl
    exact ⟨[], rfl, rfl⟩
  | .tmp t :: rs, l, hl => by
    simp only [resA] at hl
    split at hl
    · rename_i v hv
      cases hl
      obtain ⟨us, h1, h2⟩ := resA_sound hE h hv
      exact ⟨a.tmps.getD t undef :: us, by simp only [List.mapM_cons, Sem.run_bind, Sem.run_pure, Result.andThen, h1], _, us, rfl, h.get t, h2⟩
    · cases hl
  | .cell c T :: rs, l, hl => by
    simp only [resA] at hl
    split at hl
    · rename_i i p hc
      have hv := h.get c
      rw [hc] at hv
      obtain ⟨e, b, off, k1, k2, k3, k4⟩ := hv
      have k4 : a.tmps.getD c undef = .pointer (some ⟨b, off, none⟩) := by simpa using k4
      split at hl
      · rename_i u y hpt
        have hg := part_of k1 hpt
        split at hl
        · rename_i hck
          split at hl
          · rename_i v hv
            obtain ⟨us, h1, h2⟩ := resA_sound hE h hv
            obtain ⟨O2, m1, mn, m2, m3, m4, m5⟩ := Loc_mem (Loc_bag k3) (h.hs.ob i _ k1) h.hs.slt k2 hg k3
            have hld : (do loadVar T (← asAddr (a.tmps.getD c undef)) : Sem Value).run E.P w = .ok (toV u (cellsAt w.heap b off u.size)) w := by
              rw [k4]; simp [asAddr, run_loadVar (chk_ok hE hck) m2]
            refine ⟨toV u (cellsAt w.heap b off u.size) :: us, ?_, ?_⟩
            · simp only [List.mapM_cons]
              rw [Sem.run_bind, hld]
              simp only [Result.andThen, Sem.run_bind, Sem.run_pure, h1]
            · split at hl
              · rename_i hs
                cases hl
                have := m2.nilO hs
                subst this
                exact ⟨_, us, rfl, ⟨_, rfl, m2⟩, h2⟩
              · cases hl
                obtain ⟨r3, r4⟩ := Loc_place k3
                exact ⟨_, us, rfl, ⟨_, u, y, _, k1, k2, hg, ⟨b, off, r3, by rw [cellsAt_congr (VH_old r4)]⟩, rfl⟩, h2⟩
          · cases hl
        · cases hl
      · cases hl
    · cases hl

theorem results_run (hE : EnvOk E) (h : RS B S ι s a w) {fn : Func} (hres : fn.results.toList = E.res) {l : AV} (hl : resA E s E.res = some l) :
    ∃ us, (results fn a.tmps).run E.P w = .ok (retV us) w ∧ VX w.heap S ι s.hp l us := by
  obtain ⟨us, h1, h2⟩ := resA_sound hE h hl
  refine ⟨us, ?_, h2⟩
  rw [← hres] at h1
  have : (fn.results.mapM fun r => (match r with
      | .tmp t => pure (a.tmps.getD t undef)
      | .cell c t => do loadVar t (← asAddr (a.tmps.getD c undef)) : Sem Value)).run E.P w = .ok us.toArray w := by
    rw [Array.mapM_eq_mapM_toList, Sem.run_map, h1]; rfl
  simp only [results]
  rw [Sem.run_bind]
  refine (congrArg (fun r : Result (Array Value) => r.andThen fun vs w' => Sem.run E.P (pure (if h : vs.size = 1 then vs[0] else Value.tuple vs)) w') this).trans ?_
  simp only [Result.andThen, Sem.run_pure]
  match us with
  | [] => rfl
  | [v] => rfl
  | v :: v2 :: l => rfl

/-- one result -/
theorem retOne_rep (h : HS B S ι s.hp w) {t : Ty} {used used' : List Nat} {av : AV} {x : t.den} {v : Value} (hr : retOne s t used av = some (x, used')) (hv : VX w.heap S ι s.hp av [v]) :
    ∃ O cs, v = toV t cs ∧ Rep w.heap S t O cs x ∧ O.Nodup ∧ (∀ b ∈ O, ∃ i e, i ∈ used' ∧ i ∉ used ∧ pinned i = false ∧ look i s.hp = some e ∧ b ∈ blks ι i e) ∧ ∀ i ∈ used, i ∈ used' := by
  unfold retOne at hr
  split at hr
  · rename_i i
    split at hr
    · cases hr
    · rename_i hc
      simp only [Bool.or_eq_false_iff] at hc
      obtain ⟨hc1, hc2⟩ := hc
      have hnu : i ∉ used := by intro hm; simp [hm] at hc1
      obtain ⟨e, u, y, cs, h1, h2, h3, h4, h5⟩ := hv
      have key : ∀ {e0 : Ent}, s.obj i = some e0 → (hu : e0.ty = t) → ∀ {x}, x = castD hu e0.x → ∃ O cs, v = toV t cs ∧ Rep w.heap S t O cs x ∧ O.Nodup ∧ (∀ b ∈ O, ∃ j e, j ∈ i :: used ∧ j ∉ used ∧ pinned j = false ∧ look j s.hp = some e ∧ b ∈ blks ι j e) ∧ ∀ j ∈ used, j ∈ i :: used := by
        rintro e0 hob rfl x rfl
        obtain rfl := ent_of h1 hob
        rw [getP_nil] at h3; cases h3
        obtain ⟨O2, m1, m2, m3⟩ := sub_rep h h1 h2 getP_nil h4
        exact ⟨O2, cs, by simpa using h5, m3, m2, fun b hb => ⟨i, _, by simp, hnu, hc2, h1, own_blks (m1 b hb)⟩, fun j hj => by simp [hj]⟩
      split at hr
      · rename_i u' x' hob
        split at hr
        · rename_i hu; cases hr; exact key (e0 := .var u' x') hob hu rfl
        · cases hr
      · rename_i u' x' hob
        split at hr
        · rename_i hu; cases hr; exact key (e0 := .own u' x') hob hu rfl
        · cases hr
      · cases hr
  · rename_i i lo hi
    split at hr
    · cases hr
    · rename_i hc
      simp only [Bool.or_eq_false_iff] at hc
      obtain ⟨hc1, hc2⟩ := hc
      have hnu : i ∉ used := by intro hm; simp [hm] at hc1
      split at hr
      · rename_i u x' g hgv
        split at hr
        · rename_i hu
          cases hr
          subst hu
          obtain ⟨O, cs, k1, k2, k3, k4⟩ := give_rep h hgv hv
          have hgi : g = [i] := by
            simp only [AV.give] at hgv
            split at hgv <;> cases hgv
            rfl
          subst hgi
          refine ⟨O, cs, k1, k2, k3, fun b hb => ?_, fun j hj => by simp [hj]⟩
          obtain ⟨j, e, j1, j2, j3⟩ := k4 b hb
          simp only [List.mem_cons, List.not_mem_nil, or_false] at j1
          subst j1
          exact ⟨j, e, by simp, hnu, hc2, j2, j3⟩
        · cases hr
      · cases hr
  · split at hr
    · rename_i x' hx
      cases hr
      obtain ⟨cs, e, hR⟩ := as_rep hx hv
      exact ⟨[], cs, e, hR, List.nodup_nil, by simp, fun _ h => h⟩
    · cases hr

/-- results of their types, each object going out once -/
theorem retA_sound (h : HS B S ι s.hp w) : ∀ {rs : List Ty} {used : List Nat} {l : AV} {y : DL rs} {us : List Value}, retA s rs used l = some y → VX w.heap S ι s.hp l us →
    ∃ O, ResRep w.heap S rs O us y ∧ O.Nodup ∧ ∀ b ∈ O, ∃ i e, i ∉ used ∧ pinned i = false ∧ look i s.hp = some e ∧ b ∈ blks ι i e
  | [], used, l, y, us, hr, hv => by
    cases l <;> simp only [retA] at hr <;> first | cases hr | skip
    exact ⟨[], ⟨rfl, hv⟩, List.nodup_nil, by simp⟩
  | t :: ts, used, l, y, us, hr, hv => by
    cases l <;> simp only [retA] at hr <;> first | cases hr | skip
    rename_i av bv
    obtain ⟨v, us', rfl, ha, hb⟩ := hv
    split at hr
    · rename_i x used' h1
      split at hr
      · rename_i y' h2
        cases hr
        obtain ⟨O1, cs, k1, k2, k3, k4, k5⟩ := retOne_rep h h1 ha
        obtain ⟨O2, m1, m2, m3⟩ := retA_sound h h2 hb
        refine ⟨O1 ++ O2, ⟨v, us', O1, O2, cs, rfl, rfl, k1, k2, m1⟩, List.nodup_append.2 ⟨k3, m2, ?_⟩, ?_⟩
        · rintro c hc d hd rfl
          obtain ⟨i, e, i1, _, _, i2, i3⟩ := k4 c hc
          obtain ⟨j, e', j1, _, j2, j3⟩ := m3 c hd
          exact h.dj i j e e' i2 j2 (by rintro rfl; exact j1 i1) c i3 j3
        · intro c hc
          rcases List.mem_append.1 hc with hc | hc
          · obtain ⟨i, e, _, i1, i4, i2, i3⟩ := k4 c hc
            exact ⟨i, e, i1, i4, i2, i3⟩
          · obtain ⟨j, e', j1, j4, j2, j3⟩ := m3 c hc
            exact ⟨j, e', fun hj => j1 (k5 j hj), j4, j2, j3⟩
      · cases hr
    · cases hr

/-- the objects that parameters brought in to be written, and where they stay -/
def pinsOf : (ks : List PK) → List Value → Nat → List (Nat × (Nat × Nat) × List Value)
  | .rw _ :: ks, v :: vs, i => (match v with
    | .pointer (some a) => (2000000 + i, (a.block, a.off), [])
    | _ => (2000000 + i, (0, 0), [])) :: pinsOf ks vs (i + 1)
  | .mu _ :: ks, v :: vs, i => (2000000 + i, (0, 0), [v]) :: pinsOf ks vs (i + 1)
  | _ :: ks, _ :: vs, i => pinsOf ks vs (i + 1)
  | _, _, _ => []

theorem outA_sound (h : HS B S ι s.hp w) {H0 : Array Go.Obj} {S0 : Nat → Prop} : ∀ {ks : List PK} {vs : List Value} {x : DK ks} {L0 : List Nat} {j : Nat} {z : DL (wts ks)}, KsRep H0 S0 ks vs x L0 → (∀ q ∈ pinsOf ks vs j, q ∈ B.pins) → outA s ks j = some z →
    ∃ Lo, OutRep w.heap S ks vs z Lo ∧ Lo.Nodup ∧ ∀ b ∈ Lo, ∃ i e, 2000000 + j ≤ i ∧ look i s.hp = some e ∧ b ∈ blks ι i e
  | [], vs, x, L0, j, z, hK, _, hz => ⟨[], ⟨hK.1, rfl⟩, List.nodup_nil, by simp⟩
  | k :: ks, vs, x, L0, j, z, ⟨v, us, L1, L2, e1, e2, hk, hK⟩, hp, hz => by
    subst e1 e2
    have plain : ∀ {z' : DL (wts ks)}, (∀ q ∈ pinsOf ks us (j + 1), q ∈ B.pins) → outA s ks (j + 1) = some z' → ∃ Lo, OutRep w.heap S ks us z' Lo ∧ Lo.Nodup ∧ ∀ b ∈ Lo, ∃ i e, 2000000 + j ≤ i ∧ look i s.hp = some e ∧ b ∈ blks ι i e := by
      intro z' hp hz
      obtain ⟨Lo, k1, k2, k3⟩ := outA_sound h hK hp hz
      exact ⟨Lo, k1, k2, fun b hb => by obtain ⟨i, e, i1, i2, i3⟩ := k3 b hb; exact ⟨i, e, by omega, i2, i3⟩⟩
    have join : ∀ {L1 Lo : List Nat} {e0 : Ent}, look (2000000 + j) s.hp = some e0 → L1.Nodup → (∀ b ∈ L1, b ∈ blks ι (2000000 + j) e0) → Lo.Nodup → (∀ b ∈ Lo, ∃ i e, 2000000 + (j + 1) ≤ i ∧ look i s.hp = some e ∧ b ∈ blks ι i e) →
        (L1 ++ Lo).Nodup ∧ ∀ b ∈ L1 ++ Lo, ∃ i e, 2000000 + j ≤ i ∧ look i s.hp = some e ∧ b ∈ blks ι i e := by
      intro L1 Lo e0 h1 n1 m1 n2 m2
      refine ⟨List.nodup_append.2 ⟨n1, n2, ?_⟩, ?_⟩
      · rintro c hc d hd rfl
        obtain ⟨i, e, i1, i2, i3⟩ := m2 c hd
        exact h.dj (2000000 + j) i e0 e h1 i2 (by omega) c (m1 c hc) i3
      · intro b hb
        rcases List.mem_append.1 hb with hb | hb
        · exact ⟨_, e0, Nat.le_refl _, h1, m1 b hb⟩
        · obtain ⟨i, e, i1, i2, i3⟩ := m2 b hb; exact ⟨i, e, by omega, i2, i3⟩
    cases k with
    | v t => obtain ⟨Lo, k1, k2⟩ := plain hp hz; exact ⟨Lo, ⟨v, us, rfl, k1⟩, k2⟩
    | rd t => obtain ⟨Lo, k1, k2⟩ := plain hp hz; exact ⟨Lo, ⟨v, us, rfl, k1⟩, k2⟩
    | clo f ts => obtain ⟨Lo, k1, k2⟩ := plain hp hz; exact ⟨Lo, ⟨v, us, rfl, k1⟩, k2⟩
    | own t => obtain ⟨Lo, k1, k2⟩ := plain hp hz; exact ⟨Lo, ⟨v, us, rfl, k1⟩, k2⟩
    | rw t =>
      obtain ⟨b0, off0, O0, rfl, _, _, _⟩ := hk
      simp only [outA] at hz
      split at hz
      · rename_i u x' y' hob hz'
        split at hz
        · rename_i hu
          cases hz
          subst hu
          have hob : look (2000000 + j) s.hp = some (.var u x') := hob
          obtain ⟨Lo, k1, k2, k3⟩ := outA_sound h hK (fun q hq => hp q (by simp only [pinsOf]; exact List.mem_cons_of_mem _ hq)) hz'
          obtain ⟨_, _, p3, p4⟩ := h.pin (2000000 + j, (b0, off0), []) (hp _ (by simp [pinsOf]))
          have p3 : ι.root (2000000 + j) = (b0, off0) := p3
          obtain ⟨⟨O, hO, hR⟩, hfr, hnd⟩ := (h.ob _ _ hob : OB w.heap S ι (2000000 + j) (.var u x'))
          rw [p3] at hR hfr hnd
          have hnd' : (b0 :: O).Nodup := List.nodup_cons.2 ⟨fun hb => (List.nodup_cons.1 hnd).1 (hO.mem_iff.1 hb), hO.nodup_iff.2 (List.nodup_cons.1 hnd).2⟩
          obtain ⟨j1, j2⟩ := join hob hnd' (fun b hb => by
            rcases List.mem_cons.1 hb with rfl | hb
            · simp [blks, p3]
            · simp [blks, hO.mem_iff.1 hb]) k2 k3
          exact ⟨(b0 :: O) ++ Lo, ⟨b0, off0, O, us, Lo, rfl, hR, hfr, rfl, k1⟩, j1, j2⟩
        · cases hz
      · cases hz
    | mu t =>
      obtain ⟨cs0, rfl, hR0⟩ := hk
      simp only [outA] at hz
      split at hz
      · rename_i u x' y' hob hz'
        split at hz
        · rename_i hu
          cases hz
          subst hu
          have hob : look (2000000 + j) s.hp = some (.own (.slc true t) x') := hob
          obtain ⟨Lo, k1, k2, k3⟩ := outA_sound h hK (fun q hq => hp q (by simp only [pinsOf]; exact List.mem_cons_of_mem _ hq)) hz'
          obtain ⟨_, _, p3, p4⟩ := h.pin (2000000 + j, (0, 0), [toV (.slc true t) cs0]) (hp _ (by simp [pinsOf]))
          have p4 : ι.cells (2000000 + j) = [toV (.slc true t) cs0] := p4
          obtain ⟨⟨O, hO, hR⟩, hnd⟩ := (h.ob _ _ hob : OB w.heap S ι (2000000 + j) (.own (.slc true t) x'))
          rw [p4] at hR
          obtain ⟨j1, j2⟩ := join hob (hO.nodup_iff.2 hnd) (fun b hb => hO.mem_iff.1 hb) k2 k3
          exact ⟨O ++ Lo, ⟨[toV (.slc true t) cs0], O, us, Lo, rfl, rfl, hR, rfl, k1⟩, j1, j2⟩
        · cases hz
      · cases hz

end
end Go.Ex
