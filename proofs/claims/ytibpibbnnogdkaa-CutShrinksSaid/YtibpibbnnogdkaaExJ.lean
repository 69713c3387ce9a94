import Derived.Test.YtibpibbnnogdkaaExI
namespace Go.Ex

section
variable {E : Env} {B : Base} {S : Nat → Prop} {ι : Ix} {s : St} {a : Act} {w : World} {hp : List (Nat × Ent)} {H H' : Array Go.Obj}

theorem getset_sh : ∀ {t : Ty} {x : t.den} {p : List Step} {u : Ty} {y : u.den} {u' : Ty} {z : u'.den} {r : Sigma Ty.den}, getP t x p = some ⟨u, y⟩ → setP t x p u' z = some r → u'.sh = u.sh := by
  intro t
  induction t with
  | pair a c iha ihc =>
    intro x p u y u' z r hg hs
    match p, hg, hs with
    | [], hg, hs =>
      simp only [getP, Option.some.injEq] at hg; cases hg
      simp only [setP] at hs
      split at hs
      · rename_i e; exact e
      · cases hs
    | .fld 0 :: p, hg, hs =>
      simp only [setP] at hs
      split at hs
      · rename_i t' w hw; exact iha hg hw
      · cases hs
    | .fld (n + 1) :: p, hg, hs =>
      simp only [setP] at hs
      split at hs
      · rename_i t' w hw; exact ihc hg hw
      · cases hs
    | .idx i :: p, _, hs => simp [setP] at hs
  | arr n t ih =>
    intro x p u y u' z r hg hs
    match p, hg, hs with
    | [], hg, hs =>
      simp only [getP, Option.some.injEq] at hg; cases hg
      simp only [setP] at hs
      split at hs
      · rename_i e; exact e
      · cases hs
    | .idx i :: p, hg, hs =>
      simp only [setP] at hs
      split at hs
      · rename_i t' w hw; exact ih hg hw
      · cases hs
    | .fld i :: p, _, hs => simp [setP] at hs
  | slc o t ih =>
    intro x p u y u' z r hg hs
    match p, hg, hs with
    | [], hg, hs =>
      have hg : some (⟨.slc o t, x⟩ : Sigma Ty.den) = some ⟨u, y⟩ := by cases o <;> exact hg
      cases hg
      have hs : (if u'.sh = (Ty.slc o t).sh then some (⟨u', z⟩ : Sigma Ty.den) else none) = some r := by cases o <;> exact hs
      split at hs
      · rename_i e; exact e
      · cases hs
    | .idx i :: p, hg, hs =>
      cases o with
      | false => simp [setP] at hs
      | true =>
        simp only [setP] at hs
        split at hs
        · rename_i t' w hw; exact ih hg hw
        · cases hs
    | .fld i :: p, _, hs => cases o <;> simp [setP] at hs
  | _ =>
    intro x p u y u' z r hg hs
    match p, hg, hs with
    | [], hg, hs =>
      simp only [getP, Option.some.injEq] at hg; cases hg
      simp only [setP] at hs
      split at hs
      · rename_i e; exact e
      · cases hs
    | .idx i :: p, _, hs => simp [setP] at hs
    | .fld i :: p, _, hs => simp [setP] at hs


theorem getset_ty {t : Ty} {x : t.den} {p : List Step} {u : Ty} {y : u.den} {u' : Ty} {z : u'.den} {r : Sigma Ty.den} (h1 : getP t x p = some ⟨u, y⟩) (h2 : setP t x p u' z = some r) : u'.sh = u.sh := getset_sh h1 h2

/-- a store: what goes over floats -/
theorem RS.store (h : RS B S ι s a w) {i : Nat} {e : Ent} (he : look i s.hp = some e) {p : List Step} (hok : okP e.ty e.x p) {u : Ty} {y : u.den} (hg : getP e.ty e.x p = some ⟨u, y⟩) {b off : Nat} (hl : Loc w.heap ι i e p = some (b, off))
    {u' : Ty} {z : u'.den} {cs : List Value} {O2 : List Nat} (hz : ∀ H', H'.size = w.heap.size → Chg w.heap H' b off u.size → Rep H' S u' O2 cs z) (hcs : cs.length = u.size) (hnd2 : O2.Nodup)
    (hO2 : ∀ c ∈ O2, (¬ S c ∧ (B.w0.heap.size ≤ c ∨ B.M c) ∧ c < w.heap.size) ∧ (∀ j ej, j ≠ i → look j s.hp = some ej → c ∉ blks ι j ej) ∧ (c ∈ blks ι i e → ∃ Op, Rep w.heap S u Op (cellsAt w.heap b off u.size) y ∧ c ∈ Op))
    {r : Sigma Ty.den} (hset : setP e.ty e.x p u' z = some r) (hty : e.isOwn = true → p ≠ [] → r.1 = e.ty) :
    ∃ ι', RS B S ι' ((s.kill i e.kd p).putE i (e.upd r)) a (w.setRow b (over (blk w.heap b) off cs).toArray) := by
  have hnb := Loc_bag hl
  obtain ⟨Op, m1, mn, m2, m3, m4, m5⟩ := Loc_mem hnb (h.hs.ob i e he) h.hs.slt hok hg hl
  have hf : Free w.heap b (off + cs.length) := by rw [hcs]; exact m5
  obtain ⟨hc, hcell⟩ := store_chg hf
  rw [hcs] at hc hcell
  have hsz : (w.setRow b (over (blk w.heap b) off cs).toArray).heap.size = w.heap.size := setRow_size
  generalize hw' : w.setRow b (over (blk w.heap b) off cs).toArray = w' at *
  have hbl := h.hs.bl i e he
  have hbl' : ∀ c ∈ blks ι i e, ¬ S c ∧ c < w.heap.size := fun c hc => ⟨(hbl c hc).1, (hbl c hc).2.2⟩
  have hnS : ¬ S b := (hbl b m4).1
  have hold : ∀ c, c ≠ b → w'.heap[c]? = w.heap[c]? := by intro c hcb; rw [← hw']; exact setRow_other hcb
  have husz : u'.size = u.size := size_er (getset_sh hg hset)
  have hz' : Rep w'.heap S u' O2 (cellsAt w'.heap b off u'.size) z := by
    rw [husz, hcell]
    exact hz w'.heap hsz hc
  obtain ⟨O, n1, n2, n3⟩ := OB.upd hnb (h.hs.ob i e he) hbl' h.hs.slt hok hg hl hc hsz hz' (fun c hc => ⟨(hO2 c hc).1.2.2, (hO2 c hc).2.2⟩) hnd2 hset
  have hown : ∀ c ∈ ι.own i, c ∈ blks ι i e := by intro c hc; cases e <;> simp [blks, hc]
  -- blocks of the object now
  have hblks : ∀ c ∈ blks (ι.setB i O) i (e.upd r), c ∈ blks ι i e ∨ c ∈ O2 := by
    intro c hc
    cases e with
    | var t x =>
      simp only [blks, Ent.upd, Ix.setB, if_true, List.mem_cons] at hc ⊢
      rcases hc with hc | hc
      · exact .inl (.inl hc)
      · exact (n1 c hc).imp .inr id
    | own t x =>
      simp only [blks, Ent.upd, Ix.setB, if_true] at hc ⊢
      exact n1 c hc
    | bag => exact absurd rfl hnb
  have hfact : ∀ c ∈ blks (ι.setB i O) i (e.upd r), (¬ S c ∧ (B.w0.heap.size ≤ c ∨ B.M c) ∧ c < w.heap.size) ∧ ∀ j ej, j ≠ i → look j s.hp = some ej → c ∉ blks ι j ej := by
    intro c hc
    rcases hblks c hc with h1 | h1
    · exact ⟨hbl c h1, fun j ej hj hlj => h.hs.dj i j e ej he hlj (Ne.symm hj) c h1⟩
    · exact ⟨(hO2 c h1).1, (hO2 c h1).2.1⟩
  have hsame : ∀ j, j ≠ i → SameAt ι (ι.setB i O) j := fun j hj => sameAt_setB hj _
  refine ⟨ι.setB i O, ⟨?_, ?_, ?_, ?_, ?_, ?_, h.hs.s0, h.hs.s1, ?_, ?_, ?_, ?_⟩, h.dfr, h.sz, ?_⟩
  · rw [← hw']; exact h.hs.os
  · rw [← hw']; exact h.hs.tape
  · rw [← hw']; exact h.hs.out
  · rw [hsz]; exact h.hs.size
  · intro c hc1 hm
    rw [hold c (by rintro rfl; rcases (hbl c m4).2.1 with h | h; omega; exact hm h)]
    exact h.hs.frame c hc1 hm
  · intro c hc1; rw [hsz]; exact h.hs.slt c hc1
  · intro j ej hj
    simp only [St.putE, look_put] at hj
    by_cases e1 : j = i
    · subst e1; rw [if_pos rfl] at hj; cases hj; exact n2
    · rw [if_neg e1] at hj
      have hj : look j s.hp = some ej := hj
      refine (hsame j e1).ob.2 ((h.hs.ob j ej hj).stable (fun c hcm => hold c ?_) (fun _ h => h))
      rintro rfl
      rcases hcm with hcm | hcm
      · exact h.hs.dj j i ej e hj he e1 c hcm m4
      · exact hnS hcm
  · intro j ej hj c hc
    simp only [St.putE, look_put] at hj
    rw [hsz]
    by_cases e1 : j = i
    · subst e1; rw [if_pos rfl] at hj; cases hj; exact (hfact c hc).1
    · rw [if_neg e1] at hj
      rw [(hsame j e1).blks] at hc
      exact h.hs.bl j ej hj c hc
  · intro j k ej ek hj hk hjk c hc
    simp only [St.putE, look_put] at hj hk
    by_cases e1 : j = i
    · subst e1
      rw [if_pos rfl] at hj; cases hj
      rw [if_neg (Ne.symm hjk)] at hk
      rw [(hsame k (Ne.symm hjk)).blks]
      exact (hfact c hc).2 k ek (Ne.symm hjk) hk
    · rw [if_neg e1] at hj
      rw [(hsame j e1).blks] at hc
      by_cases e2 : k = i
      · subst e2
        rw [if_pos rfl] at hk; cases hk
        exact fun hcc => (hfact c hcc).2 j ej e1 hj hc
      · rw [if_neg e2] at hk
        rw [(hsame k e2).blks]
        exact h.hs.dj j k ej ek hj hk hjk c hc
  · intro q hq
    obtain ⟨k0, ⟨e', k1⟩, k2, k3⟩ := h.hs.pin q hq
    refine ⟨k0, ?_, k2, k3⟩
    simp only [St.putE, look_put]
    by_cases e1 : q.1 = i
    · exact ⟨_, by rw [if_pos e1]⟩
    · exact ⟨e', by rw [if_neg e1]; exact k1⟩
  · intro t v hv
    simp only [St.putE, St.kill, look_mapA, Option.map_eq_some_iff] at hv
    obtain ⟨v0, hv0, rfl⟩ := hv
    refine VX.map (fun c hc => hold c (fun e => hnS (e ▸ hc))) (fun _ h => h) (fun v vs hr hm hvx => ?_) (h.fr t v0 hv0)
    unfold AV.kill1
    cases hmi : v.ment i with
    | false =>
      -- speaks of others
      have hne : ∀ j, v.ment j = true → j ≠ i := by rintro j hj rfl; rw [hmi] at hj; cases hj
      have hst : VX w'.heap S ι (del i s.hp) v vs := by
        refine VX.grow (fun c hcm => hold c ?_) (fun _ h => h) h.hs.slt (fun j ej hj => ?_) (VX.other (hp' := del i s.hp) (fun j hj => by rw [look_del, if_neg (hne j hj)]) (fun j _ => SameAt.refl ι j) hvx)
        · rintro rfl
          rcases hcm with ⟨j, ej, hj, hcj⟩ | hcm
          · rw [look_del] at hj
            split at hj
            · cases hj
            · rename_i hji
              exact h.hs.dj j i ej e hj he hji c hcj m4
          · exact hnS hcm
        · rw [look_del] at hj
          split at hj
          · cases hj
          · exact h.hs.ob j ej hj
      exact VX.other (fun j hj => by simp only [St.putE, look_put, look_del, if_neg (hne j hj)]; rfl) (fun j hj => hsame j (hne j hj)) hst
    | true =>
      have hany : ∀ {vs : List Value}, (∃ x, vs = [x]) → VX w'.heap S (ι.setB i O) ((s.kill i e.kd p).putE i (e.upd r)).hp .any vs := fun h => h
      have honex := VX.one hr hvx
      simp only
      cases v <;> simp only [AV.ref] at hr <;> try cases hr
      · rename_i j q
        have hji : i = j := Nat.eq_of_beq_eq_true hmi
        subst hji
        cases hkp : kp p q with
        | false => simp only [hkp]; exact honex
        | true =>
          simp only [hkp]
          obtain ⟨ej, b2, off2, k1, k2, k3, k4⟩ := hvx
          rw [he] at k1; cases k1
          obtain ⟨l1, l2⟩ := Loc_keep hnb (h.hs.ob i e he) hbl' h.hs.slt hok hg hl hc hsz hset hkp k2 O k3
          exact ⟨e.upd r, b2, off2, by simp [St.putE, look_put], l2, l1, k4⟩
      · rename_i j q
        have hji : i = j := Nat.eq_of_beq_eq_true hmi
        subst hji
        have hkeep : kc e.ty p q = true → kp p q = true → VX w'.heap S (ι.setB i O) ((s.kill i e.kd p).putE i (e.upd r)).hp (.at_ i q) vs := by
          intro hk1 hk2
          obtain ⟨ej, u2, y2, cs2, k1, k2, k3, k4, k5⟩ := hvx
          rw [he] at k1; cases k1
          obtain ⟨l1, ⟨y3, l2⟩, l3⟩ := Cells_keep hnb (h.hs.ob i e he) hbl' h.hs.slt hok hg hl hc hsz hset hk1 hk2 k2 O k3 k4
          exact ⟨e.upd r, u2, y3, cs2, by simp [St.putE, look_put], l1, l2, l3, k5⟩
        cases q with
        | cons st q =>
          cases hkc : kc e.kd.2 p (st :: q) && kp p (st :: q) with
          | false => simp only [hkc]; exact honex
          | true =>
            simp only [hkc]
            rw [Bool.and_eq_true] at hkc
            exact hkeep hkc.1 hkc.2
        | nil =>
          have hdef : VX w'.heap S (ι.setB i O) ((s.kill i e.kd p).putE i (e.upd r)).hp (match kc e.kd.2 p [] with | true => AV.at_ i [] | false => AV.any) vs := by
            cases hkc : kc e.kd.2 p [] with
            | false => exact honex
            | true => exact hkeep hkc (by cases p <;> rfl)
          rcases hpq : p with _ | ⟨_ | jx, pq⟩ <;> cases how : e.isOwn <;> simp only [Ent.kd, how] <;> first | (rw [hpq] at hdef; exact hdef) | skip
          · obtain ⟨ej, u2, y2, cs2, k1, k2, k3, k4, k5⟩ := hvx
            rw [he] at k1; cases k1
            have hrt := hty how (by rw [hpq]; simp)
            rw [getP_nil] at k3; cases k3
            obtain ⟨t0, x0, rfl⟩ : ∃ t0 x0, e = .own t0 x0 := by cases e <;> first | exact ⟨_, _, rfl⟩ | (simp [Ent.isOwn] at how)
            obtain ⟨⟨O', _, hR'⟩, _⟩ := h.hs.ob i _ he
            have hcs2 := own_cells_inv k4 hR'.length
            have hrt : r.1 = t0 := hrt
            refine ⟨.own r.1 r.2, r.1, r.2, cs2, by simp [St.putE, look_put, Ent.upd], okP_nil, getP_nil, own_cells (by rw [hcs2]; rfl) (by rw [hcs2, hR'.length, hrt]), ?_⟩
            rw [k5]
            simp only [Ent.ty, hrt]
      · rename_i j q lo hi
        have hji : i = j := Nat.eq_of_beq_eq_true hmi
        subst hji
        cases q with
        | cons st q => exact honex
        | nil =>
          rcases hpq : p with _ | ⟨_ | jx, pq⟩ <;> cases how : e.isOwn <;> simp only [Ent.kd, how] <;> first | exact honex | skip
          · obtain ⟨ej, v2, k1, k2, k3, k4, k5, k6⟩ := hvx
            rw [he] at k1; cases k1
            have hrt := hty how (by rw [hpq]; simp)
            obtain ⟨t0, x0, rfl⟩ : ∃ t0 x0, e = .own t0 x0 := by cases e <;> first | exact ⟨_, _, rfl⟩ | (simp [Ent.isOwn] at how)
            obtain ⟨⟨O', _, hR'⟩, _⟩ := h.hs.ob i _ he
            have hrt : r.1 = t0 := hrt
            rcases k6 with ⟨t', l, a', cap, g1, g2, g3, g4⟩ | ⟨n, t', l, b2, off2, g1, g2, g3, g4⟩
            · rw [getP_nil] at g1; cases g1
              obtain ⟨rt, rx⟩ := r
              have hrt : rt = .slc true t' := hrt
              subst hrt
              have hcs2 := own_cells_inv g3 hR'.length
              -- the length stands, as the header does
              have hlen : List.length (rx : (Ty.slc true t').den) = List.length (x0 : (Ty.slc true t').den) := by
                obtain ⟨⟨O'', _, hR''⟩, _⟩ := n2
                have hcc : (ι.setB i O).cells i = [.slice a' (List.length (x0 : (Ty.slc true t').den)) cap] := (show ι.cells i = _ from hcs2.symm)
                rw [hcc] at hR''
                rcases hR'' with ⟨_, ⟨a2, c2, h1, _⟩, h3⟩ | ⟨b3, o3, cap3, O3, c1, _⟩
                · simp only [List.cons.injEq, Value.slice.injEq, and_true] at h1
                  subst h3
                  simp [h1.2.1]
                · simp only [List.cons.injEq, Value.slice.injEq, and_true] at c1
                  exact c1.2.1.symm
              refine ⟨.own (.slc true t') rx, v2, by simp [St.putE, look_put, Ent.upd], okP_nil, k3, k4, k5, .inl ⟨t', rx, a', cap, getP_nil, by rw [hlen]; exact g2, ?_, g4⟩⟩
              rw [hlen]
              exact own_cells (show ι.cells i = _ from hcs2.symm) rfl
            · exfalso
              simp only [Loc, Place, Nav_nil, VR] at g3
              simp at g3

end
end Go.Ex
