import Derived.Test.YtibpibbnnogdkaaExT
namespace Go.Ex

section
variable {E : Env} {B : Base} {S S' : Nat → Prop} {ι : Ix} {s : St} {a : Act} {w : World} {hp : List (Nat × Ent)} {H H' : Array Go.Obj}

theorem setP_idx : ∀ {t : Ty} {x : t.den} {p : List Step} {u : Ty} {y : u.den} {r : Sigma Ty.den}, setP t x p u y = some r → flds p = false → r.1 = t := by
  intro t
  induction t with
  | pair a c iha ihc =>
    intro x p u y r h hf
    match p, h, hf with
    | [], _, hf => cases hf
    | .fld 0 :: p, h, hf =>
      simp only [setP] at h
      split at h
      · rename_i t' w hw; cases h; exact congrArg (Ty.pair · c) (iha (r := ⟨t', w⟩) hw hf)
      · cases h
    | .fld (n + 1) :: p, h, hf =>
      simp only [setP] at h
      split at h
      · rename_i t' w hw; cases h; exact congrArg (Ty.pair a) (ihc (r := ⟨t', w⟩) hw hf)
      · cases h
    | .idx i :: p, h, _ => simp [setP] at h
  | arr n t ih =>
    intro x p u y r h hf
    match p, h, hf with
    | [], _, hf => cases hf
    | .idx i :: p, h, _ =>
      simp only [setP] at h
      split at h
      · split at h
        · cases h; rfl
        · cases h
      · cases h
    | .fld i :: p, h, _ => simp [setP] at h
  | slc o t ih =>
    intro x p u y r h hf
    match p, h, hf with
    | [], _, hf => cases hf
    | .idx i :: p, h, _ =>
      cases o with
      | false => simp [setP] at h
      | true =>
        simp only [setP] at h
        split at h
        · split at h
          · cases h; rfl
          · cases h
        · cases h
    | .fld i :: p, h, _ => cases o <;> simp [setP] at h
  | _ =>
    intro x p u y r h hf
    match p, h, hf with
    | [], _, hf => cases hf
    | .idx i :: p, h, _ => simp [setP] at h
    | .fld i :: p, h, _ => simp [setP] at h

/-- the block where a part lies is none of its own -/
theorem OB.part_root {i : Nat} {e : Ent} (ho : OB H S ι i e) (he : e ≠ .bag) (hS : ∀ c, S c → c < H.size) {p : List Step} (hok : okP e.ty e.x p) {u : Ty} {y : u.den} (hg : getP e.ty e.x p = some ⟨u, y⟩) {b off : Nat} (hl : Loc H ι i e p = some (b, off))
    {Op : List Nat} (hR2 : Rep H S u Op (cellsAt H b off u.size) y) : b ∉ Op := by
  obtain ⟨h1, h2⟩ := Loc_place hl
  obtain ⟨O, hO, hR, hb, hnd, hlt, hns, hfr⟩ := ho.see he hS
  obtain ⟨O1, O2, b', off', e1, e2, e3, e4, e5, e6⟩ := focus hR hb hok hg
  rw [Place_eq he, e3] at h1; cases h1
  have hm : ∀ c, c ∈ O1 ∨ c ∈ O2 → c ∈ ι.own i := fun c hc => hO.mem_iff.1 (e1.mem_iff.2 (by simpa using hc))
  have hlt2 : ∀ c ∈ O2, c < H.size := fun c hc => ho.own_lt he (hm c (.inr hc))
  have k := (VH_rep (e := e) (ι := ι) (i := i) hlt2 hS).1 e4
  rw [cellsAt_congr (VH_old h2)] at k
  have hd := Rep.det k hR2
  subst hd
  rcases e6 with ⟨rfl, _⟩ | ⟨g1, _⟩
  · intro hb; exact (List.nodup_cons.1 hnd).1 (hm _ (.inr hb))
  · intro hb
    have := (e1.nodup_iff).1 ((hO.nodup_iff).2 (List.nodup_cons.1 hnd).2)
    exact (List.nodup_append.1 this).2.2 _ g1 _ hb rfl

theorem drop_noM {d i : Nat} : ∀ {v : AV}, v.ment d = false → (v.drop i).ment d = false := by
  intro v
  induction v with
  | cons a b iha ihb => intro h; simp only [AV.ment, Bool.or_eq_false_iff] at h; simp only [AV.drop, AV.map, AV.ment, Bool.or_eq_false_iff]; exact ⟨iha h.1, ihb h.2⟩
  | tup l ih => intro h; exact ih h
  | clo f l ih => intro h; exact ih h
  | ptr j p => intro h; simp only [AV.drop, AV.map]; split <;> first | rfl | exact h
  | at_ j p => intro h; simp only [AV.drop, AV.map]; split <;> first | rfl | exact h
  | sub j p x y => intro h; simp only [AV.drop, AV.map]; split <;> first | rfl | exact h
  | _ => intro h; rfl

theorem drops_noMent {d : Nat} : ∀ {g : List Nat} {s : St}, noMent d s.fr = true → noMent d (St.drops g s).fr = true
  | [], _, h => h
  | i :: g, s, h => drops_noMent (g := g) (s := s.drop i) (by
    simp only [St.drop]
    generalize s.fr = fr at h
    induction fr with
    | nil => rfl
    | cons q l ih =>
      obtain ⟨n, v⟩ := q
      simp only [noMent, Bool.and_eq_true, Bool.not_eq_true'] at h
      simp only [mapA, noMent, Bool.and_eq_true, Bool.not_eq_true']
      exact ⟨drop_noM h.1, ih h.2⟩)

theorem Nav_stay : ∀ {t : Ty} {p : List Step} {b off : Nat} {G : Array Go.Obj} {r : Nat × Nat}, flds p = true → Nav G t p b off = some r → r.1 = b := by
  intro t
  induction t with
  | pair a c iha ihc =>
    intro p b off G r h hn
    match p, h, hn with
    | [], _, hn => rw [Nav_nil] at hn; cases hn; rfl
    | .fld 0 :: p, h, hn => exact iha (p := p) h hn
    | .fld (n + 1) :: p, h, hn => exact ihc (p := .fld n :: p) h hn
    | .idx i :: p, h, _ => cases h
  | slc o t ih =>
    intro p b off G r h hn
    match p, h, hn with
    | [], _, hn => rw [Nav_nil] at hn; cases hn; rfl
    | .fld i :: p, _, hn => cases o <;> simp [Nav] at hn
    | .idx i :: p, h, _ => cases h
  | _ =>
    intro p b off G r h hn
    match p, h, hn with
    | [], _, hn => rw [Nav_nil] at hn; cases hn; rfl
    | .fld i :: p, _, hn => simp [Nav] at hn
    | .idx i :: p, h, _ => cases h

/-- what lies in memory of a value that is held alone lies behind a slice -/
theorem own_idx {i : Nat} {e : Ent} {p : List Step} {r : Nat × Nat} (hl : Loc H ι i e p = some r) (he : e.isOwn = true) : flds p = false := by
  obtain ⟨h1, h2⟩ := Loc_place (b := r.1) (off := r.2) hl
  cases hf : flds p with
  | false => rfl
  | true =>
    exfalso
    cases e with
    | own t x =>
      rw [Place_eq (by simp)] at h1
      have := Nav_stay hf h1
      simp only [VR] at this
      omega
    | _ => cases he

/-- a store -/
theorem store_any (hE : EnvOk E) (h : RS B S ι s a w) {o : Oper} {T : TypeId} {x y : Operand} (ho : o.op = .store T x y) {i : Nat} {e : Ent} (h1 : look i s.hp = some e) {p : List Step} (h2 : okP e.ty e.x p) {b off : Nat} (h3 : Loc w.heap ι i e p = some (b, off)) (h4 : a.eval x = .pointer (some ⟨b, off, none⟩))
    {u : Ty} {y0 : u.den} (hg : getP e.ty e.x p = some ⟨u, y0⟩) (hck : chk E T u = true) {u' : Ty} {z : u'.den} {O2 : List Nat} {cs : List Value} {r : Sigma Ty.den}
    (hz : Rep w.heap S u' O2 cs z) (hnd : O2.Nodup) (hey : a.eval y = toV u' cs) (hset : setP e.ty e.x p u' z = some r)
    (hO2 : ∀ c ∈ O2, (¬ S c ∧ (B.w0.heap.size ≤ c ∨ B.M c) ∧ c < w.heap.size) ∧ (∀ j ej, j ≠ i → look j s.hp = some ej → c ∉ blks ι j ej) ∧ (c ∈ blks ι i e → ∃ Op, Rep w.heap S u Op (cellsAt w.heap b off u.size) y0 ∧ c ∈ Op)) (hbO : b ∉ O2) :
    OpOk E.P B o a w (.raw undef) ((s.kill i e.kd p).putE i (e.upd r)) := by
  intro next Q hn
  obtain ⟨Op, m1, mn, m2, m3, m4, m5⟩ := Loc_mem (Loc_bag h3) (h.hs.ob i e h1) h.hs.slt h2 hg h3
  have hsh := getset_sh hg hset
  have hnS : ¬ S b := (h.hs.bl i e h1 b m4).1
  obtain ⟨ι', hrs⟩ := h.store h1 h2 hg h3 (u' := u') (z := z) (cs := cs) (O2 := O2) (fun H' hsz hc => hz.stable (fun c hc' => hc.rest c (by
      rintro rfl
      rcases hc' with hc' | hc'
      · exact hbO hc'
      · exact hnS hc') (by
      rcases hc' with hc' | hc'
      · exact (hO2 c hc').1.2.2
      · exact h.hs.slt c hc')) (fun _ h => h)) (by rw [hz.length, size_er hsh]) hnd hO2 hset (fun how _ => setP_idx hset (own_idx h3 how))
  unfold Oper.wp
  have hrun : (execOp a.eval o).run E.P w = .ok .skip (w.setRow b (over (blk w.heap b) off cs).toArray) := by
    simp [execOp, ho, h4, hey, Instr.storeAt, Instr.sureAddr, run_storeVar (chk_ok hE hck) hsh m5 hz]
  rw [hrun]
  exact hn S ι' _ undef hrs rfl

theorem storeA_sound (hE : EnvOk E) (h : RS B S ι s a w) {o : Oper} {T : TypeId} {x y : Operand} (ho : o.op = .store T x y) {i : Nat} {p : List Step} (hx : s.ev x = .ptr i p) : ORok E.P B o a w (storeA E T i p (s.ev y) s) := by
  obtain ⟨e, b, off, h1, h2, h3, h4⟩ := evx h hx
  have h4 : a.eval x = .pointer (some ⟨b, off, none⟩) := by simpa using h4
  unfold storeA
  split
  · trivial
  · rename_i e' hob
    obtain rfl := ent_of h1 hob
    split
    · trivial
    · rename_i u y0 hg
      obtain ⟨Op, m1, mn, m2, m3, m4, m5⟩ := Loc_mem (Loc_bag h3) (h.hs.ob i e' h1) h.hs.slt h2 hg h3
      split
      · trivial
      · rename_i hck
        split
        · rename_i hy
          have hvy := evx h hy
          split
          · rename_i o' u' _
            split
            · rename_i r hset
              refine store_any hE h ho h1 h2 h3 h4 hg hck (u' := .slc o' u') (z := ([] : List u'.den)) (O2 := []) (cs := [.slice none 0 0]) (.inl ⟨rfl, ⟨none, 0, rfl, fun _ => rfl⟩, rfl⟩) List.nodup_nil ?_ hset (by simp) (by simp)
              have : [a.eval y] = [Value.slice none 0 0] := hvy
              simpa [toV, Ty.agg] using this
            · trivial
          · trivial
        · rename_i j q lo hi hy
          split
          · rename_i u' y1
            split
            · rename_i r hset
              split
              · rename_i hij
                have hij := Nat.eq_of_beq_eq_true hij
                subst hij
                rintro ⟨rfl, _⟩
                obtain ⟨e2, v2, k1, k2, k3, k4, k5, k6⟩ := evx h hy
                rw [h1] at k1; cases k1
                rcases k6 with ⟨t', l, A, cap, q1, q2, q3, q4⟩ | ⟨n, t', l, b2, off2, q1, _⟩
                · rw [hg] at q1; cases q1
                  obtain ⟨b0, off0, r1, r2⟩ := q3
                  obtain ⟨r3, r4⟩ := Loc_place h3
                  rw [r3] at r1; cases r1
                  rw [cellsAt_congr (VH_old r4)] at r2
                  have m2' : Rep w.heap S (.slc true u') Op [.slice A (List.length y1) cap] y1 := by rw [r2]; exact m2
                  obtain ⟨O, cs, g1, g2, g3, g4⟩ := cut_rep m2' mn k4 k5 q2 q4
                  have k3 : a.eval y = v2 := by simpa using k3
                  refine store_any hE h ho h1 h2 h3 h4 hg hck (u' := .slc true u') (z := cut2 lo hi y1) g2 g3 (by rw [k3, g1]) hset (fun c hc => ?_) ?_
                  · have hcm := m1 c (g4 c hc)
                    exact ⟨h.hs.bl i e' h1 c (own_blks hcm), fun j ej hj hlj => h.hs.dj i j e' ej h1 hlj (Ne.symm hj) c (own_blks hcm), fun _ => ⟨Op, m2, g4 c hc⟩⟩
                  · intro hb
                    have := (h.hs.ob i e' h1).part_root (Loc_bag h3) h.hs.slt h2 hg h3 m2
                    exact this (g4 b hb)
                · rw [hg] at q1; cases q1
              · trivial
            · trivial
          · trivial
        · rename_i xv _ _
          split
          · rename_i u' z g hgv
            split
            · rename_i r hset
              split
              · rename_i hgc
                simp only [Bool.and_eq_true, Bool.not_eq_true'] at hgc
                obtain ⟨⟨hgi, hgn⟩, hgp⟩ := hgc
                have hgi : i ∉ g := by
                  intro hm
                  simp [hm] at hgi
                obtain ⟨O2, cs, k1, k2, k3, k4⟩ := giveV_rep h.hs hgv (h.ev y)
                have hd := h.drops (g := g) hgp
                have hl1 : look i (St.drops g s).hp = some e' := by rw [drops_look, if_neg hgi]; exact h1
                have hne : ∀ c ∈ O2, ∀ j ej, j ∉ g → look j s.hp = some ej → c ∉ blks ι j ej := by
                  intro c hc j ej hj hlj
                  obtain ⟨j2, e2, q1, q2, q3⟩ := k4 c hc
                  exact h.hs.dj j2 j e2 ej q2 hlj (by rintro rfl; exact hj q1) c q3
                refine store_any hE hd ho hl1 h2 h3 h4 hg hck k2 k3 k1 hset (fun c hc => ?_) (fun hb => hne b hb i e' hgi h1 m4)
                obtain ⟨j2, e2, q1, q2, q3⟩ := k4 c hc
                refine ⟨h.hs.bl j2 e2 q2 c q3, fun j ej hj hlj => ?_, fun hci => absurd hci (hne c hc i e' hgi h1)⟩
                rw [drops_look] at hlj
                split at hlj
                · cases hlj
                · rename_i hjg; exact hne c hc j ej hjg hlj
              · trivial
            · trivial
          · trivial

theorem box_sound (hE : EnvOk E) (h : RS B S ι s a w) {o : Oper} {T : TypeId} {x : Operand} (ho : o.op = .box T x) : ORok E.P B o a w (aop E o s) := by
  unfold aop
  rw [ho]
  simp only
  split
  · rename_i t d ht hd
    split
    · rename_i hf
      have core : ∀ {u : Ty} {y : u.den} {O : List Nat} {cs : List Value} {g : List Nat}, Rep w.heap S u O cs y → a.eval x = toV u cs → (g.all fun i => !pinned i) = true → d ∉ g → Flt B S ι (St.drops g s).hp w O → OpOk E.P B o a w (.ptr d []) ((St.drops g s).putE d (.var u y)) := by
        intro u y O cs g hR e hg hdg hF next Q hn
        unfold Oper.wp
        have : (execOp a.eval o).run E.P w = .ok (.value (.pointer (some ⟨w.heap.size, 0, none⟩))) (pushed w (.cells cs.toArray T)) := by
          simp [execOp, ho, Instr.box, e, newVar, newRow, newObj, Sem.run, pushed, hR.cells]
        rw [this]
        have hfd : (St.drops g s).fresh d = true := by
          obtain ⟨f1, f2⟩ := fresh_inv hf
          simp only [St.fresh, Bool.and_eq_true, Option.isNone_iff_eq_none]
          refine ⟨by rw [drops_look]; split <;> first | rfl | exact f1, ?_⟩
          exact drops_noMent (by simp only [St.fresh, Bool.and_eq_true] at hf; exact hf.2)
        exact hn S _ _ _ ((h.drops hg).alloc hfd hR hF T) (ptr_new (by simp [pushed]))
      split
      · rename_i u y g hgv
        split
        · rename_i hs
          split
          · rename_i hgc
            simp only [Bool.and_eq_true, Bool.not_eq_true'] at hgc
            obtain ⟨⟨hgn, hgd⟩, hgp⟩ := hgc
            obtain ⟨O2, cs, k1, k2, k3, k4⟩ := giveV_rep h.hs hgv (h.ev x)
            exact core k2 k1 hgp (by intro hm; simp [hm] at hgd) (Flt.drops h.hs k3 k4)
          · trivial
        · trivial
      · split
        · rename_i o' u hx _
          have hv : [a.eval x] = [Value.slice none 0 0] := evx h hx
          exact core (g := []) (cs := [.slice none 0 0]) (u := .slc o' u) (y := ([] : List u.den)) (O := []) (.inl ⟨rfl, ⟨none, 0, rfl, fun _ => rfl⟩, rfl⟩) (by simpa [toV, Ty.agg] using hv) rfl (by simp) Flt.nil
        · trivial
    · trivial
  · trivial

end
end Go.Ex
