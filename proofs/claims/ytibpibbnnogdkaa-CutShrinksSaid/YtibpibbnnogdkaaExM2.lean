import Derived.Test.YtibpibbnnogdkaaExM
namespace Go.Ex

section
variable {E : Env} {B : Base} {S S' : Nat → Prop} {ι : Ix} {s : St} {a : Act} {w : World} {hp : List (Nat × Ent)} {H H' : Array Go.Obj}

theorem noDup_nodup : ∀ {l : List Nat}, noDup l = true → l.Nodup
  | [], _ => List.nodup_nil
  | a :: l, h => by
    simp only [noDup, Bool.and_eq_true, Bool.not_eq_true'] at h
    refine List.nodup_cons.2 ⟨fun hm => ?_, noDup_nodup h.2⟩
    have := h.1
    simp [hm] at this

theorem disj_spec : ∀ {l m : List Nat}, disj l m = true → ∀ i ∈ l, i ∉ m
  | [], _, _, i, hi => by cases hi
  | a :: l, m, h, i, hi => by
    simp only [disj, Bool.and_eq_true, Bool.not_eq_true'] at h
    rcases List.mem_cons.1 hi with rfl | hi
    · intro hm; have := h.1; simp [hm] at this
    · exact disj_spec h.2 i hi

theorem asKs_rep (h : HS B S ι s.hp w) {S1 : Nat → Prop} (hS : ∀ b, S b → S1 b) : ∀ {ks : List PK} {v : AV} {x : DK ks} {vs : List Value} {g m : List Nat}, AV.asKs s ks v = some (x, g, m) → VX w.heap S ι s.hp v vs → (g ++ m).Nodup →
    (∀ b, BlkOf ι s.hp (callA.loose ks v) b → S1 b) → ∃ L, KsRep w.heap S1 ks vs x L ∧ L.Nodup ∧ (∀ b ∈ L, BlkOf ι s.hp (g ++ m) b) ∧ ∀ i ∈ m, ∀ e, look i s.hp = some e → ∀ b ∈ blks ι i e, b ∈ L
  | [], v, x, vs, g, m, hx, hv, _, _ => by
    cases v <;> simp only [AV.asKs] at hx <;> first | cases hx | skip
    exact ⟨[], ⟨hv, rfl⟩, List.nodup_nil, by simp, by simp⟩
  | k :: ks, v, x, vs, g, m, hx, hv, hnd, hL => by
    cases v <;> simp only [AV.asKs] at hx <;> first | cases hx | skip
    rename_i a b
    split at hx
    · rename_i x1 g1 m1 x2 g2 m2 h1 h2
      cases hx
      obtain ⟨v, us, rfl, ha, hb⟩ := hv
      have hn1 : ∀ i, i ∈ g1 ++ m1 → i ∉ g2 ++ m2 := by
        intro i hi hi'
        simp only [List.mem_append] at hi hi'
        have hgm := List.nodup_append.1 hnd
        have hg := List.nodup_append.1 hgm.1
        have hm := List.nodup_append.1 hgm.2.1
        rcases hi with hi | hi <;> rcases hi' with hi' | hi'
        · exact hg.2.2 i hi i hi' rfl
        · exact hgm.2.2 i (by simp [hi]) i (by simp [hi']) rfl
        · exact hgm.2.2 i (by simp [hi']) i (by simp [hi]) rfl
        · exact hm.2.2 i hi i hi' rfl
      have hnd2 : (g2 ++ m2).Nodup := by
        have hgm := List.nodup_append.1 hnd
        have hg := List.nodup_append.1 hgm.1
        have hm := List.nodup_append.1 hgm.2.1
        exact List.nodup_append.2 ⟨hg.2.1, hm.2.1, fun i hi j hj => hgm.2.2 i (by simp [hi]) j (by simp [hj])⟩
      obtain ⟨L1, k1, k2, k3, k4⟩ := asK_rep h hS h1 ha (fun hr c hc => hL c (by
        obtain ⟨i, e, q1, q2⟩ := hc
        refine ⟨i, e, ?_, q2⟩
        cases k <;> first | (show i ∈ a.lent ++ callA.loose ks b; exact List.mem_append_left _ q1) | (exfalso; simp [PK.reads] at hr; done)))
      obtain ⟨L2, n1, n2, n3, n4⟩ := asKs_rep h hS h2 hb hnd2 (fun c hc => hL c (by
        obtain ⟨i, e, q1, q2⟩ := hc
        refine ⟨i, e, ?_, q2⟩
        cases k <;> first | (show i ∈ a.lent ++ callA.loose ks b; exact List.mem_append_right _ q1) | (show i ∈ callA.loose ks b; exact q1)))
      refine ⟨L1 ++ L2, ⟨v, us, L1, L2, rfl, rfl, k1, n1⟩, List.nodup_append.2 ⟨k2, n2, ?_⟩, ?_, ?_⟩
      · rintro c hc d hd rfl
        obtain ⟨i, e, q1, q2, q3⟩ := k3 c hc
        obtain ⟨j, e', r1, r2, r3⟩ := n3 c hd
        have hij : i ≠ j := by rintro rfl; exact hn1 i q1 r1
        exact h.dj i j e e' q2 r2 hij c q3 r3
      · intro c hc
        rcases List.mem_append.1 hc with hc | hc
        · exact (k3 c hc).mono (by simp; intro i hi; rcases hi with hi | hi <;> simp [hi])
        · exact (n3 c hc).mono (by simp; intro i hi; rcases hi with hi | hi <;> simp [hi])
      · intro i hi e he c hc
        rcases List.mem_append.1 hi with hi | hi
        · exact List.mem_append_left _ (k4 i hi e he c hc)
        · exact List.mem_append_right _ (n4 i hi e he c hc)
    · cases hx

theorem Rep.noSh : ∀ {t : Ty} {O : List Nat} {cs : List Value} {x : t.den}, t.noSh = true → Rep H S t O cs x → Rep H S' t O cs x := by
  intro t
  induction t with
  | int k => intro O cs x _ h; exact h
  | bool => intro O cs x _ h; exact h
  | str => intro O cs x _ h; exact h
  | unit => intro O cs x _ h; exact h
  | pair a c iha ihc =>
    rintro O cs x hn ⟨O1, O2, e, h1, h2⟩
    simp only [Ty.noSh, Bool.and_eq_true] at hn
    exact ⟨O1, O2, e, iha hn.1 h1, ihc hn.2 h2⟩
  | arr n t ih =>
    rintro O cs x hn ⟨h1, h2⟩
    exact ⟨h1, RepL.mono (L := O) (fun _ h => h) (fun _ _ _ _ h => ih hn h) h2⟩
  | slc o t ih =>
    rintro O cs x hn h
    simp only [Ty.noSh, Bool.and_eq_true] at hn
    rcases h with h | ⟨b, off, cap, O', c1, c2, c3, c4, c5, c6⟩
    · exact .inl h
    · rw [hn.1] at c6
      refine .inr ⟨b, off, cap, O', c1, c2, c3, c4, RepL.mono (L := O') (fun _ h => h) (fun _ _ _ _ h => ih hn.2 h) c5, ?_⟩
      rw [hn.1]; exact c6

theorem ResRep.noSh : ∀ {ts : List Ty} {O : List Nat} {vs : List Value} {x : DL ts}, ts.all Ty.noSh = true → ResRep H S ts O vs x → ResRep H S' ts O vs x
  | [], _, _, _, _, h => h
  | t :: ts, _, _, _, hn, ⟨v, us, O1, O2, cs, e1, e2, e3, h1, h2⟩ => by
    simp only [List.all_cons, Bool.and_eq_true] at hn
    exact ⟨v, us, O1, O2, cs, e1, e2, e3, h1.noSh hn.1, ResRep.noSh hn.2 h2⟩


theorem OutRep.noSh : ∀ {ks : List PK} {vs : List Value} {y : DL (wts ks)} {L : List Nat}, (wts ks).all Ty.noSh = true → OutRep H S ks vs y L → OutRep H S' ks vs y L
  | [], _, _, _, _, h => h
  | .rw t :: ks, _, _, _, hn, ⟨b, off, O, us, L', e1, e2, e3, e4, e5⟩ => by
    simp only [wts, List.all_cons, Bool.and_eq_true] at hn
    exact ⟨b, off, O, us, L', e1, e2.noSh hn.1, e3, e4, OutRep.noSh hn.2 e5⟩
  | .mu t :: ks, _, _, _, hn, ⟨cs, O, us, L', e1, e1', e2, e4, e5⟩ => by
    simp only [wts, List.all_cons, Bool.and_eq_true] at hn
    exact ⟨cs, O, us, L', e1, e1', e2.noSh hn.1, e4, OutRep.noSh hn.2 e5⟩
  | .v _ :: ks, _, _, _, hn, ⟨v, us, e, h⟩ => ⟨v, us, e, OutRep.noSh (ks := ks) hn h⟩
  | .rd _ :: ks, _, _, _, hn, ⟨v, us, e, h⟩ => ⟨v, us, e, OutRep.noSh (ks := ks) hn h⟩
  | .clo _ _ :: ks, _, _, _, hn, ⟨v, us, e, h⟩ => ⟨v, us, e, OutRep.noSh (ks := ks) hn h⟩
  | .own _ :: ks, _, _, _, hn, ⟨v, us, e, h⟩ => ⟨v, us, e, OutRep.noSh (ks := ks) hn h⟩


theorem Nav_flds : ∀ {t : Ty} {p : List Step} {b off : Nat} {G G' : Array Go.Obj}, flds p = true → Nav G t p b off = Nav G' t p b off := by
  intro t
  induction t with
  | pair a c iha ihc =>
    intro p b off G G' h
    match p, h with
    | [], _ => rfl
    | .fld 0 :: p, h => exact iha h
    | .fld (n + 1) :: p, h => exact ihc (p := .fld n :: p) h
    | .idx i :: p, h => cases h
  | slc o t ih =>
    intro p b off G G' h
    match p, h with
    | [], _ => rw [Nav_nil, Nav_nil]
    | .fld i :: p, _ => cases o <;> simp [Nav]
    | .idx i :: p, h => cases h
  | _ =>
    intro p b off G G' h
    match p, h with
    | [], _ => rw [Nav_nil, Nav_nil]
    | .fld i :: p, _ => simp [Nav]
    | .idx i :: p, h => cases h

theorem ok_flds : ∀ {t : Ty} {p : List Step} {x y : t.den}, flds p = true → okP t x p → okP t y p := by
  intro t
  induction t with
  | pair a c iha ihc =>
    intro p x y h ho
    match p, h, ho with
    | [], _, _ => trivial
    | .fld 0 :: p, h, ho => exact iha (x := x.1) h ho
    | .fld (n + 1) :: p, h, ho => exact ihc (p := .fld n :: p) (x := x.2) h ho
    | .idx i :: p, h, _ => cases h
  | slc o t ih =>
    intro p x y h ho
    match p, h, ho with
    | [], _, _ => exact okP_nil
    | .fld i :: p, _, ho => cases o <;> simp [okP] at ho
    | .idx i :: p, h, _ => cases h
  | _ =>
    intro p x y h ho
    match p, h, ho with
    | [], _, _ => exact okP_nil
    | .fld i :: p, _, ho => simp [okP] at ho
    | .idx i :: p, h, _ => cases h

/-- two objects of one kind and type -/
def Alike1 (e e' : Ent) : Prop := (∃ t x x', e = .var t x ∧ e' = .var t x') ∨ (∃ t x x', e = .own (.slc true t) x ∧ e' = .own (.slc true t) x')

/-- an object is written by a callee -/
theorem RS.renew (h : RS B S ι s a w) {i : Nat} {e e' : Ent} (he : look i s.hp = some e) (hal : Alike1 e e') {F : List Nat} (hF : Flt B S ι s.hp w F) {L : List Nat} {w' : World} (k : Past L w w') (hLs : ∀ b ∈ L, b ∈ blks ι i e ∨ b ∈ F) (hS : ∀ b, S b → S' b)
    (hS' : ∀ b, S' b → S b ∨ (w.heap.size ≤ b ∧ b < w'.heap.size)) {O' : List Nat} (hob : OB w'.heap S' (ι.setB i O') i e') (hO' : ∀ c ∈ blks (ι.setB i O') i e', ¬ S' c ∧ (w.heap.size ≤ c ∨ c ∈ L) ∧ c < w'.heap.size) :
    RS B S' (ι.setB i O') ((s.killR i e.isOwn).putE i e') a w' := by
  have hnb : e ≠ .bag := by rcases hal with ⟨_, _, _, h, _⟩ | ⟨_, _, _, h, _⟩ <;> (rw [h]; intro h; cases h)
  have hLfact : ∀ b ∈ L, ¬ S b ∧ (B.w0.heap.size ≤ b ∨ B.M b) ∧ b < w.heap.size ∧ ∀ j ej, j ≠ i → look j s.hp = some ej → b ∉ blks ι j ej := by
    intro b hb
    rcases hLs b hb with h1 | h1
    · obtain ⟨q1, q2, q3⟩ := h.hs.bl i e he b h1
      exact ⟨q1, q2, q3, fun j ej hj hlj => h.hs.dj i j e ej he hlj (Ne.symm hj) b h1⟩
    · obtain ⟨q1, q2, q3, q4⟩ := hF.2 b h1
      exact ⟨q1, q2, q3, fun j ej _ hlj => q4 j ej hlj⟩
  have hold : ∀ {b : Nat}, ((∃ j ej, j ≠ i ∧ look j s.hp = some ej ∧ b ∈ blks ι j ej) ∨ S b) → w'.heap[b]? = w.heap[b]? := by
    intro b hb
    refine k.frame b (hb.elim (fun ⟨j, ej, _, h1, h2⟩ => (h.hs.bl j ej h1 b h2).2.2) (h.hs.slt b)) (fun hbL => ?_)
    obtain ⟨q1, _, _, q4⟩ := hLfact b hbL
    rcases hb with ⟨j, ej, h0, h1, h2⟩ | hb
    · exact q4 j ej h0 h1 h2
    · exact q1 hb
  have hnew : ∀ c ∈ blks (ι.setB i O') i e', (¬ S' c ∧ (B.w0.heap.size ≤ c ∨ B.M c) ∧ c < w'.heap.size) ∧ ∀ j ej, j ≠ i → look j s.hp = some ej → c ∉ blks ι j ej := by
    intro c hc
    obtain ⟨q1, q2, q3⟩ := hO' c hc
    rcases q2 with q2 | q2
    · exact ⟨⟨q1, .inl (Nat.le_trans h.hs.size q2), q3⟩, fun j ej _ hlj hcb => by have := (h.hs.bl j ej hlj c hcb).2.2; omega⟩
    · obtain ⟨r1, r2, r3, r4⟩ := hLfact c q2
      exact ⟨⟨q1, r2, q3⟩, r4⟩
  have hsame : ∀ j, j ≠ i → SameAt ι (ι.setB i O') j := fun j hj => sameAt_setB hj _
  have hHS : HS B S' (ι.setB i O') (Ex.put i e' s.hp) w' := by
    refine ⟨k.os.trans h.hs.os, k.tape.trans h.hs.tape, k.out.trans h.hs.out, Nat.le_trans h.hs.size k.size, ?_, ?_, fun b hb => hS b (h.hs.s0 b hb), ?_, ?_, ?_, ?_, ?_⟩
    · intro c hc hm
      rw [k.frame c (Nat.lt_of_lt_of_le hc h.hs.size) (fun hcL => by rcases (hLfact c hcL).2.1 with h1 | h1; omega; exact hm h1)]
      exact h.hs.frame c hc hm
    · intro b hb
      rcases hS' b hb with h1 | h1
      · exact Nat.lt_of_lt_of_le (h.hs.slt b h1) k.size
      · exact h1.2
    · intro b hb
      rcases hS' b hb with h1 | h1
      · exact h.hs.s1 b h1
      · exact .inr (Nat.le_trans h.hs.size h1.1)
    · intro j ej hj
      rw [look_put] at hj
      by_cases e1 : j = i
      · subst e1; rw [if_pos rfl] at hj; cases hj; exact hob
      · rw [if_neg e1] at hj
        exact (hsame j e1).ob.2 ((h.hs.ob j ej hj).stable (fun b hb => hold (hb.imp (fun hb => ⟨j, ej, e1, hj, hb⟩) id)) hS)
    · intro j ej hj c hc
      rw [look_put] at hj
      by_cases e1 : j = i
      · subst e1; rw [if_pos rfl] at hj; cases hj; exact (hnew c hc).1
      · rw [if_neg e1] at hj
        rw [(hsame j e1).blks] at hc
        obtain ⟨q1, q2, q3⟩ := h.hs.bl j ej hj c hc
        refine ⟨fun hs => ?_, q2, Nat.lt_of_lt_of_le q3 k.size⟩
        rcases hS' c hs with h1 | h1
        · exact q1 h1
        · omega
    · intro j l ej el hj hl hjl c hc
      rw [look_put] at hj hl
      by_cases e1 : j = i
      · subst e1
        rw [if_pos rfl] at hj; cases hj
        rw [if_neg (Ne.symm hjl)] at hl
        rw [(hsame l (Ne.symm hjl)).blks]
        exact (hnew c hc).2 l el (Ne.symm hjl) hl
      · rw [if_neg e1] at hj
        rw [(hsame j e1).blks] at hc
        by_cases e2 : l = i
        · subst e2
          rw [if_pos rfl] at hl; cases hl
          exact fun hcc => (hnew c hcc).2 j ej e1 hj hc
        · rw [if_neg e2] at hl
          rw [(hsame l e2).blks]
          exact h.hs.dj j l ej el hj hl hjl c hc
    · intro q hq
      obtain ⟨k0, ⟨e1, k1⟩, k2, k3⟩ := h.hs.pin q hq
      refine ⟨k0, ?_, k2, k3⟩
      rw [look_put]
      by_cases e2 : q.1 = i
      · exact ⟨_, by rw [if_pos e2]⟩
      · exact ⟨e1, by rw [if_neg e2]; exact k1⟩
  refine ⟨hHS, h.dfr, h.sz, ?_⟩
  intro t v hv
  simp only [St.putE, St.killR, look_mapA, Option.map_eq_some_iff] at hv
  obtain ⟨v0, hv0, rfl⟩ := hv
  refine VX.map (fun c hc => hold (.inr hc)) hS (fun v vs hr hm hvx => ?_) (h.fr t v0 hv0)
  unfold AV.killR1
  have honex := VX.one hr hvx
  cases hmi : v.ment i with
  | false =>
    have hne : ∀ j, v.ment j = true → j ≠ i := by rintro j hj rfl; rw [hmi] at hj; cases hj
    have hst : VX w'.heap S' ι (del i s.hp) v vs := by
      refine VX.grow (fun c hcm => hold ?_) hS h.hs.slt (fun j ej hj => ?_) (VX.other (hp' := del i s.hp) (fun j hj => by rw [look_del, if_neg (hne j hj)]) (fun j _ => SameAt.refl ι j) hvx)
      · rcases hcm with ⟨j, ej, hj, hcj⟩ | hcm
        · rw [look_del] at hj
          split at hj
          · cases hj
          · rename_i hji
            exact .inl ⟨j, ej, hji, hj, hcj⟩
        · exact .inr hcm
      · rw [look_del] at hj
        split at hj
        · cases hj
        · exact h.hs.ob j ej hj
    exact VX.other (fun j hj => by simp only [St.putE, look_put, look_del, if_neg (hne j hj)]; rfl) (fun j hj => hsame j (hne j hj)) hst
  | true =>
    simp only
    cases v <;> simp only [AV.ref] at hr <;> try cases hr
    · rename_i j q
      have hji : i = j := Nat.eq_of_beq_eq_true hmi
      subst hji
      cases hfl : flds q with
      | false => simp only [hfl]; exact honex
      | true =>
        simp only [hfl]
        obtain ⟨ej, b2, off2, k1, k2, k3, k4⟩ := hvx
        rw [he] at k1; cases k1
        rcases hal with ⟨t0, x0, x1, rfl, rfl⟩ | ⟨t0, x0, x1, rfl, rfl⟩
        · obtain ⟨p1, p2⟩ := Loc_place k3
          refine ⟨.var t0 x1, b2, off2, by simp [St.putE, look_put], ok_flds hfl k2, Loc_of ?_ (Nat.lt_of_lt_of_le p2 k.size), k4⟩
          simp only [Place, VR, VH, Ix.setB, Ent.ty] at p1 ⊢
          rw [Nav_flds (G' := w.heap) hfl]; exact p1
        · exfalso
          obtain ⟨p1, p2⟩ := Loc_place k3
          cases q with
          | nil =>
            simp only [Place, Nav_nil, VR, Option.some.injEq, Prod.mk.injEq] at p1
            omega
          | cons st q =>
            cases st with
            | fld n => have k2 : okP (.slc true t0) x0 (.fld n :: q) := k2; simp [okP] at k2
            | idx n => cases hfl
    · rename_i j q
      have hji : i = j := Nat.eq_of_beq_eq_true hmi
      subst hji
      cases q with
      | cons st q => exact honex
      | nil =>
        rcases hal with ⟨t0, x0, x1, rfl, rfl⟩ | ⟨t0, x0, x1, rfl, rfl⟩
        · exact honex
        · obtain ⟨ej, u2, y2, cs2, k1, k2, k3, k4, k5⟩ := hvx
          rw [he] at k1; cases k1
          rw [getP_nil] at k3; cases k3
          obtain ⟨⟨O1, _, hR1⟩, _⟩ := h.hs.ob i _ he
          have hcs2 := own_cells_inv k4 hR1.length
          exact ⟨.own (.slc true t0) x1, .slc true t0, x1, cs2, by simp [St.putE, look_put], okP_nil, getP_nil, own_cells (show ι.cells i = cs2 from hcs2.symm) (by rw [hcs2]; exact hR1.length), k5⟩
    · rename_i j q lo hi
      have hji : i = j := Nat.eq_of_beq_eq_true hmi
      subst hji
      cases q with
      | cons st q => exact honex
      | nil =>
        rcases hal with ⟨t0, x0, x1, rfl, rfl⟩ | ⟨t0, x0, x1, rfl, rfl⟩
        · exact honex
        · obtain ⟨ej, v2, k1, k2, k3, k4, k5, k6⟩ := hvx
          rw [he] at k1; cases k1
          obtain ⟨⟨O1, _, hR1⟩, _⟩ := h.hs.ob i _ he
          rcases k6 with ⟨t', l, a', cap, g1, g2, g3, g4⟩ | ⟨n, t', l, b2, off2, g1, g2, g3, g4⟩
          · have g1 : getP (.slc true t0) x0 [] = some ⟨.slc true t', l⟩ := g1
            rw [getP_nil] at g1; cases g1
            have hcs2 := own_cells_inv g3 hR1.length
            have hlen : List.length x1 = List.length x0 := by
              obtain ⟨⟨O'', _, hR''⟩, _⟩ := hob
              have hcc : (ι.setB i O').cells i = [.slice a' (List.length x0) cap] := (show ι.cells i = _ from hcs2.symm)
              rw [hcc] at hR''
              rcases hR'' with ⟨_, ⟨a2, c2, h1, _⟩, h3⟩ | ⟨b3, o3, cap3, O3, c1, _⟩
              · simp only [List.cons.injEq, Value.slice.injEq, and_true] at h1
                subst h3
                simp [h1.2.1]
              · simp only [List.cons.injEq, Value.slice.injEq, and_true] at c1
                exact c1.2.1.symm
            refine ⟨.own (.slc true t0) x1, v2, by simp [St.putE, look_put], okP_nil, k3, k4, k5, .inl ⟨t0, x1, a', cap, getP_nil, by rw [hlen]; exact g2, ?_, g4⟩⟩
            rw [hlen]
            exact own_cells (show ι.cells i = _ from hcs2.symm) rfl
          · exfalso
            simp only [Loc, Place, Nav_nil, VR] at g3
            simp at g3

end
end Go.Ex
