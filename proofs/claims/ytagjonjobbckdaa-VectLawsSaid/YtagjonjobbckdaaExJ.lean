import Derived.Test.YtagjonjobbckdaaExI
namespace Go.Ex

section
variable {E : Env} {B : Base} {S : Nat → Prop} {ι : Ix} {s : St} {a : Act} {w : World} {hp : List (Nat × Ent)} {H H' : Array Go.Obj}

theorem getset_sh : ∀ {t : Ty} {x : t.den} {p : List Step} {u : Ty} {y : u.den} {u' : Ty} {z : u'.den} {r : Sigma Ty.den}, getP t x p = some ⟨u, y⟩ → setP t x p u' z = some r → u'.sh = u.sh := by
  intro t
  induction t with
  | pair a c iha ihc =>
    intro x p u y u' z r hg hs
    match p, hg, hs with
    | [], hg, hs =>
      simp only [getP, Option.some.injEq] at hg; cases hg
      simp only [setP] at hs
      split at hs
      · rename_i e; exact e
      · cases hs
    | .fld 0 :: p, hg, hs =>
      simp only [setP] at hs
      split at hs
      · rename_i t' w hw; exact iha hg hw
      · cases hs
    | .fld (n + 1) :: p, hg, hs =>
      simp only [setP] at hs
      split at hs
      · rename_i t' w hw; exact ihc hg hw
      · cases hs
    | .idx i :: p, _, hs => simp [setP] at hs
  | arr n t ih =>
    intro x p u y u' z r hg hs
    match p, hg, hs with
    | [], hg, hs =>
      simp only [getP, Option.some.injEq] at hg; cases hg
      simp only [setP] at hs
      split at hs
      · rename_i e; exact e
      · cases hs
    | .idx i :: p, hg, hs =>
      simp only [setP] at hs
      split at hs
      · rename_i t' w hw; exact ih hg hw
      · cases hs
    | .fld i :: p, _, hs => simp [setP] at hs
  | slc o t ih =>
    intro x p u y u' z r hg hs
    match p, hg, hs with
    | [], hg, hs =>
      have hg : some (⟨.slc o t, x⟩ : Sigma Ty.den) = some ⟨u, y⟩ := by cases o <;> exact hg
      cases hg
      have hs : (if u'.sh = (Ty.slc o t).sh then some (⟨u', z⟩ : Sigma Ty.den) else none) = some r := by cases o <;> exact hs
      split at hs
      · rename_i e; exact e
      · cases hs
    | .idx i :: p, hg, hs =>
      cases o with
      | false => simp [setP] at hs
      | true =>
        simp only [setP] at hs
        split at hs
        · rename_i t' w hw; exact ih hg hw
        · cases hs
    | .fld i :: p, _, hs => cases o <;> simp [setP] at hs
  | _ =>
    intro x p u y u' z r hg hs
    match p, hg, hs with
    | [], hg, hs =>
      simp only [getP, Option.some.injEq] at hg; cases hg
      simp only [setP] at hs
      split at hs
      · rename_i e; exact e
      · cases hs
    | .idx i :: p, _, hs => simp [setP] at hs
    | .fld i :: p, _, hs => simp [setP] at hs

/-- an owned slice's header laid in a block of its own: the ways are the same -/
theorem navC_push {i : Nat} {t' : Ty} {x : (Ty.slc true t').den} (ho : OB H S ι i (.own (.slc true t') x)) (hbl : ∀ c ∈ blks ι i (.own (.slc true t') x), c < H.size) {j : Int} {q : List Step} (hok : okP (.slc true t') x (.idx j :: q)) :
    NavC H (.slc true t') (ι.cells i) (.idx j :: q) = Nav (H.push (.cells (ι.cells i).toArray 0)) (.slc true t') (.idx j :: q) H.size 0 := by
  obtain ⟨⟨O, hO, hR⟩, hnd⟩ := ho
  have hold : ∀ {c}, c < H.size → (H.push (.cells (ι.cells i).toArray 0))[c]? = H[c]? := fun h => push_old h
  have hblk : blk (H.push (.cells (ι.cells i).toArray 0)) H.size = ι.cells i := by simp [blk]
  rcases hR with ⟨_, _, h⟩ | ⟨b1, o1, cap', O', c1, c2, c3, c4, c5, rfl, c6⟩
  · subst h; have := hok.1; simp at this; omega
  · have hh : (blk (H.push (.cells (ι.cells i).toArray 0)) H.size)[0]? = some (.slice (some ⟨b1, o1, none⟩) (List.length x) cap') := by rw [hblk, c1]; rfl
    obtain ⟨hi, hok'⟩ := hok
    obtain ⟨b1', b2, b3, b4⟩ := idx_bound (sz := t'.size) hi
    obtain ⟨P1, P2, P3, rfl, g1, g2, g3⟩ := RepL.split (d := t'.dflt) (i := j.toNat) b1' c5
    rw [cellsAt_drop, cellsAt_take _ _ _ _ (by omega)] at g2
    have hm : ∀ c, c ∈ b1 :: (P1 ++ (P2 ++ P3)) → c < H.size := fun c hc => hbl c (hO.mem_iff.1 hc)
    have hn := nav_rep (H' := H.push (.cells (ι.cells i).toArray 0)) g2 (by omega) hok' (cellsAt_congr (hold (hm b1 (by simp))) _ _) (fun c hc => hold (hm c (by simp [hc])))
    have e1 : NavC H (.slc true t') (ι.cells i) (.idx j :: q) = Nav H t' q b1 (o1 + j.toNat * t'.size) := by rw [c1]; rfl
    have e2 : Nav (H.push (.cells (ι.cells i).toArray 0)) (.slc true t') (.idx j :: q) H.size 0 = Nav (H.push (.cells (ι.cells i).toArray 0)) t' q b1 (o1 + j.toNat * t'.size) := by
      simp only [Nav]; rw [hh]
    rw [e1, e2, hn]

def Ent.upd (e : Ent) (r : Sigma Ty.den) : Ent := match e with | .var _ _ => .var r.1 r.2 | .own _ _ => .own r.1 r.2

theorem Loc_keep {i : Nat} {e : Ent} (ho : OB H S ι i e) (hbl : ∀ c ∈ blks ι i e, ¬ S c ∧ c < H.size) (hS : ∀ c, S c → c < H.size) {p : List Step} (hok : okP e.ty e.x p) {u : Ty} {y : u.den} (hg : getP e.ty e.x p = some ⟨u, y⟩)
    {b off : Nat} (hl : Loc H ι i e p = some (b, off)) {u' : Ty} {z : u'.den} (hc : Chg H H' b off u.size) (hsz : H'.size = H.size) {r : Sigma Ty.den} (hset : setP e.ty e.x p u' z = some r)
    {O : List Nat} (hnew : OB H' S { ι with own := fun j => if j = i then O else ι.own j } i (e.upd r)) (hO : ∀ c ∈ O, c < H.size)
    {q : List Step} (hk : kp p q = true) (hq : okP e.ty e.x q) : Loc H' ι i (e.upd r) q = Loc H ι i e q ∧ okP (e.upd r).ty (e.upd r).x q := by
  cases e with
  | var t x =>
    obtain ⟨⟨O', hO', hR⟩, hf, hnd⟩ := ho
    simp only [Ent.ty, Ent.x] at hok hg hset hq
    have hb := hf.blk
    obtain ⟨O1, O3, b', off', e1, e2, e3, e4, e5, e6⟩ := focus hR hb hok hg
    have hl : Nav H t p (ι.root i).1 (ι.root i).2 = some (b, off) := hl
    rw [e3] at hl; cases hl
    have hmem : ∀ c ∈ O1, c ∈ ι.own i := fun c hc => hO'.mem_iff.1 (e1.mem_iff.2 (by simp [hc]))
    have hndO : (O1 ++ O3).Nodup := (e1.nodup_iff).1 ((hO'.nodup_iff).2 (List.nodup_cons.1 hnd).2)
    exact nav_keep e2 hg e3 hb (hbl _ (by simp [blks])).2 (List.nodup_append.1 hndO).1 (fun h => (List.nodup_cons.1 hnd).1 (hmem _ h)) (fun c hc => (hbl c (by simp [blks, hmem c hc])).2) hc hset hk hq
  | own t x =>
    have ho' := ho
    obtain ⟨⟨O', hO', hR⟩, hnd⟩ := ho
    simp only [Ent.ty, Ent.x] at hok hg hset hq
    have hl : NavC H t (ι.cells i) p = some (b, off) := hl
    unfold NavC at hl
    split at hl
    · rename_i t' ad len cap j p' hcs _
      have hr : ∃ z', r = ⟨.slc true t', z'⟩ := by
        simp only [setP] at hset
        split at hset
        · split at hset
          · cases hset; exact ⟨_, rfl⟩
          · cases hset
        · cases hset
      obtain ⟨z', rfl⟩ := hr
      let G : Array Go.Obj := H.push (.cells (ι.cells i).toArray 0)
      let G' : Array Go.Obj := H'.push (.cells (ι.cells i).toArray 0)
      have hold : ∀ {c}, c < H.size → G[c]? = H[c]? := fun h => push_old h
      have hold' : ∀ {c}, c < H.size → G'[c]? = H'[c]? := fun h => push_old (by omega)
      have hOl : ∀ c ∈ O', ¬ S c ∧ c < H.size := fun c hc => hbl c (by simp [blks, hO'.mem_iff.1 hc])
      have hroot : cellsAt G H.size 0 1 = ι.cells i := by
        have : blk G H.size = ι.cells i := by simp [G, blk]
        simp only [cellsAt, this, List.drop_zero]
        exact List.take_of_length_le (by rw [hR.length]; exact Nat.le_refl 1)
      have hRG : Rep G S (.slc true t') O' (cellsAt G H.size 0 1) x := by
        rw [hroot]; exact hR.stable (fun c hc => hold (hc.elim (fun h => (hOl c h).2) (hS c))) (fun _ h => h)
      have hbG : 0 + (Ty.slc true t').size ≤ (blk G H.size).length := by
        have : blk G H.size = ι.cells i := by simp [G, blk]
        rw [this, hR.length]; exact Nat.le_refl 1
      obtain ⟨O1, O3, b', off', e1, e2, e3, e4, e5, e6⟩ := focus (b := H.size) (off := 0) hRG hbG hok hg
      have hmemO : ∀ c ∈ O1, c ∈ O' := fun c hc => e1.mem_iff.2 (by simp [hc])
      have hbb : b' = b ∧ off' = off := by
        have h1 := navC_push ho' (fun c hc => (hbl c hc).2) hok
        have h2 : NavC H (.slc true t') (ι.cells i) (.idx j :: p') = some (b, off) := by simp only [NavC, hcs]; exact hl
        rw [h2] at h1
        have e3' : Nav (H.push (.cells (ι.cells i).toArray 0)) (.slc true t') (.idx j :: p') H.size 0 = some (b', off') := e3
        rw [e3'] at h1
        cases h1; exact ⟨rfl, rfl⟩
      obtain ⟨rfl, rfl⟩ := hbb
      have hblt : b' < H.size := by
        obtain ⟨a1, _, _, k, _⟩ := hc.at_
        exact (Array.getElem?_eq_some_iff.1 k).1
      have k5 : (H'.push (.cells (ι.cells i).toArray 0))[H'.size]? = some (.cells (ι.cells i).toArray 0) := push_new
      rw [hsz] at k5
      have hcG : Chg G G' b' off' u.size := by
        obtain ⟨a1, a2, T, k1, k2, k3, k4⟩ := hc.at_
        refine ⟨⟨a1, a2, T, (hold hblt).trans k1, (hold' hblt).trans k2, k3, k4⟩, fun c hcb hcl => ?_⟩
        by_cases hcs2 : c < H.size
        · rw [hold' hcs2, hold hcs2]; exact hc.rest c hcb hcs2
        · have : c = H.size := by simp [G] at hcl; omega
          subst this
          exact k5.trans push_new.symm
      have hndO : (O1 ++ O3).Nodup := (e1.nodup_iff).1 ((hO'.nodup_iff).2 hnd)
      have key := nav_keep e2 hg e3 hbG (by simp [G]) (List.nodup_append.1 hndO).1 (fun h => Nat.lt_irrefl _ (hOl _ (hmemO _ h)).2)
        (fun c hc => by have := (hOl c (hmemO c hc)).2; simp [G]; omega) hcG hset hk hq
      refine ⟨?_, key.2⟩
      show NavC H' (.slc true t') (ι.cells i) q = NavC H (.slc true t') (ι.cells i) q
      match q, hq, hk, key with
      | [], _, _, _ => simp [NavC]
      | .fld n :: q, hq, _, _ => simp [okP] at hq
      | .idx j2 :: q, hq, hk, key =>
        rw [navC_push ho' (fun c hc => (hbl c hc).2) hq]
        have := navC_push (q := q) (j := j2) hnew (fun c hc => by rw [hsz]; exact hO c (by simpa [blks] using hc)) key.2
        rw [show ({ ι with own := fun j => if j = i then O else ι.own j } : Ix).cells i = ι.cells i from rfl] at this
        rw [this, hsz]
        exact key.1
    · cases hl

theorem Free.lt {b n : Nat} (h : Free H b n) : b < H.size := by
  obtain ⟨arr, T, e, _⟩ := h
  exact (Array.getElem?_eq_some_iff.1 e).1

/-- a store -/
theorem RS.store (h : RS B S ι s a w) {i : Nat} {e : Ent} (he : look i s.hp = some e) {p : List Step} (hok : okP e.ty e.x p) {u : Ty} {y : u.den} (hg : getP e.ty e.x p = some ⟨u, y⟩) {b off : Nat} (hl : Loc w.heap ι i e p = some (b, off))
    {u' : Ty} {z : u'.den} {cs : List Value} (hz : Rep w.heap S u' [] cs z) {r : Sigma Ty.den} (hset : setP e.ty e.x p u' z = some r) (hsize : u'.size = u.size) :
    ∃ ι', RS B S ι' ((s.kill i p).putE i (e.upd r)) a (w.setRow b (over (blk w.heap b) off cs).toArray) := by
  obtain ⟨O2, m1, m2, m3, m4, m5⟩ := Loc_mem (h.hs.ob i e he) hok hg hl
  have hcl : cs.length = u.size := by rw [hz.length, hsize]
  have hf : Free w.heap b (off + cs.length) := by rw [hcl]; exact m5
  obtain ⟨hc, hcell⟩ := store_chg hf
  rw [hcl] at hc hcell
  have hsz : (w.setRow b (over (blk w.heap b) off cs).toArray).heap.size = w.heap.size := setRow_size
  generalize hw' : w.setRow b (over (blk w.heap b) off cs).toArray = w' at *
  have hbl := h.hs.bl i e he
  have hnS : ¬ S b := (hbl b m4).1
  have hold : ∀ c, c ≠ b → w'.heap[c]? = w.heap[c]? := by intro c hcb; rw [← hw']; exact setRow_other hcb
  have hz' : Rep w'.heap S u' [] (cellsAt w'.heap b off u'.size) z := by
    rw [hsize, hcell]
    exact hz.stable (fun c hc => by rcases hc with hc | hc; cases hc; exact hold c (fun e => hnS (e ▸ hc))) (fun _ h => h)
  obtain ⟨O, n1, n2, n3⟩ := OB.upd (h.hs.ob i e he) (fun c hc => ⟨(hbl c hc).1, (hbl c hc).2.2⟩) h.hs.slt hok hg hl hc hsz hz' (by simp) List.nodup_nil hset
  have hOm : ∀ c ∈ O, c ∈ ι.own i := fun c hc => (n1 c hc).elim id (fun h => by cases h)
  have hown : ∀ c ∈ ι.own i, c ∈ blks ι i e := by intro c hc; cases e <;> simp [blks, hc]
  have hblks : ∀ c ∈ blks { ι with own := fun j => if j = i then O else ι.own j } i (e.upd r), c ∈ blks ι i e := by
    intro c hc
    cases e with
    | var t x =>
      simp only [blks, Ent.upd, if_pos, List.mem_cons] at hc ⊢
      exact hc.imp id (hOm c)
    | own t x =>
      simp only [blks, Ent.upd, if_pos] at hc ⊢
      exact hOm c hc
  have hsame : ∀ j, j ≠ i → SameAt ι { ι with own := fun j => if j = i then O else ι.own j } j := by intro j hj; simp [SameAt, hj]
  have n2 : OB w'.heap S { ι with own := fun j => if j = i then O else ι.own j } i (e.upd r) := by cases e <;> exact n2
  refine ⟨{ ι with own := fun j => if j = i then O else ι.own j }, ⟨?_, ?_, ?_, ?_, ?_, ?_, h.hs.s0, h.hs.s1, ?_, ?_, ?_⟩, h.dfr, h.sz, ?_⟩
  · rw [← hw']; exact h.hs.os
  · rw [← hw']; exact h.hs.tape
  · rw [← hw']; exact h.hs.out
  · rw [hsz]; exact h.hs.size
  · intro c hc1 hm
    rw [hold c (by rintro rfl; rcases (hbl c m4).2.1 with h | h; omega; exact hm h)]
    exact h.hs.frame c hc1 hm
  · intro c hc1; rw [hsz]; exact h.hs.slt c hc1
  · intro j ej hj
    simp only [St.putE, look_put] at hj
    by_cases e1 : j = i
    · subst e1; rw [if_pos rfl] at hj; cases hj; exact n2
    · rw [if_neg e1] at hj
      have hj : look j s.hp = some ej := hj
      refine (hsame j e1).ob.2 ((h.hs.ob j ej hj).stable (fun c hcm => hold c ?_) (fun _ h => h))
      rintro rfl
      rcases hcm with hcm | hcm
      · exact h.hs.dj j i ej e hj he e1 c hcm m4
      · exact hnS hcm
  · intro j ej hj c hc
    simp only [St.putE, look_put] at hj
    rw [hsz]
    by_cases e1 : j = i
    · subst e1; rw [if_pos rfl] at hj; cases hj; exact hbl c (hblks c hc)
    · rw [if_neg e1] at hj
      rw [(hsame j e1).blks] at hc
      exact h.hs.bl j ej hj c hc
  · intro j k ej ek hj hk hjk c hc
    simp only [St.putE, look_put] at hj hk
    by_cases e1 : j = i
    · subst e1
      rw [if_pos rfl] at hj; cases hj
      rw [if_neg (Ne.symm hjk)] at hk
      rw [(hsame k (Ne.symm hjk)).blks]
      exact h.hs.dj j k e ek he hk hjk c (hblks c hc)
    · rw [if_neg e1] at hj
      rw [(hsame j e1).blks] at hc
      by_cases e2 : k = i
      · subst e2
        rw [if_pos rfl] at hk; cases hk
        exact fun hcc => h.hs.dj j k ej e hj he hjk c hc (hblks c hcc)
      · rw [if_neg e2] at hk
        rw [(hsame k e2).blks]
        exact h.hs.dj j k ej ek hj hk hjk c hc
  · intro t v hv
    simp only [St.putE, St.kill, look_mapA, Option.map_eq_some_iff] at hv
    obtain ⟨v0, hv0, rfl⟩ := hv
    have h0 := h.fr t v0 hv0
    refine VX.map (fun c hc => hold c (fun e => hnS (e ▸ hc))) (fun _ h => h) ?_ ?_ h0
    · rintro j q vs ⟨ej, b2, off2, k1, k2, k3, k4⟩
      by_cases e1 : i = j
      · subst e1
        rw [he] at k1; cases k1
        simp only [Nat.beq_refl]
        cases hkp : kp p q with
        | false => rw [k4]; exact ⟨_, rfl⟩
        | true =>
          obtain ⟨l1, l2⟩ := Loc_keep (h.hs.ob i e he) (fun c hc => ⟨(hbl c hc).1, (hbl c hc).2.2⟩) h.hs.slt hok hg hl hc hsz hset n2 (fun c hc => (hbl c (hown c (hOm c hc))).2.2) hkp k2
          refine ⟨e.upd r, b2, off2, by simp [St.putE, look_put], l2, ?_, k4⟩
          rw [← k3, ← l1]
          cases e <;> rfl
      · simp only [beq_ne e1]
        have e1' : j ≠ i := Ne.symm e1
        refine ⟨ej, b2, off2, by simp only [St.putE, look_put, if_neg e1']; exact k1, k2, ?_, k4⟩
        rw [(hsame j e1').loc, ← k3]
        refine Loc_stable (h.hs.ob j ej k1) (fun c hcm => hold c ?_) k2
        rintro rfl
        exact h.hs.dj j i ej e k1 he e1' c hcm m4
    · rintro j q vs ⟨ej, u2, y2, cs2, k1, k2, k3, k4, k5⟩
      by_cases e1 : i = j
      · subst e1; simp only [Nat.beq_refl]; rw [k5]; exact ⟨_, rfl⟩
      · simp only [beq_ne e1]
        have e1' : j ≠ i := Ne.symm e1
        refine ⟨ej, u2, y2, cs2, by simp only [St.putE, look_put, if_neg e1']; exact k1, k2, k3, (hsame j e1').cells_.2 ?_, k5⟩
        refine Cells_stable (h.hs.ob j ej k1) (fun c hcm => hold c ?_) k2 k3 k4
        rintro rfl
        exact h.hs.dj j i ej e k1 he e1' c hcm m4

theorem storeA_sound (hE : EnvOk E) (h : RS B S ι s a w) {o : Oper} {T : TypeId} {x y : Operand} (ho : o.op = .store T x y) {i : Nat} {p : List Step} (hx : s.ev x = .ptr i p) : ORok E.P B o a w (storeA E T i p (s.ev y) s) := by
  have hvx := h.ev x
  rw [hx] at hvx
  obtain ⟨e, b, off, h1, h2, h3, h4⟩ := hvx
  have h4 : a.eval x = .pointer (some ⟨b, off, none⟩) := by simpa using h4
  have hvy := h.ev y
  -- the one store
  have core : ∀ {u : Ty} {y0 : u.den} {u' : Ty} {z : u'.den} {cs : List Value} {r : Sigma Ty.den}, getP e.ty e.x p = some ⟨u, y0⟩ → chk E T u = true → Rep w.heap S u' [] cs z → a.eval y = toV u' cs → setP e.ty e.x p u' z = some r → u'.sh = u.sh →
      OpOk E.P B o a w (.raw undef) ((s.kill i p).putE i (e.upd r)) := by
    intro u y0 u' z cs r hg hck hz hey hset hsh next Q hn
    obtain ⟨O2, m1, m2, m3, m4, m5⟩ := Loc_mem (h.hs.ob i e h1) h2 hg h3
    obtain ⟨ι', hrs⟩ := h.store h1 h2 hg h3 hz hset (size_er hsh)
    unfold Oper.wp
    have hrun : (execOp a.eval o).run E.P w = .ok .skip (w.setRow b (over (blk w.heap b) off cs).toArray) := by
      simp [execOp, ho, h4, hey, Instr.storeAt, Instr.sureAddr, run_storeVar (chk_ok hE hck) hsh m5 hz]
    rw [hrun]
    exact hn S ι' _ undef hrs rfl
  have getsh : ∀ {t : Ty} {x : t.den} {p : List Step} {u : Ty} {y : u.den} {u' : Ty} {z : u'.den} {r : Sigma Ty.den}, getP t x p = some ⟨u, y⟩ → setP t x p u' z = some r → u'.sh = u.sh := by
    intro t x p u y u' z r h1 h2
    exact getset_sh h1 h2
  unfold storeA
  split
  · rename_i t z hob
    have : e = .var t z := by rw [St.obj, h1] at hob; cases hob; rfl
    subst this
    split
    · trivial
    · rename_i u y0 hg
      split
      · trivial
      · rename_i hck
        split
        · rename_i u' z' hy
          rw [hy] at hvy
          obtain ⟨cs, e2, hR⟩ := hvy
          split
          · rename_i t' y' hset
            exact core hg hck hR (by simpa using e2) hset (getsh hg hset)
          · trivial
        · rename_i hy
          rw [hy] at hvy
          split
          · rename_i o' u' _
            split
            · rename_i t' y' hset
              refine core (u' := .slc o' u') (z := ([] : List u'.den)) (cs := [.slice none 0 0]) hg hck (.inl ⟨rfl, rfl, rfl⟩) ?_ hset (getsh hg hset)
              have : [a.eval y] = [Value.slice none 0 0] := hvy
              simpa [toV, Ty.agg] using this
            · trivial
          · trivial
        · trivial
  · rename_i t z hob
    have : e = .own t z := by rw [St.obj, h1] at hob; cases hob; rfl
    subst this
    split
    · trivial
    · rename_i u y0 hg
      split
      · trivial
      · rename_i hck
        split
        · rename_i u' z' hy
          rw [hy] at hvy
          obtain ⟨cs, e2, hR⟩ := hvy
          split
          · rename_i t' y' hset
            exact core hg hck hR (by simpa using e2) hset (getsh hg hset)
          · trivial
        · rename_i hy
          rw [hy] at hvy
          split
          · rename_i o' u' _
            split
            · rename_i t' y' hset
              refine core (u' := .slc o' u') (z := ([] : List u'.den)) (cs := [.slice none 0 0]) hg hck (.inl ⟨rfl, rfl, rfl⟩) ?_ hset (getsh hg hset)
              have : [a.eval y] = [Value.slice none 0 0] := hvy
              simpa [toV, Ty.agg] using this
            · trivial
          · trivial
        · trivial
  · trivial

end
end Go.Ex
