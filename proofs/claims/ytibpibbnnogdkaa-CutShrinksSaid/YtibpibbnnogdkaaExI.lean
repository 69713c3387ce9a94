import Derived.Test.YtibpibbnnogdkaaExH
import Derived.Laws.CopyRow
namespace Go.Ex

section
variable {E : Env} {B : Base} {S : Nat → Prop} {ι : Ix} {s : St} {a : Act} {w : World} {hp : List (Nat × Ent)} {H H' : Array Go.Obj}

/-- a row of cells written over -/
def over (cur : List Value) (off : Nat) (cs : List Value) : List Value := cur.take off ++ cs ++ cur.drop (off + cs.length)

theorem over_length {cur cs : List Value} {off : Nat} (h : off + cs.length ≤ cur.length) : (over cur off cs).length = cur.length := by
  simp only [over, List.length_append, List.length_take, List.length_drop]; omega

theorem over_in {cur cs : List Value} {off : Nat} (h : off + cs.length ≤ cur.length) : ((over cur off cs).drop off).take cs.length = cs := by
  have e : (cur.take off).length = off := by rw [List.length_take]; omega
  rw [over, List.append_assoc, List.drop_left' e, List.take_left]

theorem over_out {cur cs : List Value} {off : Nat} (h : off + cs.length ≤ cur.length) {j : Nat} (hj : j < off ∨ off + cs.length ≤ j) : (over cur off cs)[j]? = cur[j]? := by
  have e : (cur.take off).length = off := by rw [List.length_take]; omega
  rw [over]
  rcases hj with hj | hj
  · rw [List.append_assoc, List.getElem?_append_left (by omega), List.getElem?_take, if_pos hj]
  · rw [List.getElem?_append_right (by simp only [List.length_append, e]; omega)]
    simp only [List.length_append, e, List.getElem?_drop]
    congr 1; omega

theorem setRow_other {g c : Nat} {cs : Array Value} (h : c ≠ g) : (w.setRow g cs).heap[c]? = w.heap[c]? := by
  simp only [World.setRow, Array.getElem?_modify, if_neg (Ne.symm h)]

theorem setRow_size {g : Nat} {cs : Array Value} : (w.setRow g cs).heap.size = w.heap.size := by simp [World.setRow]

/-- a store, as a change of the heap -/
theorem store_chg {b off : Nat} {cs : List Value} (hf : Free w.heap b (off + cs.length)) :
    Chg w.heap (w.setRow b (over (blk w.heap b) off cs).toArray).heap b off cs.length ∧ cellsAt (w.setRow b (over (blk w.heap b) off cs).toArray).heap b off cs.length = cs := by
  obtain ⟨arr, T, ⟨fz, e, ef⟩, hn⟩ := hf
  have hb : blk w.heap b = arr.toList := by simp only [blk, e]
  have hl : off + cs.length ≤ arr.toList.length := by simpa using hn
  have hnew := setRow_heap w b arr (over (blk w.heap b) off cs).toArray T fz e
  rw [hb] at hnew ⊢
  refine ⟨⟨⟨arr, _, T, ⟨fz, ⟨e, ef⟩, hnew⟩, ?_, ?_⟩, fun c hc _ => setRow_other hc⟩, ?_⟩
  · simp [over_length hl]
  · intro j hj; exact over_out hl hj
  · simp only [cellsAt, blk, hnew]; exact over_in hl

theorem run_storeCells_fz {P : Program} (g o : Nat) (t : TypeId) (fz : Nat × Nat) : ∀ (vs : List Value) (i : Nat) (cur : Array Value) (w : World), Lie w.heap g cur t fz → o + i + vs.length ≤ cur.size → (∀ v ∈ vs, v.oneCell' = true) →
    (storeCells ⟨g, o, none⟩ vs i).run P w = .ok () (w.setRow g (cur.toList.take (o + i) ++ vs ++ cur.toList.drop (o + i + vs.length)).toArray)
  | [], i, cur, w, hg, _, _ => by
    simp only [storeCells, List.append_nil, List.length_nil, Nat.add_zero, List.take_append_drop, Array.toArray_toList]
    rw [setRow_self w g cur t fz hg.1]
    rfl
  | v :: rest, i, cur, w, ⟨hg, hz⟩, hl, h1 => by
    have hi : o + i < cur.size := by simp at hl; omega
    have hadd : (⟨g, o, none⟩ : Addr).add i = ⟨g, o + i, none⟩ := by unfold Addr.add; split <;> simp_all
    have hcell : w.cell? ⟨g, o + i, none⟩ = some cur[o + i] := by simp [World.cell?, hg, hi]
    have hfro : w.frozen? ⟨g, o + i, none⟩ = false := by
      rcases hz with rfl | hz
      · simp [World.frozen?, hg]
      · obtain ⟨lo, hi'⟩ := fz
        have : ¬ lo ≤ o + i := by simp only at hz; omega
        simp [World.frozen?, hg, this]
    have hst : (store ((⟨g, o, none⟩ : Addr).add i) v).run P w = .ok () (w.setRow g (cur.setIfInBounds (o + i) v)) := by
      rw [hadd, run_store P w _ v _ (h1 v (by simp)), hcell]
      simp [hfro, setCell_eq_setRow w g (o + i) cur t fz v hg]
    have ih := run_storeCells_fz (P := P) g o t fz rest (i + 1) (cur.setIfInBounds (o + i) v) (w.setRow g (cur.setIfInBounds (o + i) v)) ⟨setRow_heap w g cur _ t _ hg, by simpa using hz⟩ (by simp at hl ⊢; omega) (fun x hx => h1 x (by simp [hx]))
    simp only [storeCells, Sem.run_bind, hst, Result.andThen_ok, ih, setRow_setRow]
    congr 3
    have e := list_seg_step cur.toList (o + i) v rest (by simp at hl ⊢; omega)
    simpa [Array.toList_setIfInBounds, Nat.add_assoc] using e

theorem run_storeVar {P : Program} {n : Nat} {T : TypeId} {t u : Ty} (ht : tyOk P n T t = true) (hu : u.sh = t.sh) {b off : Nat} (hf : Free w.heap b (off + t.size)) {O : List Nat} {cs : List Value} {x : u.den} (hR : Rep H S u O cs x) :
    (storeVar T ⟨b, off, none⟩ (toV u cs)).run P w = .ok () (w.setRow b (over (blk w.heap b) off cs).toArray) := by
  obtain ⟨arr, T', ⟨fz, e, ef⟩, hn⟩ := hf
  have hl := hR.length
  have hs := size_er hu
  have h1 : (toV u cs).cells = cs.toArray := hR.cells
  have := run_storeCells_fz (P := P) b off T' fz cs 0 arr w ⟨e, ef⟩ (by omega) (fun v hv => (hR.plain v hv).1)
  simp only [storeVar, Sem.run_bind, run_sizeOf ht, Result.andThen, h1]
  have hsz : cs.toArray.size = t.size := by simp [hl, hs]
  simp only [hsz, ne_eq, not_true_eq_false, if_false]
  simp only [Nat.add_zero] at this
  have hb : blk w.heap b = arr.toList := by simp only [blk, e]
  rw [hb, over]
  simpa [Sem.run] using this

theorem gh_chg {cs : List Value} {b off n : Nat} (hc : Chg H H' b off n) (hsz : H'.size = H.size) : Chg (gh H cs) (gh H' cs) b off n := by
  obtain ⟨a1, a2, T, ⟨fz, ⟨k1, kf⟩, k2⟩, k3, k4⟩ := hc.at_
  have hlt : b < H.size := (Array.getElem?_eq_some_iff.1 k1).1
  refine ⟨⟨a1, a2, T, ⟨fz, ⟨(gh_old hlt).trans k1, kf⟩, (gh_old (by omega)).trans k2⟩, k3, k4⟩, fun c hcb hcl => ?_⟩
  rw [gh_size] at hcl
  by_cases h : c < H.size
  · rw [gh_old h, gh_old (by omega)]; exact hc.rest c hcb h
  · have : c = H.size := by omega
    subst this
    rw [gh_new, ← hsz, gh_new]

theorem VH_chg {i : Nat} {e : Ent} {b off n : Nat} (hc : Chg H H' b off n) (hsz : H'.size = H.size) : Chg (VH H ι i e) (VH H' ι i e) b off n := by
  cases e <;> first | exact hc | exact gh_chg hc hsz

theorem VR_size {i : Nat} {e : Ent} (hsz : H'.size = H.size) : VR H' ι i e = VR H ι i e := by cases e <;> simp [VR, hsz]
theorem VH_size {i : Nat} {e : Ent} (hsz : H'.size = H.size) : (VH H' ι i e).size = (VH H ι i e).size := by cases e <;> simp [VH, gh_size, hsz]
theorem VH_le {i : Nat} {e : Ent} : H.size ≤ (VH H ι i e).size := by cases e <;> simp [VH, gh_size]

theorem upd_ty {e : Ent} {r : Sigma Ty.den} (he : e ≠ .bag) : (e.upd r).ty = r.1 := by cases e <;> first | rfl | exact absurd rfl he
theorem upd_bag {e : Ent} {r : Sigma Ty.den} (he : e ≠ .bag) : e.upd r ≠ .bag := by cases e <;> first | exact absurd rfl he | (intro h; cases h)
theorem VH_upd {i : Nat} {e : Ent} {r : Sigma Ty.den} {ι' : Ix} (h : ι'.cells i = ι.cells i) : VH H ι' i (e.upd r) = VH H ι i e := by cases e <;> simp [VH, Ent.upd, h]
theorem VR_upd {i : Nat} {e : Ent} {r : Sigma Ty.den} {ι' : Ix} (h : ι'.root i = ι.root i) : VR H ι' i (e.upd r) = VR H ι i e := by cases e <;> simp [VR, Ent.upd, h]

/-- an object whose part has been written -/
theorem OB.upd {i : Nat} {e : Ent} (he : e ≠ .bag) (ho : OB H S ι i e) (hbl : ∀ c ∈ blks ι i e, ¬ S c ∧ c < H.size) (hS : ∀ c, S c → c < H.size) {p : List Step} (hok : okP e.ty e.x p) {u : Ty} {y : u.den} (hg : getP e.ty e.x p = some ⟨u, y⟩)
    {b off : Nat} (hl : Loc H ι i e p = some (b, off)) {u' : Ty} {z : u'.den} {O2 : List Nat} (hc : Chg H H' b off u.size) (hsz : H'.size = H.size) (hz : Rep H' S u' O2 (cellsAt H' b off u'.size) z)
    (hO2 : ∀ c ∈ O2, c < H.size ∧ (c ∈ blks ι i e → ∃ Op, Rep H S u Op (cellsAt H b off u.size) y ∧ c ∈ Op)) (hnd2 : O2.Nodup) {r : Sigma Ty.den} (hset : setP e.ty e.x p u' z = some r) :
    ∃ O, (∀ c ∈ O, c ∈ ι.own i ∨ c ∈ O2) ∧ OB H' S (ι.setB i O) i (e.upd r) ∧ r.1.sh = e.ty.sh := by
  obtain ⟨O, hO, hR, hb, hnd, hlt, hns, hfr⟩ := ho.see he hS
  obtain ⟨O1, O3, b', off', e1, e2, e3, e4, e5, e6⟩ := focus hR hb hok hg
  obtain ⟨hpl, hbl2⟩ := Loc_place hl
  rw [Place_eq he] at hpl
  rw [e3] at hpl; cases hpl
  have hndO : (O1 ++ O3).Nodup := (e1.nodup_iff).1 ((hO.nodup_iff).2 (List.nodup_cons.1 hnd).2)
  have hmem : ∀ c ∈ O1, c ∈ ι.own i := fun c hc => hO.mem_iff.1 (e1.mem_iff.2 (by simp [hc]))
  have hmem3 : ∀ c ∈ O3, c ∈ ι.own i := fun c hc => hO.mem_iff.1 (e1.mem_iff.2 (by simp [hc]))
  have hroot := (List.nodup_cons.1 hnd).1
  have hown : ∀ c ∈ ι.own i, c ∈ blks ι i e := by intro c hc; cases e <;> simp [blks, hc]
  have hrootS : ¬ S (VR H ι i e).1 := by
    rcases hns with h | ⟨t, x, rfl⟩
    · exact h
    · exact (hbl _ (by simp [blks, VR])).1
  have hz' : Rep (VH H' ι i e) S u' O2 (cellsAt (VH H' ι i e) b off u'.size) z := by
    rw [cellsAt_congr (VH_old (by omega))]
    exact (VH_rep (fun c hc => by have := (hO2 c hc).1; omega) (fun c hc => by have := hS c hc; omega)).2 hz
  -- what is new is not in what stays
  have hO3 : ∀ c ∈ O2, c ∈ blks ι i e → c ∈ O3 := by
    intro c hc hcb
    obtain ⟨Op, h1, h2⟩ := (hO2 c hc).2 hcb
    have e4' : Rep H S u O3 (cellsAt H b off u.size) y := by
      rw [cellsAt_congr (VH_old hbl2)] at e4
      exact (VH_rep (fun c hc => ho.own_lt he (hmem3 c hc)) hS).1 e4
    rwa [h1.det e4'] at h2
  obtain ⟨O4, f1, f2, f3⟩ := unfocus e2 hg e3 hb hlt (List.nodup_append.1 hndO).1 (fun h => hroot (hmem _ h)) (fun c hc => ⟨(hbl c (hown c (hmem c hc))).1, Nat.lt_of_lt_of_le (hbl c (hown c (hmem c hc))).2 VH_le⟩) hrootS
    (fun c hc => Nat.lt_of_lt_of_le (hS c hc) VH_le) (fun _ h => h) (VH_chg hc hsz) hz' hset
  have hnd4 : O4.Nodup := (f1.nodup_iff).2 (List.nodup_append.2 ⟨(List.nodup_append.1 hndO).1, hnd2, by
    rintro c h1 d h2 rfl
    exact (List.nodup_append.1 hndO).2.2 c h1 c (hO3 c h2 (hown c (hmem c h1))) rfl⟩)
  have hsub : ∀ c ∈ O4, c ∈ ι.own i ∨ c ∈ O2 := by
    intro c hc
    rcases List.mem_append.1 (f1.mem_iff.1 hc) with h | h
    · exact .inl (hmem c h)
    · exact .inr h
  have hlt4 : ∀ c ∈ O4, c < H'.size := by
    intro c hc
    rw [hsz]
    rcases hsub c hc with h | h
    · exact ho.own_lt he h
    · exact (hO2 c h).1
  have f2' := (VH_rep hlt4 (fun c hc => by have := hS c hc; omega)).1 f2
  refine ⟨O4, hsub, ?_, f3⟩
  cases e with
  | var t x =>
    simp only [Ent.upd, OB, Ix.setB, if_true]
    obtain ⟨_, hf, _⟩ := ho
    refine ⟨⟨O4, List.Perm.refl _, f2'⟩, ?_, ?_⟩
    · rw [size_er f3]; exact hc.free hf
    · refine List.nodup_cons.2 ⟨fun h => ?_, hnd4⟩
      rcases hsub _ h with h1 | h1
      · exact hroot h1
      · exact hroot (hmem3 _ (hO3 _ h1 (List.mem_cons_self ..)))
  | own t x =>
    simp only [Ent.upd, OB, Ix.setB, if_true]
    refine ⟨⟨O4, List.Perm.refl _, ?_⟩, hnd4⟩
    obtain ⟨⟨O', _, hR'⟩, _⟩ := ho
    have hsz1 : r.1.size = t.size := size_er f3
    have : cellsAt (VH H' ι i (.own t x)) (VR H ι i (.own t x)).1 (VR H ι i (.own t x)).2 r.1.size = ι.cells i := by
      simp only [VH, VR]
      rw [← hsz]
      simp only [cellsAt, gh_blk, List.drop_zero]
      exact List.take_of_length_le (by rw [hR'.length, hsz1]; exact Nat.le_refl _)
    rw [this] at f2'
    exact f2'
  | bag => exact absurd rfl he

/-- what is kept behind a store -/
theorem Loc_keep {i : Nat} {e : Ent} (he : e ≠ .bag) (ho : OB H S ι i e) (hbl : ∀ c ∈ blks ι i e, ¬ S c ∧ c < H.size) (hS : ∀ c, S c → c < H.size) {p : List Step} (hok : okP e.ty e.x p) {u : Ty} {y : u.den} (hg : getP e.ty e.x p = some ⟨u, y⟩)
    {b off : Nat} (hl : Loc H ι i e p = some (b, off)) {u' : Ty} {z : u'.den} (hc : Chg H H' b off u.size) (hsz : H'.size = H.size) {r : Sigma Ty.den} (hset : setP e.ty e.x p u' z = some r)
    {q : List Step} (hk : kp p q = true) (hq : okP e.ty e.x q) (O : List Nat) {rr : Nat × Nat} (hr : Loc H ι i e q = some rr) : Loc H' (ι.setB i O) i (e.upd r) q = some rr ∧ okP (e.upd r).ty (e.upd r).x q := by
  obtain ⟨O', hO, hR, hb, hnd, hlt, hns, hfr⟩ := ho.see he hS
  obtain ⟨O1, O3, b', off', e1, e2, e3, e4, e5, e6⟩ := focus hR hb hok hg
  obtain ⟨hpl, hbl2⟩ := Loc_place hl
  rw [Place_eq he] at hpl
  rw [e3] at hpl; cases hpl
  have hndO : (O1 ++ O3).Nodup := (e1.nodup_iff).1 ((hO.nodup_iff).2 (List.nodup_cons.1 hnd).2)
  have hmem : ∀ c ∈ O1, c ∈ ι.own i := fun c hc => hO.mem_iff.1 (e1.mem_iff.2 (by simp [hc]))
  have key := nav_keep e2 hg e3 hb hlt (List.nodup_append.1 hndO).1 (fun h => (List.nodup_cons.1 hnd).1 (hmem _ h)) (fun c hc => Nat.lt_of_lt_of_le (ho.own_lt he (hmem c hc)) VH_le) (VH_chg hc hsz) hset hk hq
  obtain ⟨hr1, hr2⟩ := Loc_place (b := rr.1) (off := rr.2) hr
  rw [Place_eq he] at hr1
  have hu : okP (e.upd r).ty (e.upd r).x q := by
    cases e <;> first | exact key.2 | exact absurd rfl he
  refine ⟨Loc_of (b := rr.1) (off := rr.2) ?_ (by omega), hu⟩
  rw [Place_eq (upd_bag he), VH_upd (ι := ι) (ι' := ι.setB i O) rfl, VR_upd (ι := ι) (ι' := ι.setB i O) rfl, VR_size hsz, upd_ty he, key.1]
  exact hr1

/-- a part that is kept holds what it held -/
theorem Cells_keep {i : Nat} {e : Ent} (he : e ≠ .bag) (ho : OB H S ι i e) (hbl : ∀ c ∈ blks ι i e, ¬ S c ∧ c < H.size) (hS : ∀ c, S c → c < H.size) {p : List Step} (hok : okP e.ty e.x p) {u : Ty} {y : u.den} (hg : getP e.ty e.x p = some ⟨u, y⟩)
    {b off : Nat} (hl : Loc H ι i e p = some (b, off)) {u' : Ty} {z : u'.den} (hc : Chg H H' b off u.size) (hsz : H'.size = H.size) {r : Sigma Ty.den} (hset : setP e.ty e.x p u' z = some r)
    {q : List Step} (hk : kc e.ty p q = true) (hk2 : kp p q = true) (hq : okP e.ty e.x q) (O : List Nat) {u1 : Ty} {y1 : u1.den} (hg1 : getP e.ty e.x q = some ⟨u1, y1⟩) {cs : List Value} (hcs : Cells H ι i e q u1 cs) :
    okP (e.upd r).ty (e.upd r).x q ∧ (∃ y2 : u1.den, getP (e.upd r).ty (e.upd r).x q = some ⟨u1, y2⟩) ∧ Cells H' (ι.setB i O) i (e.upd r) q u1 cs := by
  obtain ⟨O', hO, hR, hb, hnd, hlt, hns, hfr⟩ := ho.see he hS
  obtain ⟨O1, O3, b', off', e1, e2, e3, e4, e5, e6⟩ := focus hR hb hok hg
  obtain ⟨hpl, hbl2⟩ := Loc_place hl
  rw [Place_eq he] at hpl
  rw [e3] at hpl; cases hpl
  have hndO : (O1 ++ O3).Nodup := (e1.nodup_iff).1 ((hO.nodup_iff).2 (List.nodup_cons.1 hnd).2)
  have hmem : ∀ c ∈ O1, c ∈ ι.own i := fun c hc => hO.mem_iff.1 (e1.mem_iff.2 (by simp [hc]))
  have hnb := fun h => (List.nodup_cons.1 hnd).1 (hmem _ h)
  have hlo : ∀ c ∈ O1, c < (VH H ι i e).size := fun c hc => Nat.lt_of_lt_of_le (ho.own_lt he (hmem c hc)) VH_le
  have key := nav_keep e2 hg e3 hb hlt (List.nodup_append.1 hndO).1 hnb hlo (VH_chg hc hsz) hset hk2 hq
  obtain ⟨⟨y2, hy2⟩, key2⟩ := cells_keep e2 hg e3 hb hlt (List.nodup_append.1 hndO).1 hnb hlo (VH_chg hc hsz) hset hk hq hg1
  obtain ⟨b1, o1, hp1, hc1⟩ := hcs
  rw [Place_eq he] at hp1
  have hc2 := key2 b1 o1 hp1
  refine ⟨?_, ⟨y2, ?_⟩, b1, o1, ?_, ?_⟩
  · cases e <;> first | exact key.2 | exact absurd rfl he
  · cases e <;> first | exact hy2 | exact absurd rfl he
  · rw [Place_eq (upd_bag he), VH_upd (ι := ι) (ι' := ι.setB i O) rfl, VR_upd (ι := ι) (ι' := ι.setB i O) rfl, VR_size hsz, upd_ty he, key.1]
    exact hp1
  · rw [VH_upd (ι := ι) (ι' := ι.setB i O) rfl, hc2]
    exact hc1

end
end Go.Ex
