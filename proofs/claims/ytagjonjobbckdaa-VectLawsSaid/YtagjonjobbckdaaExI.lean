import Derived.Test.YtagjonjobbckdaaExH
import Derived.Laws.CopyRow
namespace Go.Ex

section
variable {E : Env} {B : Base} {S : Nat → Prop} {ι : Ix} {s : St} {a : Act} {w : World} {hp : List (Nat × Ent)} {H H' : Array Go.Obj}

/-- a row of cells written over -/
def over (cur : List Value) (off : Nat) (cs : List Value) : List Value := cur.take off ++ cs ++ cur.drop (off + cs.length)

theorem over_length {cur cs : List Value} {off : Nat} (h : off + cs.length ≤ cur.length) : (over cur off cs).length = cur.length := by
  simp only [over, List.length_append, List.length_take, List.length_drop]; omega

theorem over_in {cur cs : List Value} {off : Nat} (h : off + cs.length ≤ cur.length) : ((over cur off cs).drop off).take cs.length = cs := by
  have e : (cur.take off).length = off := by rw [List.length_take]; omega
  rw [over, List.append_assoc, List.drop_left' e, List.take_left]

theorem over_out {cur cs : List Value} {off : Nat} (h : off + cs.length ≤ cur.length) {j : Nat} (hj : j < off ∨ off + cs.length ≤ j) : (over cur off cs)[j]? = cur[j]? := by
  have e : (cur.take off).length = off := by rw [List.length_take]; omega
  rw [over]
  rcases hj with hj | hj
  · rw [List.append_assoc, List.getElem?_append_left (by omega), List.getElem?_take, if_pos hj]
  · rw [List.getElem?_append_right (by simp only [List.length_append, e]; omega)]
    simp only [List.length_append, e, List.getElem?_drop]
    congr 1; omega

theorem setRow_other {g c : Nat} {cs : Array Value} (h : c ≠ g) : (w.setRow g cs).heap[c]? = w.heap[c]? := by
  simp only [World.setRow, Array.getElem?_modify, if_neg (Ne.symm h)]

theorem setRow_size {g : Nat} {cs : Array Value} : (w.setRow g cs).heap.size = w.heap.size := by simp [World.setRow]

/-- a store, as a change of the heap -/
theorem store_chg {b off : Nat} {cs : List Value} (hf : Free w.heap b (off + cs.length)) :
    Chg w.heap (w.setRow b (over (blk w.heap b) off cs).toArray).heap b off cs.length ∧ cellsAt (w.setRow b (over (blk w.heap b) off cs).toArray).heap b off cs.length = cs := by
  obtain ⟨arr, T, e, hn⟩ := hf
  have hb : blk w.heap b = arr.toList := by simp only [blk, e]
  have hl : off + cs.length ≤ arr.toList.length := by simpa using hn
  have hnew := setRow_heap w b arr (over (blk w.heap b) off cs).toArray T (0, 0) e
  rw [hb] at hnew ⊢
  refine ⟨⟨⟨arr, _, T, e, hnew, ?_, ?_⟩, fun c hc _ => setRow_other hc⟩, ?_⟩
  · simp [over_length hl]
  · intro j hj; exact over_out hl hj
  · simp only [cellsAt, blk, hnew]; exact over_in hl

theorem run_storeVar {P : Program} {n : Nat} {T : TypeId} {t u : Ty} (ht : tyOk P n T t = true) (hu : u.sh = t.sh) {b off : Nat} (hf : Free w.heap b (off + t.size)) {O : List Nat} {cs : List Value} {x : u.den} (hR : Rep H S u O cs x) :
    (storeVar T ⟨b, off, none⟩ (toV u cs)).run P w = .ok () (w.setRow b (over (blk w.heap b) off cs).toArray) := by
  obtain ⟨arr, T', e, hn⟩ := hf
  have hl := hR.length
  have hs := size_er hu
  have h1 : (toV u cs).cells = cs.toArray := hR.cells
  have := run_storeCells_at P b off T' cs 0 arr w e (by omega) (fun v hv => (hR.plain v hv).1)
  simp only [storeVar, Sem.run_bind, run_sizeOf ht, Result.andThen, h1]
  have hsz : cs.toArray.size = t.size := by simp [hl, hs]
  simp only [hsz, ne_eq, not_true_eq_false, if_false]
  simp only [Nat.add_zero] at this
  have hb : blk w.heap b = arr.toList := by simp only [blk, e]
  rw [hb, over]
  simpa [Sem.run] using this

/-- an object whose part has been written -/
theorem OB.upd {i : Nat} {e : Ent} (ho : OB H S ι i e) (hbl : ∀ c ∈ blks ι i e, ¬ S c ∧ c < H.size) (hS : ∀ c, S c → c < H.size) {p : List Step} (hok : okP e.ty e.x p) {u : Ty} {y : u.den} (hg : getP e.ty e.x p = some ⟨u, y⟩)
    {b off : Nat} (hl : Loc H ι i e p = some (b, off)) {u' : Ty} {z : u'.den} {O2 : List Nat} (hc : Chg H H' b off u.size) (hsz : H'.size = H.size) (hz : Rep H' S u' O2 (cellsAt H' b off u'.size) z)
    (hO2 : ∀ c ∈ O2, c < H.size ∧ c ∉ blks ι i e) (hnd2 : O2.Nodup) {r : Sigma Ty.den} (hset : setP e.ty e.x p u' z = some r) :
    ∃ O, (∀ c ∈ O, c ∈ ι.own i ∨ c ∈ O2) ∧ OB H' S { ι with own := fun j => if j = i then O else ι.own j } i (match e with | .var _ _ => .var r.1 r.2 | .own _ _ => .own r.1 r.2) ∧ r.1.sh = e.ty.sh := by
  cases e with
  | var t x =>
    obtain ⟨⟨O, hO, hR⟩, hf, hnd⟩ := ho
    have hb := hf.blk
    simp only [Ent.ty, Ent.x] at hok hg hset
    obtain ⟨O1, O3, b', off', e1, e2, e3, e4, e5, e6⟩ := focus hR hb hok hg
    have hl : Nav H t p (ι.root i).1 (ι.root i).2 = some (b, off) := hl
    rw [e3] at hl; cases hl
    have hndO : (O1 ++ O3).Nodup := (e1.nodup_iff).1 ((hO.nodup_iff).2 (List.nodup_cons.1 hnd).2)
    have hmem : ∀ c ∈ O1, c ∈ ι.own i := fun c hc => hO.mem_iff.1 (e1.mem_iff.2 (by simp [hc]))
    have hroot := (List.nodup_cons.1 hnd).1
    have hbr := hbl (ι.root i).1 (by simp [blks])
    obtain ⟨O4, f1, f2, f3⟩ := unfocus e2 hg e3 hb hbr.2 (List.nodup_append.1 hndO).1 (fun h => hroot (hmem _ h)) (fun c hc => hbl c (by simp [blks, hmem c hc])) hbr.1 hS (fun _ h => h) hc hz hset
    refine ⟨O4, ?_, ⟨⟨O4, by simp, f2⟩, ?_, ?_⟩, f3⟩
    · intro c hc
      rcases List.mem_append.1 (f1.mem_iff.1 hc) with h | h
      · exact .inl (hmem c h)
      · exact .inr h
    · simp only []
      rw [size_er f3]
      exact hc.free hf
    · simp only [if_pos]
      rw [List.nodup_cons]
      refine ⟨fun h => ?_, (f1.nodup_iff).2 (List.nodup_append.2 ⟨(List.nodup_append.1 hndO).1, hnd2, ?_⟩)⟩
      · rcases List.mem_append.1 (f1.mem_iff.1 h) with h | h
        · exact hroot (hmem _ h)
        · exact (hO2 _ h).2 (by simp [blks])
      · rintro c h1 d h2 rfl
        exact (hO2 _ h2).2 (by simp [blks, hmem _ h1])
  | own t x =>
    obtain ⟨⟨O, hO, hR⟩, hnd⟩ := ho
    simp only [Ent.ty, Ent.x] at hok hg hset
    have hl : NavC H t (ι.cells i) p = some (b, off) := hl
    unfold NavC at hl
    split at hl
    · rename_i t' ad len cap j q hcs _
      -- the header laid in a block of its own
      let G : Array Go.Obj := H.push (.cells (ι.cells i).toArray 0)
      let G' : Array Go.Obj := H'.push (.cells (ι.cells i).toArray 0)
      have hold : ∀ {c}, c < H.size → G[c]? = H[c]? := fun h => push_old h
      have hold' : ∀ {c}, c < H.size → G'[c]? = H'[c]? := fun h => push_old (by omega)
      have hOl : ∀ c ∈ O, ¬ S c ∧ c < H.size := fun c hc => hbl c (by simp [blks, hO.mem_iff.1 hc])
      have hroot : cellsAt G H.size 0 1 = ι.cells i := by
        have : blk G H.size = ι.cells i := by simp [G, blk]
        simp only [cellsAt, this, List.drop_zero]
        exact List.take_of_length_le (by rw [hR.length]; exact Nat.le_refl 1)
      have hRG : Rep G S (.slc true t') O (cellsAt G H.size 0 1) x := by
        rw [hroot]; exact hR.stable (fun c hc => hold (hc.elim (fun h => (hOl c h).2) (hS c))) (fun _ h => h)
      have hbG : 0 + (Ty.slc true t').size ≤ (blk G H.size).length := by
        have : blk G H.size = ι.cells i := by simp [G, blk]
        rw [this, hR.length]; exact Nat.le_refl 1
      obtain ⟨O1, O3, b', off', e1, e2, e3, e4, e5, e6⟩ := focus (b := H.size) (off := 0) hRG hbG hok hg
      have hmemO : ∀ c ∈ O1, c ∈ O := fun c hc => e1.mem_iff.2 (by simp [hc])
      -- where the part lies
      have hbb : b' = b ∧ off' = off := by
        have hh : (blk G H.size)[0]? = some (.slice (some ad) len cap) := by simp [G, blk, hcs]
        have e3' : Nav G t' q ad.block (ad.off + j.toNat * t'.size) = some (b', off') := by
          have e3 := e3
          simp only [Nav] at e3
          rw [hh] at e3; exact e3
        rcases hR with ⟨_, h, _⟩ | ⟨b1, o1, cap', O', c1, c2, c3, c4, c5, rfl, c6⟩
        · rw [hcs] at h; cases h
        · rw [hcs] at c1; cases c1
          obtain ⟨hi, hok'⟩ := (show (0 ≤ j ∧ j < List.length x) ∧ okP t' (List.getD x j.toNat t'.dflt) q from hok)
          obtain ⟨b1', b2, b3, b4⟩ := idx_bound (sz := t'.size) hi
          obtain ⟨P1, P2, P3, rfl, g1, g2, g3⟩ := RepL.split (d := t'.dflt) (i := j.toNat) b1' c5
          rw [cellsAt_drop, cellsAt_take _ _ _ _ (by omega)] at g2
          have hb1 : b1 < H.size := (hOl b1 (by simp)).2
          have hnr : Nav G t' q b1 (o1 + j.toNat * t'.size) = Nav H t' q b1 (o1 + j.toNat * t'.size) :=
            nav_rep g2 (by omega) hok' (cellsAt_congr (hold hb1) _ _) (fun c hc => hold (hOl c (by simp [hc])).2)
          have e3'' : Nav G t' q b1 (o1 + j.toNat * t'.size) = some (b', off') := e3'
          rw [hnr] at e3''
          have hl' : Nav H t' q b1 (o1 + j.toNat * t'.size) = some (b, off) := hl
          rw [hl'] at e3''
          cases e3''
          exact ⟨rfl, rfl⟩
      obtain ⟨rfl, rfl⟩ := hbb
      have hblt : b' < H.size := by
        obtain ⟨a1, _, _, k, _⟩ := hc.at_
        exact (Array.getElem?_eq_some_iff.1 k).1
      have hcG : Chg G G' b' off' u.size := by
        obtain ⟨a1, a2, T, k1, k2, k3, k4⟩ := hc.at_
        refine ⟨⟨a1, a2, T, (hold hblt).trans k1, (hold' hblt).trans k2, k3, k4⟩, fun c hcb hcl => ?_⟩
        by_cases hcs2 : c < H.size
        · rw [hold' hcs2, hold hcs2]; exact hc.rest c hcb hcs2
        · have : c = H.size := by simp [G] at hcl; omega
          subst this
          have k5 : (H'.push (.cells (ι.cells i).toArray 0))[H'.size]? = some (.cells (ι.cells i).toArray 0) := push_new
          rw [hsz] at k5
          exact k5.trans push_new.symm
      have hndO : (O1 ++ O3).Nodup := (e1.nodup_iff).1 ((hO.nodup_iff).2 hnd)
      have hzG : Rep G' S u' O2 (cellsAt G' b' off' u'.size) z := by
        rw [cellsAt_congr (hold' hblt)]
        exact hz.stable (fun c hc => hold' (hc.elim (fun h => (hO2 c h).1) (hS c))) (fun _ h => h)
      have hnS : ¬ S H.size := fun h => Nat.lt_irrefl _ (hS _ h)
      obtain ⟨O4, f1, f2, f3⟩ := unfocus e2 hg e3 hbG (by simp [G]) (List.nodup_append.1 hndO).1 (fun h => Nat.lt_irrefl _ (hOl _ (hmemO _ h)).2)
        (fun c hc => ⟨(hOl c (hmemO c hc)).1, by have := (hOl c (hmemO c hc)).2; simp [G]; omega⟩) hnS (fun c hc => by have := hS c hc; simp [G]; omega) (fun _ h => h) hcG hzG hset
      have hO4 : ∀ c ∈ O4, c < H.size := by
        intro c hc
        rcases List.mem_append.1 (f1.mem_iff.1 hc) with h | h
        · exact (hOl c (hmemO c h)).2
        · exact (hO2 c h).1
      refine ⟨O4, ?_, ⟨⟨O4, by simp, ?_⟩, ?_⟩, f3⟩
      · intro c hc
        rcases List.mem_append.1 (f1.mem_iff.1 hc) with h | h
        · exact .inl (hO.mem_iff.1 (hmemO c h))
        · exact .inr h
      · have hr1 : r.1.size = 1 := by rw [size_er f3]; rfl
        have hroot' : cellsAt G' H.size 0 1 = ι.cells i := by
          have k5 : (H'.push (.cells (ι.cells i).toArray 0))[H'.size]? = some (.cells (ι.cells i).toArray 0) := push_new
          rw [hsz] at k5
          have : blk G' H.size = ι.cells i := by simp only [G', blk, k5]
          simp only [cellsAt, this, List.drop_zero]
          exact List.take_of_length_le (by rw [hR.length]; exact Nat.le_refl 1)
        rw [hr1, hroot'] at f2
        exact f2.stable (fun c hc => (hold' (hc.elim (hO4 c) (hS c))).symm) (fun _ h => h)
      · simp only [if_pos]
        refine (f1.nodup_iff).2 (List.nodup_append.2 ⟨(List.nodup_append.1 hndO).1, hnd2, ?_⟩)
        rintro c h1 d h2 rfl
        exact (hO2 _ h2).2 (by simp [blks, hO.mem_iff.1 (hmemO _ h1)])
    · cases hl

end
end Go.Ex
