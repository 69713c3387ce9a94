import Derived.Test.YtibpibbnnogdkaaExT2
import Derived.Deep.AppendSrc
namespace Go.Ex

section
variable {E : Env} {B : Base} {S S' : Nat → Prop} {ι : Ix} {s : St} {a : Act} {w : World} {hp : List (Nat × Ent)} {H H' : Array Go.Obj}

/-- append into new memory -/
theorem append_grow {P : Program} {k : Nat} {T U : TypeId} {t : Ty} (hT : tyOk P k T (.slc true t) = true) (ty : TypeId) (hS : ∀ c, S c → c < w.heap.size)
    {base : Option Addr} {cap : Nat} {l m : List t.den} {O1 Og : List Nat} {x : Value} {olds news : List Value}
    (hold : (Builtin.firstCells t.size l.length (.slice base l.length cap)).run P w.drew = .ok olds.toArray w.drew) (hL : RepL (Rep w.heap S t) t.size O1 olds l)
    (hs : Src P t.size U x m.length news w) (hN : RepL (Rep w.heap S t) t.size Og news m) (hnd : (O1 ++ Og).Nodup) (hO : ∀ c ∈ O1 ++ Og, c < w.heap.size)
    (hcap : cap < l.length + m.length) (h63 : l.length + m.length ≤ 140737488355328) (hby : (l.length + m.length) * t.wb ≤ 140737488355328) :
    ∃ v' w' O', (Builtin.append_ #[T, U] ty #[.slice base l.length cap, x]).run P w = .ok v' w' ∧ Rep w'.heap S (.slc true t) O' [v'] (l ++ m) ∧ O'.Nodup ∧ Past [] w w' ∧ w.heap.size < w'.heap.size ∧ ∀ c ∈ O', (c = w.heap.size ∨ c ∈ O1 ++ Og) ∧ c < w'.heap.size := by
  obtain ⟨et, k2, h1, h2, h3⟩ := tyOk_slc hT
  obtain ⟨i, hi, hisz, hiz⟩ := tyOk_info h3
  have hib := tyOk_bytes h3 hi
  have hl1 : olds.length = l.length * t.size := RepL.length (fun _ _ _ h => h.length) hL
  have hl2 : news.length = m.length * t.size := RepL.length (fun _ _ _ h => h.length) hN
  have hge := grownCap_ge w (l.length + m.length) cap et
  have hmax := grownCap_le_maxLen w (l.length + m.length) cap et (by unfold maxLen; omega)
  have hzz : (toV t (zc t)).cells = (zc t).toArray := (Rep.dflt (H := w.heap) (S := S) t).cells
  have hrun := run_append_grow_src (P := P) w T U ty et i (toV t (zc t)) h1 hi hiz base l.length cap olds (by rw [hisz]; exact hold) x m.length news (by rw [hisz]; exact hs) hcap (by omega) (by rw [hib]; exact growslice_fits hcap hby)
  generalize hgc : grownCap w (l.length + m.length) cap et = gc at hrun hge hmax
  have hpast : Past [] w (w.drew.alloc (.cells ((olds ++ news).toArray ++ Builtin.zeroCells (toV t (zc t)).cells (gc - (l.length + m.length))) et)) :=
    Past.trans Past.drew (Past.push _) (by simp)
  have hcells : ((olds ++ news).toArray ++ Builtin.zeroCells (toV t (zc t)).cells (gc - (l.length + m.length))) = ((olds ++ news) ++ (List.replicate (gc - (l.length + m.length)) (zc t)).flatten).toArray := by
    rw [hzz, zeroCells_eq]; simp
  rw [hcells] at hrun hpast
  have hlt : (l ++ m).length = l.length + m.length := List.length_append
  obtain ⟨O', q1, q2, q3⟩ := row_repW (w := w) (t := t) (l := l ++ m) (cap := gc) hS (O := O1 ++ Og) (cells := (olds ++ news) ++ (List.replicate (gc - (l.length + m.length)) (zc t)).flatten) (by
    rw [hlt, List.take_left' (by rw [List.length_append, hl1, hl2, Nat.add_mul])]
    exact RepL.append (fun _ _ _ h => h.length) hL hN) (by rw [hlt]; exact hge) hmax (by
    simp only [List.length_append, hl1, hl2, List.length_flatten, List.map_replicate, List.sum_replicate_nat, zc_length]
    rw [← Nat.add_mul, ← Nat.add_mul]; exact Nat.mul_le_mul_right _ (by omega)) et hO (w' := w.drew.alloc (.cells ((olds ++ news) ++ (List.replicate (gc - (l.length + m.length)) (zc t)).flatten).toArray et)) rfl (.inl rfl)
  have hsz : (w.drew.alloc (.cells ((olds ++ news) ++ (List.replicate (gc - (l.length + m.length)) (zc t)).flatten).toArray et)).heap.size = w.heap.size + 1 := by
    show (w.heap.push _).size = _
    simp
  refine ⟨_, _, O', hrun, ?_, q3 hnd, hpast, by omega, fun c hc => ⟨q2 c hc, ?_⟩⟩
  · rw [hlt] at q1; exact q1
  · rcases q2 c hc with rfl | h
    · omega
    · have := hO c h; omega

/-- append in place -/
theorem append_room {P : Program} {k : Nat} {T U : TypeId} {t : Ty} (hT : tyOk P k T (.slc true t) = true) (ty : TypeId)
    {b off cap : Nat} {l m : List t.den} {O1 Og : List Nat} {x : Value} {news : List Value}
    (hl : l.length ≤ cap) (hcm : cap ≤ maxLen) (hfree : Free w.heap b (off + cap * t.size)) (hL : RepL (Rep w.heap S t) t.size O1 (cellsAt w.heap b off (l.length * t.size)) l)
    (hs : Src P t.size U x m.length news w) (hN : RepL (Rep w.heap S t) t.size Og news m) (hnd : (b :: O1 ++ Og).Nodup) (hbS : ¬ S b)
    (hroom : l.length + m.length ≤ cap) (h1c : 1 ≤ cap) :
    ∃ w', (Builtin.append_ #[T, U] ty #[.slice (some ⟨b, off, none⟩) l.length cap, x]).run P w = .ok (.slice (some ⟨b, off, none⟩) (l.length + m.length) cap) w' ∧
      Chg w.heap w'.heap b (off + l.length * t.size) news.length ∧ w'.heap.size = w.heap.size ∧ Rep w'.heap S (.slc true t) (b :: (O1 ++ Og)) [.slice (some ⟨b, off, none⟩) (l.length + m.length) cap] (l ++ m) ∧ Past [b] w w' ∧
      Rep w'.heap S (.slc true t) (b :: O1) [.slice (some ⟨b, off, none⟩) l.length cap] l := by
  obtain ⟨et, k2, h1, h2, h3⟩ := tyOk_slc hT
  obtain ⟨i, hi, hisz, hiz⟩ := tyOk_info h3
  have hl2 : news.length = m.length * t.size := RepL.length (fun _ _ _ h => h.length) hN
  have hle : l.length * t.size + m.length * t.size ≤ cap * t.size := by rw [← Nat.add_mul]; exact Nat.mul_le_mul_right _ hroom
  have hlt : (l ++ m).length = l.length + m.length := List.length_append
  obtain ⟨arr, T', ⟨fz, e, ef⟩, hn⟩ := hfree
  have hbl : blk w.heap b = arr.toList := by simp only [blk, e]
  have hst := run_storeCells_fz (P := P) b (off + l.length * t.size) T' fz news 0 arr w ⟨e, ef⟩ (by omega) hs.one
  simp only [Nat.add_zero] at hst
  have hover : arr.toList.take (off + l.length * t.size) ++ news ++ arr.toList.drop (off + l.length * t.size + news.length) = over (blk w.heap b) (off + l.length * t.size) news := by rw [hbl]; rfl
  rw [hover] at hst
  have hrun : (Builtin.append_ #[T, U] ty #[.slice (some ⟨b, off, none⟩) l.length cap, x]).run P w = .ok (.slice (some ⟨b, off, none⟩) (l.length + m.length) cap) (w.setRow b (over (blk w.heap b) (off + l.length * t.size) news).toArray) := by
    rw [← hisz] at hs hst ⊢
    rcases hs.kind with ⟨e', hk⟩ | hk <;> simp [Builtin.append_, run_underlying h1, run_underlying hk, sizeOf, typeInfo, hi, hs.len, hroom, hs.cells, Addr.add_lit, hst]
  obtain ⟨hc, hcs⟩ := store_chg (w := w) (b := b) (off := off + l.length * t.size) (cs := news) ⟨arr, T', ⟨fz, e, ef⟩, by omega⟩
  have hblt : b < w.heap.size := (Array.getElem?_eq_some_iff.1 e).1
  have hndb := (List.nodup_cons.1 (by simpa using hnd : (b :: (O1 ++ Og)).Nodup))
  have hold : cellsAt (w.setRow b (over (blk w.heap b) (off + l.length * t.size) news).toArray).heap b off (l.length * t.size) = cellsAt w.heap b off (l.length * t.size) := hc.cells hblt (fun _ => .inl (Nat.le_refl _))
  have hst : ∀ {O : List Nat} {cs : List Value} {y : t.den}, (∀ c ∈ O, c ∈ O1 ++ Og) → Rep w.heap S t O cs y → Rep (w.setRow b (over (blk w.heap b) (off + l.length * t.size) news).toArray).heap S t O cs y := by
    intro O cs y hO hr
    refine hr.stable (fun c hcc => setRow_other ?_) (fun _ h => h)
    intro hcb
    rw [hcb] at hcc
    rcases hcc with h | h
    · exact hndb.1 (hO _ h)
    · exact hbS h
  have hfr : Free (w.setRow b (over (blk w.heap b) (off + l.length * t.size) news).toArray).heap b (off + cap * t.size) := hc.free ⟨arr, T', ⟨fz, e, ef⟩, hn⟩
  refine ⟨_, hrun, hc, setRow_size, ?_, ⟨rfl, rfl, rfl, by rw [setRow_size]; exact Nat.le_refl _, fun c hcl hcb => setRow_other (by simpa using hcb)⟩, ?_⟩
  rotate_left
  · refine .inr ⟨b, off, cap, O1, rfl, hl, ⟨hcm, fun _ => h1c⟩, ?_, ?_, rfl, hfr⟩
    · have := hfr.blk
      have := Nat.mul_le_mul_right t.size hl
      omega
    · rw [hold]
      exact RepL.mono (L := O1) (fun _ h => h) (fun O cs y hO hr => hst (fun c hc => by simp [hO c hc]) hr) hL
  refine .inr ⟨b, off, cap, O1 ++ Og, by rw [hlt], by rw [hlt]; exact hroom, ⟨hcm, fun _ => h1c⟩, ?_, ?_, rfl, hfr⟩
  · have := hfr.blk
    rw [hlt, Nat.add_mul]; omega
  · rw [hlt, Nat.add_mul, cellsAt_add, hold, ← hl2, hcs]
    exact RepL.append (fun _ _ _ h => h.length) (RepL.mono (L := O1) (fun _ h => h) (fun O cs y hO hr => hst (fun c hc => by simp [hO c hc]) hr) hL) (RepL.mono (L := Og) (fun _ h => h) (fun O cs y hO hr => hst (fun c hc => by simp [hO c hc]) hr) hN)

/-- append to a slice of the call's own -/
theorem append_run {P : Program} {k : Nat} {T U : TypeId} {t : Ty} (hT : tyOk P k T (.slc true t) = true) (ty : TypeId) (hS : ∀ c, S c → c < w.heap.size)
    {v : Value} {l m : List t.den} {Of Og : List Nat} {x : Value} {news : List Value}
    (hR : Rep w.heap S (.slc true t) Of [v] l) (hs : Src P t.size U x m.length news w) (hN : RepL (Rep w.heap S t) t.size Og news m)
    (hnd : (Of ++ Og).Nodup) (hO : ∀ c ∈ Of ++ Og, ¬ S c ∧ c < w.heap.size)
    (h63 : l.length + m.length ≤ 140737488355328) (hby : (l.length + m.length) * t.wb ≤ 140737488355328) :
    ∃ v' w' O', (Builtin.append_ #[T, U] ty #[v, x]).run P w = .ok v' w' ∧ Rep w'.heap S (.slc true t) O' [v'] (l ++ m) ∧ O'.Nodup ∧ Past Of w w' ∧ (∀ c ∈ O', (w.heap.size ≤ c ∨ c ∈ Of ++ Og) ∧ c < w'.heap.size) ∧ Rep w'.heap S (.slc true t) Of [v] l ∧
      (Past [] w w' ∨ ∃ b off cap n, v = .slice (some ⟨b, off, none⟩) l.length cap ∧ l.length ≤ cap ∧ 1 ≤ cap ∧ Chg w.heap w'.heap b (off + l.length * t.size) n ∧ w'.heap.size = w.heap.size) := by
  have hR0 := hR
  rcases hR with ⟨rfl, ⟨A, c, e, hc⟩, rfl⟩ | ⟨b, off, cap, O1, e, c2, c3, c4, c5, rfl, c7⟩
  · obtain rfl := hc rfl
    simp only [List.cons.injEq, and_true] at e
    subst e
    by_cases h0 : m.length = 0
    · obtain rfl : m = [] := List.length_eq_zero_iff.1 h0
      obtain ⟨rfl, rfl⟩ := hN
      obtain ⟨et, k2, h1, h2, h3⟩ := tyOk_slc hT
      obtain ⟨i, hi, hisz, hiz⟩ := tyOk_info h3
      refine ⟨.slice A 0 0, w, [], ?_, .inl ⟨rfl, ⟨A, 0, rfl, fun _ => rfl⟩, rfl⟩, List.nodup_nil, ⟨rfl, rfl, rfl, Nat.le_refl _, fun _ _ _ => rfl⟩, by simp, hR0, .inl ⟨rfl, rfl, rfl, Nat.le_refl _, fun _ _ _ => rfl⟩⟩
      rw [← hisz] at hs
      have hl0 := hs.len
      have hc0 := hs.cells
      simp only [List.length_nil] at hl0 hc0
      rcases hs.kind with ⟨e', hk⟩ | hk <;> cases A <;> simp [Builtin.append_, run_underlying h1, run_underlying hk, sizeOf, typeInfo, hi, hl0, hc0, storeCells]
    · obtain ⟨v', w', O', q1, q2, q3, q4, q5, q6⟩ := append_grow hT ty hS (base := A) (cap := 0) (l := ([] : List t.den)) (olds := []) (O1 := []) (by
        cases A with
        | none => exact run_firstCells_none w.drew t.size 0 0 0
        | some A => exact run_firstCells_some w.drew t.size 0 A 0 0 [] (by simp) (by simp)) ⟨rfl, rfl⟩ hs hN (by simpa using hnd) (fun c hc => (hO c (by simpa using hc)).2) (by simp; omega) h63 hby
      exact ⟨v', w', O', q1, q2, q3, q4, fun c hc => ⟨(q6 c hc).1.imp (fun h => by omega) (fun h => by simpa using h), (q6 c hc).2⟩, hR0.stable (fun c hc => q4.frame c (hc.elim (fun h => by cases h) (hS c)) (by simp)) (fun _ h => h), .inl q4⟩
  · simp only [List.cons.injEq, and_true] at e
    subst e
    by_cases hroom : l.length + m.length ≤ cap
    · obtain ⟨w', q1, q2, q3, q4, q5, q6⟩ := append_room (S := S) hT ty c2 c3.1 c7 c5 hs hN hnd (hO b (by simp)).1 hroom (c3.2 rfl)
      refine ⟨_, w', b :: (O1 ++ Og), q1, q4, by simpa using hnd, q5.mono (by simp), fun c hc => ⟨.inr (by simpa using hc), ?_⟩, q6, .inr ⟨b, off, cap, news.length, rfl, c2, c3.2 rfl, q2, q3⟩⟩
      rw [q3]; exact (hO c (by simpa using hc)).2
    · have hnd' : (O1 ++ Og).Nodup := (List.nodup_cons.1 (by simpa using hnd : (b :: (O1 ++ Og)).Nodup)).2
      obtain ⟨v', w', O', q1, q2, q3, q4, q5, q6⟩ := append_grow hT ty hS (base := some ⟨b, off, none⟩) (cap := cap) (l := l) (olds := cellsAt w.heap b off (l.length * t.size)) (O1 := O1) (by
        refine run_firstCells_some w.drew t.size l.length _ l.length cap _ (cellsAt_length _ _ _ c4) (fun j u hu => ?_)
        rw [Addr.add_none]; exact cell_of_cellsAt hu) c5 hs hN hnd' (fun c hc => (hO c (by simp at hc ⊢; exact .inr hc)).2) (by omega) h63 hby
      exact ⟨v', w', O', q1, q2, q3, q4.mono (by simp), fun c hc => ⟨(q6 c hc).1.imp (fun h => by omega) (fun h => by simp at h ⊢; exact .inr h), (q6 c hc).2⟩, hR0.stable (fun c hc => q4.frame c (hc.elim (fun h => (hO c (List.mem_append_left _ h)).2) (hS c)) (by simp)) (fun _ h => h), .inl q4⟩

/-- what is appended -/
theorem app1_rep {P : Program} (h : RS B S ι s a w) {v : AV} {t0 : Ty} {U : TypeId} (hk : (∃ e', P.underlying U = some (.slice e')) ∨ P.underlying U = some .string) {t : Ty} {m : List t.den} {g : List Nat} {x : Value} (hx : v.app1 s t0 = some (⟨t, m⟩, g)) (hv : VX w.heap S ι s.hp v [x]) :
    ∃ Og news, Src P t.size U x m.length news w ∧ RepL (Rep w.heap S t) t.size Og news m ∧ Og.Nodup ∧ ∀ b ∈ Og, BlkOf ι s.hp g b := by
  have src : ∀ {A : Option Addr} {n c : Nat} {news : List Value}, news.length = n * t.size → (n ≠ 0 → ∃ b off, A = some ⟨b, off, none⟩ ∧ news = cellsAt w.heap b off (n * t.size)) → (∀ u ∈ news, u.oneCell' = true) → Src P t.size U (.slice A n c) n news w := by
    intro A n c news hl hn h1
    by_cases h0 : n = 0
    · subst h0
      have : news = [] := List.length_eq_zero_iff.1 (by omega)
      subst this
      cases A with
      | none => exact ⟨hk, fun _ => rfl, run_firstCells_none w _ 0 0 c, run_firstCells_none w.drew _ 0 0 c, by simp, fun _ h => by cases h⟩
      | some A => exact ⟨hk, fun _ => rfl, run_firstCells_some w _ 0 A 0 c [] (by simp) (by simp), run_firstCells_some w.drew _ 0 A 0 c [] (by simp) (by simp), by simp, fun _ h => by cases h⟩
    · obtain ⟨b, off, rfl, e⟩ := hn h0
      have hcell : ∀ j u, news[j]? = some u → w.cell? ((⟨b, off, none⟩ : Addr).add j) = some u := by
        intro j u hu
        rw [Addr.add_none]; rw [e] at hu; exact cell_of_cellsAt hu
      exact ⟨hk, fun _ => rfl, run_firstCells_some w _ n _ n c news hl hcell, run_firstCells_some w.drew _ n _ n c news hl (by simpa using hcell), hl, h1⟩
  unfold AV.app1 at hx
  split at hx
  · cases hx
    have hv' : [x] = [Value.slice none 0 0] := hv
    obtain rfl : x = .slice none 0 0 := by simpa using hv'
    exact ⟨[], [], src (by simp) (by simp) (by simp), ⟨rfl, rfl⟩, List.nodup_nil, by simp⟩
  · rename_i y
    cases hx
    obtain ⟨rfl, hm⟩ := VX.str_inv hv
    refine ⟨[], byteCells ⟨y.toArray⟩, ?_, ?_, List.nodup_nil, by simp⟩
    · have hl : (List.map (fun b : UInt8 => (b.toNat : Int)) y).length = (⟨y.toArray⟩ : ByteArray).size := by simp [ByteArray.size]
      have e : ∀ w' : World, (Builtin.firstCells 1 (⟨y.toArray⟩ : ByteArray).size (.string ⟨y.toArray⟩)).run P w' = .ok (byteCells ⟨y.toArray⟩).toArray w' := firstCells_string _
      show Src P 1 U (.string ⟨y.toArray⟩) (List.map (fun b : UInt8 => (b.toNat : Int)) y).length (byteCells ⟨y.toArray⟩) w
      rw [hl]
      exact ⟨hk, fun _ => rfl, e w, e w.drew, by rw [byteCells_length, Nat.mul_one], fun u hu => by
        obtain ⟨_, _, rfl⟩ := List.mem_map.1 hu
        rfl⟩
    · simp only [byteCells]
      clear src hv hm
      induction y with
      | nil => exact ⟨rfl, rfl⟩
      | cons c y ih => exact ⟨[], [], rfl, ⟨rfl, rfl, by simp only [inK, IntKind.min, IntKind.max, IntKind.signed, IntKind.bits]; have := c.toNat_lt; simp; omega⟩, by simpa [Ty.size] using ih⟩
  · split at hx
    · cases hx
    · rename_i t' l hels
      split at hx
      · rename_i hsh
        cases hx
        obtain ⟨A, c, e, k⟩ := els_rep h.hs hv hels
        subst e
        rcases k with rfl | ⟨b, off, O', rfl, k1, k2, k3, k4⟩
        · exact ⟨[], [], src (by simp) (by simp) (by simp), ⟨rfl, rfl⟩, List.nodup_nil, by simp⟩
        · have hO : O' = [] := RepL.nilO (fun _ _ _ hr => Rep.nilO hsh hr) k3
          subst hO
          exact ⟨[], _, src (RepL.length (fun _ _ _ h => h.length) k3) (fun _ => ⟨b, off, rfl, rfl⟩) (RepL.plain (fun _ _ _ hr => hr.plain) k3 · · |>.1), k3, List.nodup_nil, by simp⟩
      · split at hx
        · rename_i u m' g' hgv
          cases hx
          obtain ⟨O, cs, k1, k2, k3, k4⟩ := give_rep h.hs hgv hv
          rcases k2 with ⟨rfl, ⟨A, c, rfl, hc⟩, rfl⟩ | ⟨b, off, cap, O', rfl, c2, c3, c4, c5, rfl, c7⟩
          · have e : x = .slice A 0 c := k1
            subst e
            exact ⟨[], [], src (by simp) (by simp) (by simp), ⟨rfl, rfl⟩, List.nodup_nil, by simp⟩
          · have e : x = .slice (some ⟨b, off, none⟩) (List.length m) cap := k1
            subst e
            exact ⟨O', _, src (RepL.length (fun _ _ _ h => h.length) c5) (fun _ => ⟨b, off, rfl, rfl⟩) (RepL.plain (fun _ _ _ hr => hr.plain) c5 · · |>.1), c5, (List.nodup_cons.1 k3).2, fun c hc => k4 c (by simp [hc])⟩
        · cases hx

/-- append to what is handed over -/
theorem append_own (hE : EnvOk E) (h : RS B S ι s a w) {o : Oper} {c : Call} (ho : o.op = .call c) (hc : c.callee = .builtin .append) {x y : Operand} {T U : TypeId} (ha : c.args.toList = [x, y]) (hTs : c.argTypes.toList = [T, U])
    {q : Bool} {t0 : Ty} {bts d : Nat} (hT : look T E.tt = some ⟨.slc q t0, bts⟩) {l m : List t0.den} {f g Of Og : List Nat} {v1 : Value} {news : List Value} (hv1 : a.eval x = v1) (hR : Rep w.heap S (.slc true t0) Of [v1] l) (hOf : Of.Nodup) (hbf : ∀ b ∈ Of, BlkOf ι s.hp f b)
    (hs : Src E.P t0.size U (a.eval y) m.length news w) (hN : RepL (Rep w.heap S t0) t0.size Og news m) (hOg : Og.Nodup) (hbg : ∀ b ∈ Og, BlkOf ι s.hp g b) {p : Prop} (hp : p → l.length + m.length ≤ 140737488355328 ∧ (l.length + m.length) * t0.wb ≤ 140737488355328) :
    ORok E.P B o a w ((s.lay d (f ++ g) (.slc true t0) (l ++ m)).need p) := by
  refine ORok.needLay (fun v s' hl hpp => ?_)
  obtain ⟨h63, hby⟩ := hp hpp
  obtain ⟨gn, gp⟩ := lay_all hl
  have hty : tyOk E.P 100 T (.slc true t0) = true := tyOk_sh (t := .slc q t0) (u := .slc true t0) rfl (tt_ok hE hT)
  have hnd : (Of ++ Og).Nodup := List.nodup_append.2 ⟨hOf, hOg, by
    rintro c h1 c' h2 rfl
    obtain ⟨i, e, i1, i2, i3⟩ := hbf c h1
    obtain ⟨j, e', j1, j2, j3⟩ := hbg c h2
    exact h.hs.dj i j e e' i2 j2 (fun e => (List.nodup_append.1 gn).2.2 i i1 j j1 e) c i3 j3⟩
  have hblk : ∀ b ∈ Of ++ Og, BlkOf ι s.hp (f ++ g) b := fun b hb => (List.mem_append.1 hb).elim (fun hb => (hbf b hb).mono (by simp +contextual)) (fun hb => (hbg b hb).mono (by simp +contextual))
  have hF := Flt.drops h.hs hnd hblk
  have hd := h.drops (g := f ++ g) gp
  obtain ⟨v', w', O', q1, q2, q3, q4, q5, _⟩ := append_run hty o.type h.hs.slt hR hs hN hnd (fun c hc => ⟨(hF.2 c hc).1, (hF.2 c hc).2.2.1⟩) h63 hby
  have hargs : c.args = #[x, y] := by rw [← ha]
  have hts : c.argTypes = #[T, U] := by rw [← hTs]
  have hrun : (execOp a.eval o).run E.P w = .ok (.value v') w' := by
    subst hv1
    simp [execOp, ho, resolve, hc, invoke, builtin, hargs, hts, q1]
  have hF1 : Flt B S ι (St.drops (f ++ g) s).hp w Of := hF.sub hOf (by simp +contextual)
  refine OpOk.lay hl hrun (cs := [v']) rfl q2 (hd.turn hF1 q4) ⟨q3, fun c hc => ?_⟩
  obtain ⟨k1, k2⟩ := q5 c hc
  rcases k1 with k1 | k1
  · exact ⟨fun hS => by have := h.hs.slt c hS; omega, .inl (by have := h.hs.size; omega), k2, fun i e hi hb => by have := (hd.hs.bl i e hi c hb).2.2; omega⟩
  · exact ⟨(hF.2 c k1).1, (hF.2 c k1).2.1, k2, (hF.2 c k1).2.2.2⟩

theorem append_sound (hE : EnvOk E) (h : RS B S ι s a w) {o : Oper} {c : Call} (ho : o.op = .call c) (hc : c.callee = .builtin .append) {x y : Operand} {T U : TypeId} (ha : c.args.toList = [x, y]) (hTs : c.argTypes.toList = [T, U])
    (hk : (∃ e', E.P.underlying U = some (.slice e')) ∨ E.P.underlying U = some .string) : ORok E.P B o a w (appendA E T (s.ev x) (s.ev y) o.dst s) := by
  unfold appendA
  split
  · rename_i q t0 bts d hT hd
    split
    · trivial
    · rename_i t m g happ
      obtain ⟨Og, news, k1, k2, k3, k4⟩ := app1_rep (P := E.P) h hk happ (h.ev y)
      simp only
      have own : ∀ {l : List t0.den} {f Of : List Nat} {v1 : Value}, a.eval x = v1 → Rep w.heap S (.slc true t0) Of [v1] l → Of.Nodup → (∀ b ∈ Of, BlkOf ι s.hp f b) →
          ORok E.P B o a w (if h : t = t0 then (s.lay d (f ++ g) (.slc true t0) (l ++ castL h m)).need ((l.length + m.length : Nat) ≤ 140737488355328 ∧ (l.length + m.length : Nat) * (t0.wb : Nat) ≤ 140737488355328) else .fail "append: type") := by
        intro l f Of v1 e1 e2 e3 e4
        split
        · rename_i ht
          subst ht
          exact append_own hE h ho hc ha hTs hT e1 e2 e3 e4 k1 k2 k3 k4 (fun hp => hp)
        · trivial
      split
      · rename_i hx
        have hx' : [a.eval x] = [Value.slice none 0 0] := evx h hx
        exact own (f := []) (Of := []) (v1 := .slice none 0 0) (by simpa using hx') (.inl ⟨rfl, ⟨none, 0, rfl, fun _ => rfl⟩, rfl⟩) List.nodup_nil (by simp)
      · rename_i u lx hx
        split
        · obtain ⟨cs, e, hR⟩ := evx h hx
          rcases hR with ⟨_, ⟨A, c, rfl, hc0⟩, rfl⟩ | ⟨b, off, cap, O', rfl, c2, c3, c4, c5, c6, c7⟩
          · exact own (f := []) (Of := []) (v1 := .slice A 0 c) (by simpa [toV, Ty.agg] using e) (.inl ⟨rfl, ⟨A, c, rfl, hc0⟩, rfl⟩) List.nodup_nil (by simp)
          · cases c6
        · trivial
      · rename_i xv _ _
        split
        · rename_i u l f hgv
          split
          · rename_i hu
            subst hu
            obtain ⟨O2, cs, r1, r2, r3, r4⟩ := give_rep h.hs hgv (h.ev x)
            have r1' : a.eval x = cs.headD undef := r1
            have hcs : cs = [cs.headD undef] := by
              have := r2.length
              match cs, this with
              | [c], _ => rfl
            rw [hcs] at r2
            exact own r1' r2 r3 r4
          · trivial
        · trivial
  · trivial

end
end Go.Ex
