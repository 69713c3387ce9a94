import Derived.Test.YtagjonjobbckdaaExN
namespace Go.Ex

section
variable {E : Env} {B : Base} {S S' : Nat → Prop} {ι : Ix} {s : St} {a : Act} {w : World} {hp : List (Nat × Ent)} {H H' : Array Go.Obj}

theorem zeros_list (z : List Value) : ∀ n : Nat, (List.range (n * z.length)).map (fun i => z.getD (i % z.length) default) = (List.replicate n z).flatten
  | 0 => by simp
  | n + 1 => by
    rw [Nat.succ_mul, Nat.add_comm, List.range_add, List.map_append, List.replicate_succ, List.flatten_cons, ← zeros_list z n]
    congr 1
    · apply List.ext_getElem
      · simp
      · intro i h1 h2
        simp only [List.length_map, List.length_range] at h1
        simp [Nat.mod_eq_of_lt h1, List.getElem?_eq_getElem h1]
    · simp [List.map_map, Function.comp_def]

theorem zeros_eq (z : List Value) (n : Nat) : ((Array.range (n * z.length)).map (z.toArray[· % z.toArray.size]!)) = (List.replicate n z).flatten.toArray := by
  rw [← zeros_list]
  apply Array.ext'
  simp [Array.toList_range, List.getD_eq_getElem?_getD]

theorem HS.push (h : HS B S ι hp w) (o : Go.Obj) : HS B S ι hp (pushed w o) := by
  have hold : ∀ {b}, b < w.heap.size → (w.heap.push o)[b]? = w.heap[b]? := fun hb => push_old hb
  refine ⟨h.os, h.tape, h.out, ?_, ?_, ?_, h.s0, h.s1, ?_, ?_, h.dj⟩
  · show _ ≤ (w.heap.push _).size; rw [Array.size_push]; have := h.size; omega
  · intro c hc hm
    show (w.heap.push _)[c]? = _
    rw [hold (by have := h.size; omega)]; exact h.frame c hc hm
  · intro b hb; show _ < (w.heap.push _).size; rw [Array.size_push]; have := h.slt b hb; omega
  · intro i e h1
    exact (h.ob i e h1).stable (fun b hb => hold (h.bl_lt (hb.imp (fun hb => ⟨i, e, h1, hb⟩) id))) (fun _ h => h)
  · intro i e h1 b hb
    obtain ⟨k1, k2, k3⟩ := h.bl i e h1 b hb
    refine ⟨k1, k2, ?_⟩
    show _ < (w.heap.push _).size; rw [Array.size_push]; omega

theorem RS.push (h : RS B S ι s a w) (o : Go.Obj) : RS B S ι s a (pushed w o) :=
  ⟨h.hs.push o, h.dfr, h.sz, fun t v hv => VX.grow (fun _ hb => push_old (h.hs.bl_lt hb)) (fun _ h => h) h.hs.ob (h.fr t v hv)⟩

theorem RS.drew (h : RS B S ι s a w) : RS B S ι s a w.drew := ⟨⟨h.hs.os, h.hs.tape, h.hs.out, h.hs.size, h.hs.frame, h.hs.slt, h.hs.s0, h.hs.s1, h.hs.ob, h.hs.bl, h.hs.dj⟩, h.dfr, h.sz, h.fr⟩

/-- an object held from now on -/
theorem RS.hold (h : RS B S ι s a w) {d : Nat} (hd : s.fresh d = true) {t : Ty} {x : t.den} {O : List Nat} {cs : List Value} (hR : Rep w.heap S t O cs x) (hnd : O.Nodup)
    (hO : ∀ b ∈ O, ¬ S b ∧ (B.w0.heap.size ≤ b ∨ B.M b) ∧ b < w.heap.size ∧ ∀ i e, look i s.hp = some e → b ∉ blks ι i e) :
    RS B S (ι.setO d cs O) (s.putE d (.own t x)) a w ∧ VX w.heap S (ι.setO d cs O) (s.putE d (.own t x)).hp (.at_ d []) [toV t cs] := by
  simp only [St.fresh, Bool.and_eq_true, Option.isNone_iff_eq_none] at hd
  refine ⟨⟨h.hs.hold hd.1 hR hnd hO, h.dfr, h.sz, fun n v hv => ?_⟩, ?_⟩
  · exact VX.other (d := d) (fun i hi => by rw [St.putE, look_put, if_neg hi]) (fun i hi => sameAt_setO hi _ _) (look_noMent hd.2 hv) (h.fr n v hv)
  · refine ⟨.own t x, t, x, cs, by simp [St.putE, look_put], ?_, ?_, .inr ⟨t, x, rfl, rfl, by simp [Ix.setO]⟩, rfl⟩
    · simp only [Ent.ty]; cases t <;> trivial
    · simp only [Ent.ty, Ent.x]; cases t <;> first | rfl | (rename_i o _; cases o <;> rfl)

/-- a new row, held -/
theorem RS.row (h : RS B S ι s a w) {d : Nat} (hd : s.fresh d = true) {t : Ty} {l : List t.den} {cells : List Value} (hR : RepL (Rep w.heap S t) t.size [] (cells.take (l.length * t.size)) l) {cap : Nat} (hc : l.length ≤ cap) (hm : cap ≤ maxLen)
    (hsz : cap * t.size ≤ cells.length) (T : TypeId) :
    ∃ ι', RS B S ι' (s.putE d (.own (.slc true t) l)) a (pushed w (.cells cells.toArray T)) ∧ VX (pushed w (.cells cells.toArray T)).heap S ι' (s.putE d (.own (.slc true t) l)).hp (.at_ d []) [.slice (some ⟨w.heap.size, 0, none⟩) l.length cap] := by
  have h1 := h.push (.cells cells.toArray T)
  have hblk : blk (pushed w (.cells cells.toArray T)).heap w.heap.size = cells := by
    unfold blk
    rw [show (pushed w (.cells cells.toArray T)).heap[w.heap.size]? = some (.cells cells.toArray T) from push_new]
  have hle : l.length * t.size ≤ cap * t.size := Nat.mul_le_mul_right _ hc
  have hrep : Rep (pushed w (.cells cells.toArray T)).heap S (.slc true t) [w.heap.size] [.slice (some ⟨w.heap.size, 0, none⟩) l.length cap] l := by
    refine .inr ⟨w.heap.size, 0, cap, [], rfl, hc, hm, ?_, ?_, rfl, cells.toArray, T, push_new, ?_⟩
    · rw [hblk, Nat.zero_add]; exact Nat.le_trans hle hsz
    · have : cellsAt (pushed w (.cells cells.toArray T)).heap w.heap.size 0 (List.length l * t.size) = cells.take (l.length * t.size) := by simp only [cellsAt, hblk, List.drop_zero]
      rw [this]
      exact RepL.mono (L := []) (fun _ h => h) (fun O1 cs y hL hr => hr.stable (fun b hb => push_old (by
        rcases hb with hb | hb
        · exact absurd (hL b hb) (by simp)
        · exact h.hs.slt b hb)) (fun _ h => h)) hR
    · simpa using hsz
  obtain ⟨k1, k2⟩ := h1.hold hd hrep (by simp) (by
    intro b hb
    simp only [List.mem_cons, List.not_mem_nil, or_false] at hb
    subst hb
    refine ⟨fun hs => Nat.lt_irrefl _ (h.hs.slt _ hs), .inl h.hs.size, by simp [pushed], fun i e hi hb => ?_⟩
    exact Nat.lt_irrefl _ (h.hs.bl i e hi _ hb).2.2)
  exact ⟨_, k1, by simpa [toV, Ty.agg] using k2⟩

theorem getP_nil {t : Ty} {x : t.den} : getP t x [] = some ⟨t, x⟩ := by
  cases t <;> first | rfl | (rename_i o _; cases o <;> rfl)

theorem plc_arr_place {n : Nat} {t : Ty} (t' : Ty) (x' : t'.den) (i : Nat) (u' : Ty) (y' : u'.den) (e1 : t'.sh = (Ty.arr n t).sh) (e2 : getP t' x' (partPath t' i) = some ⟨u', y'⟩) (_ : inArr t' i = true) : some (i * t.size, t.size) = some (offP t' i, u'.size) := by
  cases t' <;> simp only [Ty.sh] at e1 <;> first | cases e1 | skip
  rename_i n' t'' _
  simp only [Ty.arr.injEq] at e1
  have : t'' = u' := by
    simp only [partPath, getP, Option.some.injEq] at e2
    exact congrArg Sigma.fst e2
  subst this
  simp only [offP, size_er e1.2]

theorem buildSlice_sound (hE : EnvOk E) (h : RS B S ι s a w) {o : Oper} {T : TypeId} {n : Nat} {parts : Array (Nat × Operand)} (ho : o.op = .buildSlice T n parts) : ORok E.P B o a w (aop E o s) := by
  have he : execOp a.eval o = (do pure (.value (← Instr.buildSlice T n (parts.map fun q => (q.1, a.eval q.2))))) := by simp [execOp, ho]
  unfold aop
  rw [ho]
  simp only
  split
  · rename_i t bts d hT hd
    split
    · rename_i hall
      simp only [Bool.and_eq_true, Nat.ble_eq] at hall
      obtain ⟨⟨hfr, hin⟩, hsz⟩ := hall
      split
      · rename_i m t' l hb
        have hty := tt_ok hE hT
        obtain ⟨et, k', h1, h2, h3⟩ := tyOk_slc hty
        have hzs : ∀ u : Ty, (zc u).length = u.size := fun u => (Rep.dflt (H := w.heap) (S := S) u).length
        have hR0 : Rep w.heap S (.arr n t) [] (zc (.arr n t)) (Ty.arr n t).dflt := Rep.dflt _
        obtain ⟨cs', q1, q2, q3⟩ := fill_sound h (place := fun i => some (i * t.size, t.size)) hR0 (by simpa [inArr] using hin) (fun t' x' i u' y' e1 e2 e3 => plc_arr_place t' x' i u' y' e1 e2 e3) hb
        have hpm : (parts.map fun q => (q.1, a.eval q.2)).toList = parts.toList.map fun q => (q.1, a.eval q.2) := by simp
        simp only [Ty.sh, Ty.arr.injEq] at q3
        obtain ⟨rfl, q3⟩ := q3
        have hts := size_er q3
        obtain ⟨g1, g2⟩ := q2
        have hlen : cs'.length = m * t'.size := by rw [RepL.length (fun _ _ _ h => h.length) g2, g1]
        have hnm : m * t'.size ≤ 16777216 := by rw [hts]; exact hsz
        have hmm : m ≤ maxLen := by
          have : m * 1 ≤ m * t'.size := Nat.mul_le_mul_left _ (by omega)
          unfold maxLen; omega
        have hrun : (execOp a.eval o).run E.P w = .ok (.value (.slice (some ⟨w.heap.size, 0, none⟩) m m)) (pushed w (.cells cs'.toArray et)) := by
          rw [he]
          have hz0 : (zc (.arr m t)).toArray = (List.replicate m (zc t)).flatten.toArray := rfl
          by_cases h0 : m * t.size = 0
          · have : m = 0 := by rcases Nat.mul_eq_zero.1 h0 with h | h <;> omega
            subst this
            simp only [Instr.buildSlice, Sem.run_bind, run_under h1, Result.andThen, run_sizeOf h3]
            have e0 : (zc (.arr 0 t)).toArray = (#[] : Array Value) := rfl
            rw [e0] at q1
            have r0 : Array.range 0 = (#[] : Array Nat) := rfl
            simp only [Nat.zero_mul, r0, Array.map_empty]
            rw [hpm]
            simp [q1, newRow, newObj, Sem.run, pushed]
          · have hzz : (toV t (zc t)).cells = (zc t).toArray := (Rep.dflt (H := w.heap) (S := S) t).cells
            have hle : ¬ (m * t.size > 16777216) := by omega
            have hq := zeros_eq (zc t) m
            rw [hzs] at hq
            rw [hz0] at q1
            have hle' : ¬ (m * t.size > 2 ^ 24) := by omega
            simp only [Instr.buildSlice, Sem.run_bind, run_under h1, Result.andThen, run_sizeOf h3, hle', h0, if_false, run_zero h3, hzz, hpm, Sem.run_pure, hq, q1]
            simp [newRow, newObj, Sem.run, pushed]
        intro next Q hn
        unfold Oper.wp
        rw [hrun]
        have hRl : RepL (Rep w.heap S t') t'.size [] (cs'.take (List.length l * t'.size)) l := by
          rw [g1, List.take_of_length_le (by omega)]; exact g2
        have g1' : List.length l = m := g1
        obtain ⟨ι', k1, k2⟩ := h.row hfr hRl (cap := m) (by omega) hmm (by omega) et
        exact hn S ι' _ _ k1 (by rw [g1] at k2; exact k2)
      · trivial
    · trivial
  · trivial

end
end Go.Ex
