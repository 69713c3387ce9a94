import Derived.Test.YtibpibbnnogdkaaExN
import Derived.Laws.AppendOwn
import Derived.Laws.BytesString
import Derived.Laws.IdiomStrings
namespace Go.Ex

section
variable {E : Env} {B : Base} {S S' : Nat → Prop} {ι : Ix} {s : St} {a : Act} {w : World} {hp : List (Nat × Ent)} {H H' : Array Go.Obj}

theorem zeros_list (z : List Value) : ∀ n : Nat, (List.range (n * z.length)).map (fun i => z.getD (i % z.length) default) = (List.replicate n z).flatten
  | 0 => by simp
  | n + 1 => by
    rw [Nat.succ_mul, Nat.add_comm, List.range_add, List.map_append, List.replicate_succ, List.flatten_cons, ← zeros_list z n]
    congr 1
    · apply List.ext_getElem
      · simp
      · intro i h1 h2
        simp only [List.length_map, List.length_range] at h1
        simp [Nat.mod_eq_of_lt h1, List.getElem?_eq_getElem h1]
    · simp [List.map_map, Function.comp_def]

theorem zeros_eq (z : List Value) (n : Nat) : ((Array.range (n * z.length)).map (z.toArray[· % z.toArray.size]!)) = (List.replicate n z).flatten.toArray := by
  rw [← zeros_list]
  apply Array.ext'
  simp [Array.toList_range, List.getD_eq_getElem?_getD]

theorem zeroCells_eq (z : List Value) (n : Nat) : Builtin.zeroCells z.toArray n = (List.replicate n z).flatten.toArray := zeros_eq z n

theorem RepL.zeros {t : Ty} : ∀ n : Nat, RepL (Rep H S t) t.size [] (List.replicate n (zc t)).flatten (List.replicate n t.dflt)
  | 0 => ⟨rfl, rfl⟩
  | n + 1 => ⟨[], [], rfl, by
      rw [List.replicate_succ, List.flatten_cons, List.take_left' (zc_length t)]; exact Rep.dflt t, by
      rw [List.replicate_succ, List.flatten_cons, List.drop_left' (zc_length t)]; exact RepL.zeros n⟩

/-- an operation that yields a value of the call's own -/
theorem OpOk.lay {P : Program} {o : Oper} {d : Nat} {g : List Nat} {t : Ty} {x : t.den} {v : AV} {s' : St} (hl : s.lay d g t x = .ok v s') {w' : World} {val : Value} (hr : (execOp a.eval o).run P w = .ok (.value val) w')
    {O : List Nat} {cs : List Value} (hv : val = toV t cs) (hR : Rep w'.heap S t O cs x) (hs : RS B S ι (St.drops g s) a w') (hF : Flt B S ι (St.drops g s).hp w' O) : OpOk P B o a w v s' := by
  unfold St.lay at hl
  split at hl
  · cases hl
  · split at hl
    · rename_i hf
      cases hl
      intro next Q hn
      unfold Oper.wp
      rw [hr]
      exact hn S _ w' val (hs.hold hf hR hF) (by rw [hv]; exact at_new hR.length)
    · cases hl

theorem lay_all {d : Nat} {g : List Nat} {t : Ty} {x : t.den} {v : AV} {s' : St} (hl : s.lay d g t x = .ok v s') : g.Nodup ∧ (g.all fun i => !pinned i) = true := by
  unfold St.lay at hl
  split at hl
  · cases hl
  · rename_i hc
    simp only [Bool.and_eq_true] at hc
    exact ⟨noDup_nodup hc.1.1, hc.1.2⟩

theorem lay_okN {d : Nat} {g : List Nat} {t : Ty} {x : t.den} {p : Prop} {v : AV} {s' : St} : s.lay d g t x ≠ .okN p v s' := by
  unfold St.lay
  split
  · simp
  · split <;> simp

theorem ORok.needLay {P : Program} {o : Oper} {d : Nat} {g : List Nat} {t : Ty} {x : t.den} {p : Prop} (h : ∀ v s', s.lay d g t x = .ok v s' → p → OpOk P B o a w v s') : ORok P B o a w ((s.lay d g t x).need p) := by
  cases hl : s.lay d g t x with
  | fail y => trivial
  | ok v s' => exact fun hp => h v s' hl hp
  | okN q v s' => exact absurd hl lay_okN

theorem ORok.lay {P : Program} {o : Oper} {d : Nat} {g : List Nat} {t : Ty} {x : t.den} (h : ∀ v s', s.lay d g t x = .ok v s' → OpOk P B o a w v s') : ORok P B o a w (s.lay d g t x) := by
  cases hl : s.lay d g t x with
  | fail y => trivial
  | ok v s' => exact h v s' hl
  | okN q v s' => exact absurd hl lay_okN

/-- a new row of cells, as an owned slice -/
theorem row_repW {t : Ty} {l : List t.den} {O : List Nat} {cells : List Value} (hS : ∀ c, S c → c < w.heap.size) (hR : RepL (Rep w.heap S t) t.size O (cells.take (l.length * t.size)) l) {cap : Nat} (hc : l.length ≤ cap) (hm : cap ≤ maxLen)
    (hsz : cap * t.size ≤ cells.length) (T : TypeId) (hO : ∀ c ∈ O, c < w.heap.size) {w' : World} {fz : Nat × Nat} (hh : w'.heap = w.heap.push (.cells cells.toArray T fz)) (hz : fz = (0, 0) ∨ cells.length ≤ fz.1) :
    ∃ O', Rep w'.heap S (.slc true t) O' [.slice (some ⟨w.heap.size, 0, none⟩) l.length cap] l ∧ (∀ b ∈ O', b = w.heap.size ∨ b ∈ O) ∧ (O.Nodup → O'.Nodup) := by
  have hnew : w'.heap[w.heap.size]? = some (.cells cells.toArray T fz) := by rw [hh]; exact push_new
  have hold : ∀ {b}, b < w.heap.size → w'.heap[b]? = w.heap[b]? := fun hb => by rw [hh]; exact push_old hb
  have hblk : blk w'.heap w.heap.size = cells := by simp only [blk, hnew]
  have hle : l.length * t.size ≤ cap * t.size := Nat.mul_le_mul_right _ hc
  by_cases h0 : cap = 0
  · have hl0 : l.length = 0 := by omega
    have hl : l = [] := List.length_eq_zero_iff.1 hl0
    exact ⟨[], .inl ⟨rfl, ⟨some ⟨w.heap.size, 0, none⟩, 0, by rw [hl0, h0], fun _ => rfl⟩, hl⟩, by simp, fun _ => List.nodup_nil⟩
  · refine ⟨w.heap.size :: O, .inr ⟨w.heap.size, 0, cap, O, rfl, hc, ⟨hm, fun _ => by omega⟩, ?_, ?_, rfl, cells.toArray, T, ⟨fz, hnew, by simpa using hz⟩, by simpa using hsz⟩, fun b hb => List.mem_cons.1 hb, fun hn => List.nodup_cons.2 ⟨fun hb => Nat.lt_irrefl _ (hO _ hb), hn⟩⟩
    · rw [hblk, Nat.zero_add]; exact Nat.le_trans hle hsz
    · have : cellsAt w'.heap w.heap.size 0 (List.length l * t.size) = cells.take (l.length * t.size) := by simp only [cellsAt, hblk, List.drop_zero]
      rw [this]
      exact RepL.mono (L := O) (fun _ h => h) (fun O1 cs y hL hr => hr.stable (fun b hb => hold (hb.elim (fun hb => hO b (hL b hb)) (hS b))) (fun _ h => h)) hR

theorem row_rep {t : Ty} {l : List t.den} {O : List Nat} {cells : List Value} (hS : ∀ c, S c → c < w.heap.size) (hR : RepL (Rep w.heap S t) t.size O (cells.take (l.length * t.size)) l) {cap : Nat} (hc : l.length ≤ cap) (hm : cap ≤ maxLen)
    (hsz : cap * t.size ≤ cells.length) (T : TypeId) (hO : ∀ c ∈ O, c < w.heap.size) :
    ∃ O', Rep (pushed w (.cells cells.toArray T)).heap S (.slc true t) O' [.slice (some ⟨w.heap.size, 0, none⟩) l.length cap] l ∧ (∀ b ∈ O', b = w.heap.size ∨ b ∈ O) ∧ (O.Nodup → O'.Nodup) :=
  row_repW hS hR hc hm hsz T hO (w' := pushed w (.cells cells.toArray T)) rfl (.inl rfl)

theorem Flt.new {O O' : List Nat} (h : RS B S ι s a w) (hF : Flt B S ι s.hp w O) {w' : World} (k : Past [] w w') (hlt : w.heap.size < w'.heap.size) (hs : ∀ b ∈ O', b = w.heap.size ∨ b ∈ O) (hn : O'.Nodup) : Flt B S ι s.hp w' O' := by
  refine ⟨hn, fun b hb => ?_⟩
  rcases hs b hb with rfl | hb
  · refine ⟨fun hS => Nat.lt_irrefl _ (h.hs.slt _ hS), .inl h.hs.size, hlt, fun i e hi hbi => Nat.lt_irrefl _ (h.hs.bl i e hi _ hbi).2.2⟩
  · exact (hF.turn k).2 b hb

theorem plc_arr_place {n : Nat} {t : Ty} (t' : Ty) (x' : t'.den) (i : Nat) (u' : Ty) (y' : u'.den) (e1 : t'.sh = (Ty.arr n t).sh) (e2 : getP t' x' (partPath t' i) = some ⟨u', y'⟩) (_ : inArr t' i = true) : some (i * t.size, t.size) = some (offP t' i, u'.size) := by
  cases t' <;> simp only [Ty.sh] at e1 <;> first | cases e1 | skip
  rename_i n' t'' _
  simp only [Ty.arr.injEq] at e1
  have : t'' = u' := by
    simp only [partPath, getP, getP_nil, Option.some.injEq] at e2
    exact congrArg Sigma.fst e2
  subst this
  simp only [offP, size_er e1.2]

theorem build_sound (hE : EnvOk E) (h : RS B S ι s a w) {o : Oper} {T : TypeId} {parts : Array (Nat × Operand)} (ho : o.op = .build T parts) : ORok E.P B o a w (aop E o s) := by
  have he : execOp a.eval o = (do pure (.value (← Instr.build T (parts.map fun q => (q.1, a.eval q.2))))) := by simp [execOp, ho]
  unfold aop
  rw [ho]
  simp only
  split
  · rename_i ti hT
    split
    · rename_i hall
      simp only [Bool.and_eq_true] at hall
      -- what is built
      have core : ∀ {u : Ty} {y : u.den} {g : List Nat}, buildL s ⟨ti.ty, ti.ty.dflt⟩ parts.toList = some (⟨u, y⟩, g) → g.Nodup → ∃ cs' O', (Instr.build T (parts.map fun q => (q.1, a.eval q.2))).run E.P w = .ok (toV u cs') w ∧ Rep w.heap S u O' cs' y ∧ O'.Nodup ∧ ∀ b ∈ O', BlkOf ι s.hp g b := by
        intro u y g hb hgn
        have hty := tt_ok hE hT
        have hz := run_zero (w := w) hty
        have hR0 : Rep w.heap S ti.ty [] (zc ti.ty) ti.ty.dflt := Rep.dflt _
        have hzc : (toV ti.ty (zc ti.ty)).cells = (zc ti.ty).toArray := hR0.cells
        have hpm : (parts.map fun q => (q.1, a.eval q.2)).toList = parts.toList.map fun q => (q.1, a.eval q.2) := by simp
        by_cases harr : ∃ n t, ti.ty = .arr n t
        · obtain ⟨n, t, e0⟩ := harr
          rw [e0] at hty hb hR0 hall hz hzc
          obtain ⟨et, k', h1, h2, h3⟩ := tyOk_arr hty
          obtain ⟨cs', O', q1, q2, q3, q4, q5⟩ := fill_sound h (place := fun i => some (i * t.size, t.size)) (G := []) hR0 List.nodup_nil (by simp) (by simpa using hgn) hall.2 (fun t' x' i u' y' e1 e2 e3 => plc_arr_place t' x' i u' y' e1 e2 e3) hb
          refine ⟨cs', O', ?_, q2, q3, q4⟩
          have hag : u.agg = true := by rw [agg_er q5]; rfl
          simp only [Instr.build, Sem.run_bind, hz, Result.andThen, run_under h1, hzc, hpm, run_sizeOf h3, q1]
          simp [toV, hag]
        · have hn : ∀ n u, ti.ty ≠ .arr n u := fun n u e => harr ⟨n, u, e⟩
          obtain ⟨fs, k', h1, h2⟩ := tyOk_struct hty hall.1 hn
          have hpl := run_plc (w := w) h2
          obtain ⟨cs', O', q1, q2, q3, q4, q5⟩ := fill_sound h (place := fun i => (plc ti.ty 0)[i]?) (G := []) hR0 List.nodup_nil (by simp) (by simpa using hgn) hall.2 (by
            intro t' x' i u' y' e1 e2 e3
            have hn' : ∀ n u, t' ≠ .arr n u := by
              rintro n u rfl
              cases ht : ti.ty <;> rw [ht] at e1 <;> simp only [Ty.sh] at e1 <;> first | cases e1 | skip
              exact harr ⟨_, _, ht⟩
            have e2' : getP t' x' [.fld i] = some ⟨u', y'⟩ := by
              cases t' <;> first | exact e2 | (exact absurd rfl (hn' _ _))
            have := plc_get (off := 0) e2'
            rw [plc_sh e1] at this
            have e4 : offP t' i = offF t' i := by cases t' <;> first | rfl | (exact absurd rfl (hn' _ _))
            rw [e4]
            simpa using this) hb
          refine ⟨cs', O', ?_, q2, q3, q4⟩
          have hag : u.agg = true := by rw [agg_er q5]; exact hall.1
          simp only [Instr.build, Sem.run_bind, hz, Result.andThen, run_under h1, hzc, hpm]
          simp [Array.mapM_eq_mapM_toList, hpl, q1, toV, hag]
      split
      · rename_i u y hb
        obtain ⟨cs', O', q1, q2, q3, q4⟩ := core hb List.nodup_nil
        have : O' = [] := List.eq_nil_iff_forall_not_mem.2 (fun b hb => by obtain ⟨i, e, hi, _⟩ := q4 b hb; cases hi)
        subst this
        exact exec_val he h q1 ⟨cs', rfl, q2⟩
      · rename_i u y g d hd hb hg0
        refine ORok.lay (fun v s' hl => ?_)
        obtain ⟨g1, g2⟩ := lay_all hl
        obtain ⟨cs', O', q1, q2, q3, q4⟩ := core hb g1
        exact OpOk.lay hl (exec_value he q1) rfl q2 (h.drops g2) (Flt.drops h.hs q3 q4)
      · trivial
    · trivial
  · trivial

theorem buildSlice_sound (hE : EnvOk E) (h : RS B S ι s a w) {o : Oper} {T : TypeId} {n : Nat} {parts : Array (Nat × Operand)} (ho : o.op = .buildSlice T n parts) : ORok E.P B o a w (aop E o s) := by
  have he : execOp a.eval o = (do pure (.value (← Instr.buildSlice T n (parts.map fun q => (q.1, a.eval q.2))))) := by simp [execOp, ho]
  unfold aop
  rw [ho]
  simp only
  split
  · rename_i t bts d hT hd
    split
    · rename_i hall
      simp only [Bool.and_eq_true, Nat.ble_eq] at hall
      obtain ⟨⟨hfr, hin⟩, hsz⟩ := hall
      split
      · rename_i m t' l g hb
        refine ORok.lay (fun v s' hl => ?_)
        obtain ⟨gn, gp⟩ := lay_all hl
        have hty := tt_ok hE hT
        obtain ⟨et, k', h1, h2, h3⟩ := tyOk_slc hty
        have hzs : ∀ u : Ty, (zc u).length = u.size := fun u => (Rep.dflt (H := w.heap) (S := S) u).length
        have hR0 : Rep w.heap S (.arr n t) [] (zc (.arr n t)) (Ty.arr n t).dflt := Rep.dflt _
        obtain ⟨cs', O', q1, q2, qn, qb, q3⟩ := fill_sound h (place := fun i => some (i * t.size, t.size)) (G := []) hR0 List.nodup_nil (by simp) (by simpa using gn) (by simpa [inArr] using hin) (fun t' x' i u' y' e1 e2 e3 => plc_arr_place t' x' i u' y' e1 e2 e3) hb
        have hpm : (parts.map fun q => (q.1, a.eval q.2)).toList = parts.toList.map fun q => (q.1, a.eval q.2) := by simp
        simp only [Ty.sh, Ty.arr.injEq] at q3
        obtain ⟨rfl, q3⟩ := q3
        have hts := size_er q3
        obtain ⟨g1, g2⟩ := q2
        have hlen : cs'.length = m * t'.size := by rw [RepL.length (fun _ _ _ h => h.length) g2, g1]
        have hnm : m * t'.size ≤ 16777216 := by rw [hts]; exact hsz
        have hmm : m ≤ maxLen := by
          have : m * 1 ≤ m * t'.size := Nat.mul_le_mul_left _ (by omega)
          unfold maxLen; omega
        have hrun : (execOp a.eval o).run E.P w = .ok (.value (.slice (some ⟨w.heap.size, 0, none⟩) m m)) (pushed w (.cells cs'.toArray et)) := by
          rw [he]
          have hz0 : (zc (.arr m t)).toArray = (List.replicate m (zc t)).flatten.toArray := rfl
          by_cases h0 : m * t.size = 0
          · have : m = 0 := by rcases Nat.mul_eq_zero.1 h0 with h | h <;> omega
            subst this
            simp only [Instr.buildSlice, Sem.run_bind, run_under h1, Result.andThen, run_sizeOf h3]
            have e0 : (zc (.arr 0 t)).toArray = (#[] : Array Value) := rfl
            rw [e0] at q1
            have r0 : Array.range 0 = (#[] : Array Nat) := rfl
            simp only [Nat.zero_mul, r0, Array.map_empty]
            rw [hpm]
            simp [q1, newRow, newObj, Sem.run, pushed]
          · have hzz : (toV t (zc t)).cells = (zc t).toArray := (Rep.dflt (H := w.heap) (S := S) t).cells
            have hle : ¬ (m * t.size > 16777216) := by omega
            have hq := zeros_eq (zc t) m
            rw [hzs] at hq
            rw [hz0] at q1
            have hle' : ¬ (m * t.size > 2 ^ 24) := by omega
            simp only [Instr.buildSlice, Sem.run_bind, run_under h1, Result.andThen, run_sizeOf h3, hle', h0, if_false, run_zero h3, hzz, hpm, Sem.run_pure, hq, q1]
            simp [newRow, newObj, Sem.run, pushed]
        have g1' : List.length l = m := g1
        have hO' : ∀ c ∈ O', c < w.heap.size := fun c hc => by obtain ⟨i, e, _, r2, r3⟩ := qb c hc; exact (h.hs.bl i e r2 c r3).2.2
        have hd' := h.drops (g := g) gp
        obtain ⟨O2, k1, k2, k3⟩ := row_rep (cap := m) h.hs.slt (O := O') (l := l) (cells := cs') (by rw [g1', List.take_of_length_le (by omega)]; exact g2) (by omega) hmm (by omega) et hO'
        have hp : Past [] w (pushed w (.cells cs'.toArray et)) := Past.push _
        exact OpOk.lay hl hrun (by rw [← g1']; rfl) k1 (hd'.turn Flt.nil hp) (Flt.new hd' (Flt.drops h.hs qn qb) hp (by simp [pushed]) k2 (k3 qn))
      · trivial
    · trivial
  · trivial

theorem mark_run {P : Program} {m : Mark} : (mark m).run P w = .ok () w := rfl
theorem askRoom_run {P : Program} {n : Nat} : (askRoom n).run P w = .ok () w := by unfold askRoom; split <;> rfl

theorem run_asInt {P : Program} {k : IntKind} {n : Int} : (asInt (.int k n)).run P w = .ok n w := by simp [asInt, asIntOf]

theorem makeSlice_sound (hE : EnvOk E) (h : RS B S ι s a w) {o : Oper} {T : TypeId} {x y : Operand} (ho : o.op = .makeSlice T x y) : ORok E.P B o a w (aop E o s) := by
  have he : execOp a.eval o = (do pure (.value (← Instr.makeSlice T (a.eval x) (a.eval y)))) := by simp [execOp, ho]
  unfold aop
  rw [ho]
  simp only
  split
  · rename_i t bts d k n k' m hT hd hx hy
    refine ORok.needLay (fun v s' hl hp => ?_)
    have hn0 : @LE.le Int Int.instLEInt 0 n := hp.1
    have hnm : @LE.le Int Int.instLEInt n m := hp.2.1
    have hmb : @LE.le Int Int.instLEInt m 140737488355328 := hp.2.2.1
    obtain ⟨hxv, _⟩ := VX.int_inv (evx h hx)
    obtain ⟨hyv, _⟩ := VX.int_inv (evx h hy)
    have hty := tt_ok hE hT
    obtain ⟨et, k2, h1, h2, h3⟩ := tyOk_slc hty
    obtain ⟨i, hi, hisz, hiz⟩ := tyOk_info h3
    have hib := tyOk_bytes h3 hi
    obtain ⟨M, rfl⟩ : ∃ M : Nat, m = ((M : Nat) : Int) := ⟨Int.toNat m, (Int.toNat_of_nonneg (Int.le_trans hn0 hnm)).symm⟩
    obtain ⟨N, rfl⟩ : ∃ N : Nat, n = ((N : Nat) : Int) := ⟨Int.toNat n, (Int.toNat_of_nonneg hn0).symm⟩
    have hbytes : ((t.wb : Nat) : Int) * (M : Int) ≤ 281474976710656 := by
      have := hp.2.2.2
      have e : ((M : Nat) : Int) * (t.wb : Nat) = (t.wb : Nat) * (M : Nat) := Int.mul_comm _ _
      have : @LE.le Int Int.instLEInt (((M : Nat) : Int) * (t.wb : Nat)) 140737488355328 := hp.2.2.2
      rw [e] at this
      omega
    have hzz : (toV t (zc t)).cells = (zc t).toArray := (Rep.dflt (H := w.heap) (S := S) t).cells
    have hw1 : IntKind.i64.wrap (M : Int) = (M : Int) := wrap_same (by unfold inK; simp [IntKind.min, IntKind.max, IntKind.signed, IntKind.bits]; omega)
    have hw2 : IntKind.i64.wrap (N : Int) = (N : Int) := wrap_same (by unfold inK; simp [IntKind.min, IntKind.max, IntKind.signed, IntKind.bits]; omega)
    have hrun : (Instr.makeSlice T (a.eval x) (a.eval y)).run E.P w = .ok (.slice (some ⟨w.heap.size, 0, none⟩) N M) (pushed w (.cells (List.replicate M (zc t)).flatten.toArray et)) := by
      rw [hxv, hyv]
      have c1 : ¬ ((M : Int) < 0) := by omega
      have c2 : ¬ ((N : Int) < 0) := by omega
      have c3 : ¬ ((M : Int) < (N : Int)) := by omega
      have c4 : ¬ (281474976710656 < ((t.wb : Nat) : Int) * (M : Int)) := by omega
      by_cases h0 : M * t.size = 0
      · have : M = 0 := by rcases Nat.mul_eq_zero.1 h0 with h | h <;> omega
        subst this
        have hN : N = 0 := by omega
        subst hN
        simp only [Instr.makeSlice, Sem.run_bind, run_under h1, Result.andThen, run_asInt, typeInfo, hi, hib, hw1, hw2, Sem.run_pure]
        have r0 : Array.range 0 = (#[] : Array Nat) := rfl
        simp [askRoom_run, run_sizeOf h3, newRow, newObj, Sem.run, pushed, Result.andThen, hi, r0]
      · have hq := zeros_eq (zc t) M
        rw [zc_length] at hq
        simp only [Instr.makeSlice, Sem.run_bind, run_under h1, Result.andThen, run_asInt, typeInfo, hi, hib, hw1, hw2, Sem.run_pure]
        simp [c1, c2, c3, c4, askRoom_run, run_sizeOf h3, h0, run_zero h3, hzz, Result.andThen, newRow, newObj, Sem.run, pushed, hi, hib]
        congr 2
        rw [← hq]
        apply Array.ext'
        simp [zc_length]
    have hd' := h.drops (g := []) rfl
    obtain ⟨O2, k1, k2', k3⟩ := row_rep (cap := M) h.hs.slt (O := []) (l := List.replicate N t.dflt) (cells := (List.replicate M (zc t)).flatten) (by
      have e : (List.replicate M (zc t)).flatten = (List.replicate N (zc t)).flatten ++ (List.replicate (M - N) (zc t)).flatten := by
        rw [← List.flatten_append, List.replicate_append_replicate]; congr 2; omega
      rw [e, List.take_left' (by simp [zc_length])]
      exact RepL.zeros N) (by simp; omega) (by unfold maxLen; omega) (by simp [zc_length]) et (by simp)
    have hp' : Past [] w (pushed w (.cells (List.replicate M (zc t)).flatten.toArray et)) := Past.push _
    exact OpOk.lay hl (exec_value he hrun) (by simp [toV, Ty.agg]) k1 (hd'.turn Flt.nil hp') (Flt.new hd' Flt.nil hp' (by simp [pushed]) k2' (k3 List.nodup_nil))
  · trivial

end
end Go.Ex
