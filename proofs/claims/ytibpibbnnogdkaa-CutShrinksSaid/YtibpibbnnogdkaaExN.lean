import Derived.Test.YtibpibbnnogdkaaExM4
namespace Go.Ex

section
variable {E : Env} {B : Base} {S S' : Nat → Prop} {ι : Ix} {s : St} {a : Act} {w : World} {hp : List (Nat × Ent)} {H H' : Array Go.Obj}

theorem index_sound (hE : EnvOk E) (h : RS B S ι s a w) {o : Oper} {T : TypeId} {x y : Operand} (ho : o.op = .index T x y) : ORok E.P B o a w (aop E o s) := by
  have he : execOp a.eval o = (do pure (.value (← Instr.index T (a.eval x) (a.eval y)))) := by simp [execOp, ho]
  unfold aop
  rw [ho]
  simp only
  split
  · rename_i l k n hx hy
    split
    · rename_i hc
      intro hn
      obtain ⟨hxv, _⟩ := VX.str_inv (evx h hx)
      obtain ⟨hyv, _⟩ := VX.int_inv (evx h hy)
      have hu := tyOk_str (chk_ok hE hc)
      exact exec_val he h (val := .int .u8 ((List.getD l (Int.toNat n) 0).toNat : Int)) (by rw [hxv, hyv]; exact run_index_str hu hn) (VX.int (by generalize List.getD l (Int.toNat n) 0 = c; have := c.toNat_lt; unfold inK; simp [IntKind.min, IntKind.max, IntKind.signed, IntKind.bits]; omega))
    · trivial
  · rename_i m t z k n hx hy
    split
    · rename_i hc
      intro hn
      obtain ⟨cs, e, hR⟩ := evx h hx
      have e : a.eval x = toV (.arr m t) cs := by simpa using e
      obtain ⟨hyv, _⟩ := VX.int_inv (evx h hy)
      obtain ⟨et, k', h1, h2, h3⟩ := tyOk_arr (chk_ok hE hc)
      obtain ⟨b1', b2, b3, b4⟩ := idx_bound (sz := t.size) hn
      obtain ⟨P1, P2, P3, e1, g1, g2, g3⟩ := RepL.split (d := t.dflt) (i := Int.toNat n) (by rw [hR.1]; exact b1') hR.2
      have hP : P2 = [] := (List.append_eq_nil_iff.1 (List.append_eq_nil_iff.1 e1.symm).2).1
      rw [hP] at g2
      refine exec_val he h (val := toV t ((cs.drop (Int.toNat n * t.size)).take t.size)) ?_ ⟨_, rfl, g2⟩
      have hp := run_part (w := w) h3 g2
      rw [e, hyv, toV]
      have hn' : 0 ≤ (n : Int) ∧ (n : Int) < m := hn
      simp [Instr.index, asIntOf, run_under h1, Ty.agg, hn', run_sizeOf h3, hp]
    · trivial
  · rename_i i p k n hx hy
    split
    · rename_i m t z hpt
      split
      · rename_i hc
        obtain ⟨e, u', y', cs, q1, q2, q3, q4, q5⟩ := evx h hx
        have hgp := part_of q1 hpt
        rw [q3] at hgp; cases hgp
        have q5 : a.eval x = toV (.arr m t) cs := by simpa using q5
        obtain ⟨hyv, _⟩ := VX.int_inv (evx h hy)
        obtain ⟨O2, m1, m2, hR⟩ := sub_rep h.hs q1 q2 q3 q4
        obtain ⟨et, k', h1, h2, h3⟩ := tyOk_arr (chk_ok hE hc)
        have core : (0 ≤ (n : Int) ∧ (n : Int) < m) → ∃ P2, (∀ c ∈ P2, c ∈ O2) ∧ Rep w.heap S t P2 ((cs.drop (Int.toNat n * t.size)).take t.size) (List.getD z (Int.toNat n) t.dflt) ∧ (Instr.index T (a.eval x) (a.eval y)).run E.P w = .ok (toV t ((cs.drop (Int.toNat n * t.size)).take t.size)) w := by
          intro hn
          obtain ⟨b1', b2, b3, b4⟩ := idx_bound (sz := t.size) hn
          obtain ⟨P1, P2, P3, e1, g1, g2, g3⟩ := RepL.split (d := t.dflt) (i := Int.toNat n) (by rw [hR.1]; exact b1') hR.2
          refine ⟨P2, fun c hc => by rw [e1]; simp [hc], g2, ?_⟩
          have hp := run_part (w := w) h3 g2
          rw [q5, hyv, toV]
          have hn' : 0 ≤ (n : Int) ∧ (n : Int) < m := hn
          simp [Instr.index, asIntOf, run_under h1, Ty.agg, hn', run_sizeOf h3, hp]
        split
        · rename_i hs
          intro hn
          obtain ⟨P2, k1, k2, k3⟩ := core hn
          have := k2.nilO hs
          subst this
          exact exec_val he h k3 ⟨_, rfl, k2⟩
        · intro hn
          obtain ⟨P2, k1, k2, k3⟩ := core hn
          refine exec_val he h k3 ⟨e, t, List.getD z (Int.toNat n) t.dflt, _, q1, ok_append q3 q2 ⟨hn, okP_nil⟩, getP_append q3 getP_nil, ?_, rfl⟩
          obtain ⟨b0, off0, g1, rfl⟩ := q4
          obtain ⟨b1', b2, b3, b4⟩ := idx_bound (sz := t.size) hn
          refine ⟨b0, off0 + Int.toNat n * t.size, Place_append q3 g1 (by simp only [Nav, Nav_nil]), ?_⟩
          rw [cellsAt_drop, cellsAt_take _ _ _ _ (by simp only [Ty.size]; omega)]
      · trivial
    · trivial
  · trivial
where
  run_index_str {P : Program} {w : World} {T : TypeId} {l : List UInt8} {k : IntKind} {n : Int} (hu : P.underlying T = some .string) (hn : 0 ≤ n ∧ n < (l.length : Int)) :
      (Instr.index T (.string ⟨l.toArray⟩) (.int k n)).run P w = .ok (.int .u8 ((l.getD n.toNat 0).toNat : Int)) w := by
    have h1 : n.toNat < l.length := by omega
    have h2 : (ByteArray.mk l.toArray)[n.toNat]? = some (l.getD n.toNat 0) := by
      have : n.toNat < (ByteArray.mk l.toArray).size := by simpa [ByteArray.size] using h1
      rw [getElem?_pos (ByteArray.mk l.toArray) n.toNat this]
      simp [ByteArray.getElem_eq_getElem_data, h1]
    simp [Instr.index, asIntOf, run_under hu, hn.1, h2]

theorem fold_sound {P : Program} (h : RS B S ι s a w) {k : IntKind} {f : Int → Int → Int} {m2 : Value → Value → Sem Value} (hf : ∀ x y, inK k x → inK k y → inK k (f x y)) (hm : ∀ x y, (m2 (.int k x) (.int k y)).run P w = .ok (.int k (f x y)) w) :
    ∀ {l : List Operand} {x : Int} {v : AV} {s' : St}, inK k x → foldI s k f x l = .ok v s' → ∃ n, v = .val (.int k) n ∧ s' = s ∧ inK k n ∧ ((l.map a.eval).foldlM m2 (.int k x)).run P w = .ok (.int k n) w
  | [], x, v, s', hx, hfo => by
    simp only [foldI, OR.ok.injEq] at hfo
    obtain ⟨rfl, rfl⟩ := hfo
    exact ⟨x, rfl, rfl, hx, rfl⟩
  | y :: l, x, v, s', hx, hfo => by
    simp only [foldI] at hfo
    split at hfo
    · rename_i k' b hy
      split at hfo
      · rename_i hk
        subst hk
        obtain ⟨hyv, hb⟩ := VX.int_inv (evx h hy)
        obtain ⟨n, k1, k2, k3, k4⟩ := fold_sound h hf hm (hf x b hx hb) hfo
        refine ⟨n, k1, k2, k3, ?_⟩
        simp only [List.map_cons, List.foldlM_cons, Sem.run_bind, hyv, hm, Result.andThen]
        exact k4
      · cases hfo
    · cases hfo

theorem foldI_okN {k : IntKind} {f : Int → Int → Int} : ∀ {l : List Operand} {x : Int} {p : Prop} {v : AV} {s' : St}, foldI s k f x l ≠ .okN p v s'
  | [], x, p, v, s', h => by cases h
  | y :: l, x, p, v, s', h => by
    simp only [foldI] at h
    split at h
    · split at h
      · exact foldI_okN h
      · cases h
    · cases h

theorem len_run {P : Program} {T ty : TypeId} {k : Nat} {u : Ty} (hT : tyOk P k T u = true) {v : Value} {n : Nat}
    (h : (∃ q t b off cap, u = .slc q t ∧ v = .slice b n cap ∧ off = 0) ∨ (∃ l : List UInt8, u = .str ∧ v = .string ⟨l.toArray⟩ ∧ n = l.length) ∨ (∃ t, u = .arr n t)) :
    (Builtin.len_ #[T] ty #[v]).run P w = .ok (.int .i64 n) w := by
  rcases h with ⟨q, t, b, off, cap, rfl, rfl, _⟩ | ⟨l, rfl, rfl, rfl⟩ | ⟨t, rfl⟩
  · obtain ⟨e, k', h1, _⟩ := tyOk_slc hT
    simp [Builtin.len_, run_under h1, goInt]
  · have h1 := tyOk_str hT
    have e : (ByteArray.mk l.toArray).size = l.length := rfl
    simp [Builtin.len_, run_under h1, goInt, e]
  · obtain ⟨e, k', h1, _⟩ := tyOk_arr hT
    simp [Builtin.len_, run_under h1, goInt]

theorem len_sound (hE : EnvOk E) (h : RS B S ι s a w) {o : Oper} {c : Call} (ho : o.op = .call c) (hc : c.callee = .builtin .len) {x : Operand} {T : TypeId} (ha : c.args.toList = [x]) (hT : c.argTypes.toList = [T]) {u : Ty} (hk : chk E T u = true) {n : Nat}
    (hv : (∃ q t b off cap, u = .slc q t ∧ a.eval x = .slice b n cap ∧ off = 0) ∨ (∃ l : List UInt8, u = .str ∧ a.eval x = .string ⟨l.toArray⟩ ∧ n = l.length) ∨ (∃ t, u = .arr n t)) (hn : (n : Int) ≤ 9223372036854775807) :
    OpOk E.P B o a w (.val (.int .i64) (n : Int)) s := by
  have hargs : c.args = #[x] := by rw [← ha]
  have hts : c.argTypes = #[T] := by rw [← hT]
  refine OpOk.value (val := .int .i64 n) ?_ h (VX.int (by unfold inK; simp [IntKind.min, IntKind.max, IntKind.signed, IntKind.bits]; omega))
  have := len_run (w := w) (ty := o.type) (chk_ok hE hk) hv
  simp [execOp, ho, resolve, hc, invoke, builtin, hargs, hts, this]

theorem slc_val {q : Bool} {u : Ty} {O : List Nat} {cs : List Value} {z : (Ty.slc q u).den} (hR : Rep H S (.slc q u) O cs z) : ∃ b cap, toV (.slc q u) cs = .slice b (List.length z) cap ∧ ((List.length z : Nat) : Int) ≤ 9223372036854775807 := by
  rcases hR with ⟨_, ⟨a, c, h1, _⟩, h2⟩ | ⟨b, off, cap, O', c1, c2, c3, _⟩
  · subst h2; subst h1; exact ⟨a, c, rfl, by simp⟩
  · rw [c1]; exact ⟨_, cap, rfl, by have := c3.1; unfold maxLen at this; omega⟩

/-! ### structs and arrays written out -/
theorem foldl_set (off : Nat) : ∀ (vs : List Value) (k : Nat) (cells : Array Value), off + k + vs.length ≤ cells.size →
    ((vs.zipIdx k).foldl (fun cs (q : Value × Nat) => cs.setIfInBounds (off + q.2) q.1) cells) = (over cells.toList (off + k) vs).toArray
  | [], k, cells, _ => by simp [over]
  | v :: vs, k, cells, h => by
    simp only [List.length_cons] at h
    simp only [List.zipIdx_cons, List.foldl_cons]
    rw [foldl_set off vs (k + 1) _ (by simp; omega)]
    congr 1
    have e := list_seg_step cells.toList (off + k) v vs (by simp; omega)
    simpa [over, Array.toList_setIfInBounds, Nat.add_assoc] using e

/-- one part laid over -/
theorem fill_one {place : Nat → Option (Nat × Nat)} {cells : List Value} {i off size : Nat} {v : Value} {vs : List Value} {rest : List (Nat × Value)} (hp : place i = some (off, size)) (hv : v.cells = vs.toArray) (hl : vs.length = size) (hb : off + size ≤ cells.length) :
    Instr.fill place cells.toArray ((i, v) :: rest) = Instr.fill place (over cells off vs).toArray rest := by
  have hz := foldl_set off vs 0 cells.toArray (by simp; omega)
  simp only [Instr.fill, hp, hv]
  have h1 : ¬ ((vs.toArray.size ≠ size) ∨ (off + vs.toArray.size > cells.toArray.size)) := by simp [hl]; omega
  simp only [Bool.or_eq_true, decide_eq_true_eq]
  rw [if_neg (by simpa using h1)]
  congr 1
  simp only [Nat.add_zero] at hz
  rw [← hz, ← Array.foldl_toList]
  simp

/-- one part of a value's cells written over -/
theorem rep_over {t : Ty} {x : t.den} {O : List Nat} {cs : List Value} (hR : Rep H S t O cs x) (hS : ∀ b, S b → b < H.size) (hO : ∀ b ∈ O, ¬ S b) (hnd : O.Nodup) {p : List Step} (hok : okP t x p) {u0 : Ty} {y0 : u0.den} (hg : getP t x p = some ⟨u0, y0⟩) {off : Nat}
    (hn : ∀ (G : Array Go.Obj) (b o : Nat), Nav G t p b o = some (b, o + off)) {u : Ty} {z : u.den} {O2 : List Nat} {cs' : List Value} (hz : Rep H S u O2 cs' z) (hnd2 : O2.Nodup) (hdj : ∀ b ∈ O2, b ∉ O) {r : Sigma Ty.den} (hset : setP t x p u z = some r) :
    ∃ O', Rep H S r.1 O' (over cs off cs') r.2 ∧ O'.Nodup ∧ (∀ b ∈ O', b ∈ O ∨ b ∈ O2) ∧ r.1.sh = t.sh ∧ off + u0.size ≤ cs.length ∧ u.size = u0.size := by
  have hush := getset_sh hg hset
  have husz := size_er hush
  let G : Array Go.Obj := H.push (.cells cs.toArray 0)
  let G' : Array Go.Obj := H.push (.cells (over cs off cs').toArray 0)
  have hold : ∀ {c}, c < H.size → G[c]? = H[c]? := fun h => push_old h
  have hold' : ∀ {c}, c < H.size → G'[c]? = H[c]? := fun h => push_old h
  have hblk : blk G H.size = cs := by simp [G, blk]
  have hblk' : blk G' H.size = over cs off cs' := by simp [G', blk]
  have hOl : ∀ c ∈ O, c < H.size := fun c hc => (hR.memO c hc).lt
  have hO2l : ∀ c ∈ O2, c < H.size := fun c hc => (hz.memO c hc).lt
  have hroot : cellsAt G H.size 0 t.size = cs := by
    simp only [cellsAt, hblk, List.drop_zero]
    exact List.take_of_length_le (by rw [hR.length]; exact Nat.le_refl _)
  have hRG : Rep G S t O (cellsAt G H.size 0 t.size) x := by
    rw [hroot]; exact hR.stable (fun c hc => hold (hc.elim (hOl c) (hS c))) (fun _ h => h)
  have hbG : 0 + t.size ≤ (blk G H.size).length := by rw [hblk, hR.length]; omega
  obtain ⟨O1, O3, b', off', e1, e2, e3, e4, e5, e6⟩ := focus (b := H.size) (off := 0) hRG hbG hok hg
  rw [hn] at e3; cases e3
  rw [hblk] at e5
  have hle : off + u0.size ≤ cs.length := by simpa using e5
  have hcl : cs'.length = u0.size := by rw [hz.length, husz]
  have hov : (over cs off cs').length = cs.length := over_length (by omega)
  have hnS : ¬ S H.size := fun h => Nat.lt_irrefl _ (hS _ h)
  have hc : Chg G G' H.size (0 + off) u0.size := by
    refine ⟨⟨cs.toArray, (over cs off cs').toArray, 0, ⟨_, ⟨push_new, .inl rfl⟩, push_new⟩, by simp [hov], ?_⟩, ?_⟩
    · intro j hj
      exact over_out (by omega) (by omega)
    · intro c hc1 hc2
      have : c < H.size := by simp [G] at hc2; omega
      rw [hold' this, hold this]
  have hz' : Rep G' S u O2 (cellsAt G' H.size (0 + off) u.size) z := by
    have : cellsAt G' H.size (0 + off) u.size = cs' := by
      simp only [cellsAt, hblk', Nat.zero_add]
      rw [← hz.length]; exact over_in (by omega)
    rw [this]
    exact hz.stable (fun c hc => hold' (hc.elim (hO2l c) (hS c))) (fun _ h => h)
  have hndO := (e1.nodup_iff).1 hnd
  have hm1 : ∀ c ∈ O1, c ∈ O := fun c hc => e1.mem_iff.2 (by simp [hc])
  obtain ⟨O4, f1, f2, f3⟩ := unfocus e2 hg (hn G H.size 0) hbG (by simp [G]) (List.nodup_append.1 hndO).1 (fun hm => Nat.lt_irrefl _ (hOl _ (hm1 _ hm))) (fun c hc => ⟨hO c (hm1 c hc), by have := hOl c (hm1 c hc); simp [G]; omega⟩) hnS
    (fun c hc => by have := hS c hc; simp [G]; omega) (fun _ h => h) hc hz' hset
  have hsub : ∀ b ∈ O4, b ∈ O ∨ b ∈ O2 := fun b hb => (List.mem_append.1 (f1.mem_iff.1 hb)).imp (hm1 b) id
  refine ⟨O4, ?_, (f1.nodup_iff).2 (List.nodup_append.2 ⟨(List.nodup_append.1 hndO).1, hnd2, fun c h1 d h2 e => hdj d h2 (e ▸ hm1 c h1)⟩), hsub, f3, hle, husz⟩
  have : cellsAt G' H.size 0 r.1.size = over cs off cs' := by
    simp only [cellsAt, hblk', List.drop_zero]
    exact List.take_of_length_le (by rw [hov, hR.length, size_er f3]; omega)
  rw [this] at f2
  exact f2.stable (fun c hc => (hold' (hc.elim (fun h => (hsub c h).elim (hOl c) (hO2l c)) (hS c))).symm) (fun _ h => h)

def offP (t : Ty) (i : Nat) : Nat :=
  match t with
  | .arr _ t => i * t.size
  | t => offF t i

theorem part_nav {t : Ty} {x : t.den} {i : Nat} (hi : inArr t i = true) {r : Sigma Ty.den} (hg : getP t x (partPath t i) = some r) : okP t x (partPath t i) ∧ ∀ (G : Array Go.Obj) (b o : Nat), Nav G t (partPath t i) b o = some (b, o + offP t i) := by
  obtain ⟨u, y⟩ := r
  cases t with
  | arr n t =>
    have : i < n := by simpa [inArr, Nat.blt_eq] using hi
    refine ⟨⟨by omega, okP_nil⟩, fun G b o => ?_⟩
    simp [partPath, Nav, offP, Nav_nil]
  | _ => exact ⟨ok_fld hg, fun G b o => Nav_fld hg⟩

/-- parts laid over one another, as the machine fills them -/
theorem fill_sound (h : RS B S ι s a w) {place : Nat → Option (Nat × Nat)} : ∀ {parts : List (Nat × Operand)} {t : Ty} {x : t.den} {O : List Nat} {cs : List Value} {r : Sigma Ty.den} {G g : List Nat}, Rep w.heap S t O cs x → O.Nodup → (∀ b ∈ O, BlkOf ι s.hp G b) → (G ++ g).Nodup → parts.all (fun q => inArr t q.1) = true →
    (∀ (t' : Ty) (x' : t'.den) (i : Nat) (u : Ty) (y : u.den), t'.sh = t.sh → getP t' x' (partPath t' i) = some ⟨u, y⟩ → inArr t' i = true → place i = some (offP t' i, u.size)) → buildL s ⟨t, x⟩ parts = some (r, g) →
    ∃ cs' O', Instr.fill place cs.toArray (parts.map fun q => (q.1, a.eval q.2)) = some cs'.toArray ∧ Rep w.heap S r.1 O' cs' r.2 ∧ O'.Nodup ∧ (∀ b ∈ O', BlkOf ι s.hp (G ++ g) b) ∧ r.1.sh = t.sh
  | [], t, x, O, cs, r, G, g, hR, hnd, hO, _, _, _, hb => by
    simp only [buildL, Option.some.injEq, Prod.mk.injEq] at hb
    obtain ⟨rfl, rfl⟩ := hb
    exact ⟨cs, O, rfl, hR, hnd, fun b hb => (hO b hb).mono (by simp), rfl⟩
  | (i, v) :: parts, t, x, O, cs, r, G, g, hR, hnd, hO, hG, hall, hp, hb => by
    simp only [List.all_cons, Bool.and_eq_true] at hall
    simp only [buildL] at hb
    split at hb
    · cases hb
    · rename_i u0 y0 hg
      obtain ⟨hok, hnav⟩ := part_nav hall.1 hg
      have hplace := hp t x i u0 y0 rfl hg hall.1
      have hOS : ∀ b ∈ O, ¬ S b := fun b hb => by obtain ⟨j, e, _, q2, q3⟩ := hO b hb; exact (h.hs.bl j e q2 b q3).1
      -- one part
      have one : ∀ {u : Ty} {z : u.den} {O2 : List Nat} {cs1 : List Value} {r1 : Sigma Ty.den} {g1 g2 : List Nat}, Rep w.heap S u O2 cs1 z → O2.Nodup → (∀ b ∈ O2, BlkOf ι s.hp g1 b) → a.eval v = toV u cs1 → setP t x (partPath t i) u z = some r1 → buildL s r1 parts = some (r, g2) → g = g1 ++ g2 →
          ∃ cs' O', Instr.fill place cs.toArray (((i, v) :: parts).map fun q => (q.1, a.eval q.2)) = some cs'.toArray ∧ Rep w.heap S r.1 O' cs' r.2 ∧ O'.Nodup ∧ (∀ b ∈ O', BlkOf ι s.hp (G ++ g) b) ∧ r.1.sh = t.sh := by
        intro u z O2 cs1 r1 g1 g2 hz hnd2 hO2 hev hset hb hgg
        subst hgg
        have hdj : ∀ b ∈ O2, b ∉ O := by
          intro b hb2 hb1
          obtain ⟨i1, e1, q1, q2, q3⟩ := hO2 b hb2
          obtain ⟨i2, e2, r1', r2, r3⟩ := hO b hb1
          have hne : i1 ≠ i2 := by rintro rfl; exact (List.nodup_append.1 hG).2.2 i1 r1' i1 (by simp [q1]) rfl
          exact h.hs.dj i1 i2 e1 e2 q2 r2 hne b q3 r3
        obtain ⟨O', k1, k1n, k1s, k2, k3, k4⟩ := rep_over hR h.hs.slt hOS hnd hok hg hnav hz hnd2 hdj hset
        obtain ⟨t1, x1⟩ := r1
        have hsh : t1.sh = t.sh := k2
        have hin : ∀ j, inArr t1 j = inArr t j := by
          intro j
          cases t <;> cases t1 <;> simp only [Ty.sh] at hsh <;> first | cases hsh | rfl | skip
          all_goals first | rfl | (simp only [Ty.arr.injEq] at hsh; simp only [inArr, hsh.1])
        obtain ⟨cs', O4, q1, q2, q3, q4, q5⟩ := fill_sound h (place := place) (parts := parts) (G := G ++ g1) (g := g2) k1 k1n (fun b hb => (k1s b hb).elim (fun hb => (hO b hb).mono (by simp; intro i hi; exact .inl hi)) (fun hb => (hO2 b hb).mono (by simp; intro i hi; exact .inr hi))) (by rw [List.append_assoc]; exact hG) (by simp only [hin]; exact hall.2) (fun t' x' j u' y' e1 e2 e3 => hp t' x' j u' y' (e1.trans hsh) e2 e3) hb
        refine ⟨cs', O4, ?_, q2, q3, by rw [← List.append_assoc]; exact q4, q5.trans hsh⟩
        simp only [List.map_cons]
        rw [fill_one (vs := cs1) hplace (by rw [hev]; exact hz.cells) (by rw [hz.length, k4]) k3]
        exact q1
      split at hb
      · rename_i hv
        have hv' : [a.eval v] = [Value.slice none 0 0] := evx h hv
        split at hb
        · rename_i o' u' _
          split at hb
          · rename_i r1 hset
            exact one (u := .slc o' u') (z := ([] : List u'.den)) (cs1 := [.slice none 0 0]) (g1 := []) (.inl ⟨rfl, ⟨none, 0, rfl, fun _ => rfl⟩, rfl⟩) List.nodup_nil (by simp) (by simpa [toV, Ty.agg] using hv') hset hb rfl
          · cases hb
        · cases hb
      · split at hb
        · rename_i u z g1 hgv
          obtain ⟨O2, cs1, e, hz, hnd2, hO2⟩ := giveV_rep h.hs hgv (h.ev v)
          split at hb
          · rename_i r1 hset
            split at hb
            · rename_i r2 g2 hb2
              simp only [Option.some.injEq, Prod.mk.injEq] at hb
              obtain ⟨rfl, rfl⟩ := hb
              exact one hz hnd2 hO2 e hset hb2 rfl
            · cases hb
          · cases hb
        · cases hb

/-- the places of a struct's fields -/
def plc : Ty → Nat → List (Nat × Nat)
  | .pair a b, off => (off, a.size) :: plc b (off + a.size)
  | _, _ => []

theorem plc_get : ∀ {t : Ty} {x : t.den} {n : Nat} {u : Ty} {z : u.den} {off : Nat}, getP t x [.fld n] = some ⟨u, z⟩ → (plc t off)[n]? = some (off + offF t n, u.size) := by
  intro t
  induction t with
  | pair a c _ ihc =>
    intro x n u z off h
    match n, h with
    | 0, h =>
      have h : some (⟨a, x.1⟩ : Sigma Ty.den) = some ⟨u, z⟩ := by rw [← h]; simp only [getP]
      cases h
      simp [plc, offF]
    | n + 1, h =>
      have := ihc (x := x.2) (off := off + a.size) h
      simp only [plc, offF, List.getElem?_cons_succ, this]
      simp [Nat.add_assoc]
  | slc o t _ => intro x n u z off h; cases o <;> simp [getP] at h
  | _ => intro x n u z off h; simp [getP] at h

theorem run_plc {P : Program} {k : Nat} : ∀ {fs : List Field} {off : Nat} {t : Ty}, fieldsOk (tyOk P k) fs off t = true → (fs.mapM fun f => Prod.mk f.offset <$> sizeOf f.type).run P w = .ok (plc t off) w
  | [], off, t, h => by
    cases t <;> simp [fieldsOk] at h
    rfl
  | f :: fs, off, t, h => by
    cases t <;> simp only [fieldsOk] at h <;> first | cases h | skip
    simp only [Bool.and_eq_true] at h
    obtain ⟨⟨⟨⟨h1, _⟩, h3⟩, _⟩, h4⟩ := h
    have ih := run_plc h4
    simp [List.mapM_cons, run_sizeOf h3, ih, plc, Nat.eq_of_beq_eq_true h1]

theorem plc_sh : ∀ {t u : Ty} {off : Nat}, u.sh = t.sh → plc u off = plc t off := by
  intro t
  induction t with
  | pair a c _ ihc =>
    intro u off h
    cases u <;> simp only [Ty.sh] at h <;> try cases h
    simp only [Ty.pair.injEq] at h
    simp only [plc, size_er h.1, ihc h.2]
  | _ =>
    intro u off h
    cases u <;> simp only [Ty.sh] at h <;> try cases h
    all_goals rfl

theorem tyOk_struct {P : Program} {k : Nat} {T : TypeId} {t : Ty} (h : tyOk P k T t = true) (ht : t.agg = true) (hn : ∀ n u, t ≠ .arr n u) : ∃ fs k', P.underlying T = some (.struct fs) ∧ fieldsOk (tyOk P k') fs.toList 0 t = true := by
  cases k with
  | zero => simp [tyOk] at h
  | succ k =>
    obtain ⟨d, h1, h2⟩ := tyOk_agg h
    simp only [tyOk, Bool.and_eq_true, h1] at h
    obtain ⟨_, h⟩ := h
    cases t with
    | pair a c => cases d <;> first | (exact (Bool.false_ne_true h).elim) | (exact ⟨_, k, h1, h⟩)
    | unit => cases d <;> first | (exact (Bool.false_ne_true h).elim) | (exact ⟨_, k, h1, h⟩)
    | arr n u => exact absurd rfl (hn n u)
    | _ => cases ht

end
end Go.Ex
