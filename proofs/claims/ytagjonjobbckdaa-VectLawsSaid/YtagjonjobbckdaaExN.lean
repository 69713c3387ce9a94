import Derived.Test.YtagjonjobbckdaaExM
namespace Go.Ex

section
variable {E : Env} {B : Base} {S S' : Nat → Prop} {ι : Ix} {s : St} {a : Act} {w : World} {hp : List (Nat × Ent)} {H H' : Array Go.Obj}

theorem index_sound (hE : EnvOk E) (h : RS B S ι s a w) {o : Oper} {T : TypeId} {x y : Operand} (ho : o.op = .index T x y) : ORok E.P B o a w (aop E o s) := by
  have he : execOp a.eval o = (do pure (.value (← Instr.index T (a.eval x) (a.eval y)))) := by simp [execOp, ho]
  unfold aop
  rw [ho]
  simp only
  split
  · rename_i l k n hx hy
    split
    · rename_i hc
      intro hn
      obtain ⟨hxv, _⟩ := VX.str_inv (evx h hx)
      obtain ⟨hyv, _⟩ := VX.int_inv (evx h hy)
      have hu := tyOk_str (chk_ok hE hc)
      exact exec_val he h (val := .int .u8 ((List.getD l (Int.toNat n) 0).toNat : Int)) (by rw [hxv, hyv]; exact run_index_str hu hn) (VX.int (by generalize List.getD l (Int.toNat n) 0 = c; have := c.toNat_lt; unfold inK; simp [IntKind.min, IntKind.max, IntKind.signed, IntKind.bits]; omega))
    · trivial
  · rename_i m t z k n hx hy
    split
    · rename_i hc
      intro hn
      obtain ⟨cs, e, hR⟩ := evx h hx
      have e : a.eval x = toV (.arr m t) cs := by simpa using e
      obtain ⟨hyv, _⟩ := VX.int_inv (evx h hy)
      obtain ⟨et, k', h1, h2, h3⟩ := tyOk_arr (chk_ok hE hc)
      obtain ⟨b1', b2, b3, b4⟩ := idx_bound (sz := t.size) hn
      obtain ⟨P1, P2, P3, e1, g1, g2, g3⟩ := RepL.split (d := t.dflt) (i := Int.toNat n) (by rw [hR.1]; exact b1') hR.2
      have hP : P2 = [] := (List.append_eq_nil_iff.1 (List.append_eq_nil_iff.1 e1.symm).2).1
      rw [hP] at g2
      refine exec_val he h (val := toV t ((cs.drop (Int.toNat n * t.size)).take t.size)) ?_ ⟨_, rfl, g2⟩
      have hp := run_part (w := w) h3 g2
      rw [e, hyv, toV]
      have hn' : 0 ≤ (n : Int) ∧ (n : Int) < m := hn
      simp [Instr.index, asIntOf, run_under h1, Ty.agg, hn', run_sizeOf h3, hp]
    · trivial
  · trivial
where
  run_index_str {P : Program} {w : World} {T : TypeId} {l : List UInt8} {k : IntKind} {n : Int} (hu : P.underlying T = some .string) (hn : 0 ≤ n ∧ n < (l.length : Int)) :
      (Instr.index T (.string ⟨l.toArray⟩) (.int k n)).run P w = .ok (.int .u8 ((l.getD n.toNat 0).toNat : Int)) w := by
    have h1 : n.toNat < l.length := by omega
    have h2 : (ByteArray.mk l.toArray)[n.toNat]? = some (l.getD n.toNat 0) := by
      have : n.toNat < (ByteArray.mk l.toArray).size := by simpa [ByteArray.size] using h1
      rw [getElem?_pos (ByteArray.mk l.toArray) n.toNat this]
      simp [ByteArray.getElem_eq_getElem_data, h1]
    simp [Instr.index, asIntOf, run_under hu, hn.1, h2]

theorem maxmin_sound (h : RS B S ι s a w) {o : Oper} {c : Call} (ho : o.op = .call c) {P : Program} {x y : Operand} (ha : c.args.toList = [x, y]) {k : IntKind} {m n : Int} (hx : s.ev x = .val (.int k) m) (hy : s.ev y = .val (.int k) n) :
    (c.callee = .builtin .max → OpOk P B o a w (.val (.int k) (if m < n then n else m)) s) ∧ (c.callee = .builtin .min → OpOk P B o a w (.val (.int k) (if n < m then n else m)) s) := by
  obtain ⟨hxv, bx⟩ := VX.int_inv (evx h hx)
  obtain ⟨hyv, by_⟩ := VX.int_inv (evx h hy)
  have hargs : c.args = #[x, y] := by rw [← ha]
  constructor
  · intro hc
    refine OpOk.value (val := .int k (if m < n then n else m)) ?_ h (VX.int (by split <;> assumption))
    simp [execOp, ho, resolve, hc, invoke, builtin, hargs, hxv, hyv, Builtin.max_, Builtin.max2]
  · intro hc
    refine OpOk.value (val := .int k (if n < m then n else m)) ?_ h (VX.int (by split <;> assumption))
    simp [execOp, ho, resolve, hc, invoke, builtin, hargs, hxv, hyv, Builtin.min_, Builtin.min2]

theorem len_run {P : Program} {T ty : TypeId} {k : Nat} {u : Ty} (hT : tyOk P k T u = true) {v : Value} {n : Nat}
    (h : (∃ q t b off cap, u = .slc q t ∧ v = .slice b n cap ∧ off = 0) ∨ (∃ l : List UInt8, u = .str ∧ v = .string ⟨l.toArray⟩ ∧ n = l.length) ∨ (∃ t, u = .arr n t)) :
    (Builtin.len_ #[T] ty #[v]).run P w = .ok (.int .i64 n) w := by
  rcases h with ⟨q, t, b, off, cap, rfl, rfl, _⟩ | ⟨l, rfl, rfl, rfl⟩ | ⟨t, rfl⟩
  · obtain ⟨e, k', h1, _⟩ := tyOk_slc hT
    simp [Builtin.len_, run_under h1, goInt]
  · have h1 := tyOk_str hT
    have e : (ByteArray.mk l.toArray).size = l.length := rfl
    simp [Builtin.len_, run_under h1, goInt, e]
  · obtain ⟨e, k', h1, _⟩ := tyOk_arr hT
    simp [Builtin.len_, run_under h1, goInt]

theorem at_val (h : RS B S ι s a w) {i : Nat} {p : List Step} {e : Ent} (hob : s.obj i = some e) {val : Value} (hv : VX w.heap S ι s.hp (.at_ i p) [val]) {u : Ty} {y : u.den} (hg : getP e.ty e.x p = some ⟨u, y⟩) :
    ∃ O cs, val = toV u cs ∧ Rep w.heap S u O cs y := by
  obtain ⟨e', u', y', cs, h1, h2, h3, h4, h5⟩ := hv
  obtain rfl := ent_of h1 hob
  rw [hg] at h3; cases h3
  obtain ⟨O2, _, hR⟩ := sub_rep (h.hs.ob i e h1) h2 hg h4
  exact ⟨O2, cs, by simpa using h5, hR⟩

theorem len_sound (hE : EnvOk E) (h : RS B S ι s a w) {o : Oper} {c : Call} (ho : o.op = .call c) (hc : c.callee = .builtin .len) {x : Operand} {T : TypeId} (ha : c.args.toList = [x]) (hT : c.argTypes.toList = [T]) {u : Ty} (hk : chk E T u = true) {n : Nat}
    (hv : (∃ q t b off cap, u = .slc q t ∧ a.eval x = .slice b n cap ∧ off = 0) ∨ (∃ l : List UInt8, u = .str ∧ a.eval x = .string ⟨l.toArray⟩ ∧ n = l.length) ∨ (∃ t, u = .arr n t)) (hn : (n : Int) ≤ 9223372036854775807) :
    OpOk E.P B o a w (.val (.int .i64) (n : Int)) s := by
  have hargs : c.args = #[x] := by rw [← ha]
  have hts : c.argTypes = #[T] := by rw [← hT]
  refine OpOk.value (val := .int .i64 n) ?_ h (VX.int (by unfold inK; simp [IntKind.min, IntKind.max, IntKind.signed, IntKind.bits]; omega))
  have := len_run (w := w) (ty := o.type) (chk_ok hE hk) hv
  simp [execOp, ho, resolve, hc, invoke, builtin, hargs, hts, this]

theorem slc_val {q : Bool} {u : Ty} {O : List Nat} {cs : List Value} {z : (Ty.slc q u).den} (hR : Rep H S (.slc q u) O cs z) : ∃ b cap, toV (.slc q u) cs = .slice b (List.length z) cap ∧ ((List.length z : Nat) : Int) ≤ 9223372036854775807 := by
  rcases hR with ⟨_, h1, h2⟩ | ⟨b, off, cap, O', c1, c2, c3, _⟩
  · subst h2; subst h1; exact ⟨none, 0, rfl, by simp⟩
  · rw [c1]; exact ⟨_, cap, rfl, by unfold maxLen at c3; omega⟩

/-! ### structs and arrays written out -/
theorem foldl_set (off : Nat) : ∀ (vs : List Value) (k : Nat) (cells : Array Value), off + k + vs.length ≤ cells.size →
    ((vs.zipIdx k).foldl (fun cs (q : Value × Nat) => cs.setIfInBounds (off + q.2) q.1) cells) = (over cells.toList (off + k) vs).toArray
  | [], k, cells, _ => by simp [over]
  | v :: vs, k, cells, h => by
    simp only [List.length_cons] at h
    simp only [List.zipIdx_cons, List.foldl_cons]
    rw [foldl_set off vs (k + 1) _ (by simp; omega)]
    congr 1
    have e := list_seg_step cells.toList (off + k) v vs (by simp; omega)
    simpa [over, Array.toList_setIfInBounds, Nat.add_assoc] using e

/-- one part laid over -/
theorem fill_one {place : Nat → Option (Nat × Nat)} {cells : List Value} {i off size : Nat} {v : Value} {vs : List Value} {rest : List (Nat × Value)} (hp : place i = some (off, size)) (hv : v.cells = vs.toArray) (hl : vs.length = size) (hb : off + size ≤ cells.length) :
    Instr.fill place cells.toArray ((i, v) :: rest) = Instr.fill place (over cells off vs).toArray rest := by
  have hz := foldl_set off vs 0 cells.toArray (by simp; omega)
  simp only [Instr.fill, hp, hv]
  have h1 : ¬ ((vs.toArray.size ≠ size) ∨ (off + vs.toArray.size > cells.toArray.size)) := by simp [hl]; omega
  simp only [Bool.or_eq_true, decide_eq_true_eq]
  rw [if_neg (by simpa using h1)]
  congr 1
  simp only [Nat.add_zero] at hz
  rw [← hz, ← Array.foldl_toList]
  simp

/-- one part of a value's cells written over -/
theorem rep_over {t : Ty} {x : t.den} {cs : List Value} (hR : Rep H S t [] cs x) (hS : ∀ b, S b → b < H.size) {p : List Step} (hok : okP t x p) {u0 : Ty} {y0 : u0.den} (hg : getP t x p = some ⟨u0, y0⟩) {off : Nat}
    (hn : ∀ (G : Array Go.Obj) (b o : Nat), Nav G t p b o = some (b, o + off)) {u : Ty} {z : u.den} {cs' : List Value} (hz : Rep H S u [] cs' z) {r : Sigma Ty.den} (hset : setP t x p u z = some r) :
    Rep H S r.1 [] (over cs off cs') r.2 ∧ r.1.sh = t.sh ∧ off + u0.size ≤ cs.length ∧ u.size = u0.size := by
  have hush := getset_sh hg hset
  have husz := size_er hush
  let G : Array Go.Obj := H.push (.cells cs.toArray 0)
  let G' : Array Go.Obj := H.push (.cells (over cs off cs').toArray 0)
  have hold : ∀ {c}, c < H.size → G[c]? = H[c]? := fun h => push_old h
  have hold' : ∀ {c}, c < H.size → G'[c]? = H[c]? := fun h => push_old h
  have hblk : blk G H.size = cs := by simp [G, blk]
  have hblk' : blk G' H.size = over cs off cs' := by simp [G', blk]
  have hroot : cellsAt G H.size 0 t.size = cs := by
    simp only [cellsAt, hblk, List.drop_zero]
    exact List.take_of_length_le (by rw [hR.length]; exact Nat.le_refl _)
  have hRG : Rep G S t [] (cellsAt G H.size 0 t.size) x := by
    rw [hroot]; exact hR.stable (fun c hc => hold (hc.elim (fun h => by cases h) (hS c))) (fun _ h => h)
  have hbG : 0 + t.size ≤ (blk G H.size).length := by rw [hblk, hR.length]; omega
  obtain ⟨O1, O2, b', off', e1, e2, e3, e4, e5, e6⟩ := focus (b := H.size) (off := 0) hRG hbG hok hg
  have hO : O1 = [] ∧ O2 = [] := by have := e1.nil_eq; simpa using this.symm
  rw [hn] at e3; cases e3
  rw [hO.1] at e2
  rw [hblk] at e5
  have hle : off + u0.size ≤ cs.length := by simpa using e5
  have hcl : cs'.length = u0.size := by rw [hz.length, husz]
  have hov : (over cs off cs').length = cs.length := over_length (by omega)
  have hnS : ¬ S H.size := fun h => Nat.lt_irrefl _ (hS _ h)
  have hc : Chg G G' H.size (0 + off) u0.size := by
    refine ⟨⟨cs.toArray, (over cs off cs').toArray, 0, push_new, push_new, by simp [hov], ?_⟩, ?_⟩
    · intro j hj
      exact over_out (by omega) (by omega)
    · intro c hc1 hc2
      have : c < H.size := by simp [G] at hc2; omega
      rw [hold' this, hold this]
  have hz' : Rep G' S u [] (cellsAt G' H.size (0 + off) u.size) z := by
    have : cellsAt G' H.size (0 + off) u.size = cs' := by
      simp only [cellsAt, hblk', Nat.zero_add]
      rw [← hz.length]; exact over_in (by omega)
    rw [this]
    exact hz.stable (fun c hc => hold' (hc.elim (fun h => by cases h) (hS c))) (fun _ h => h)
  obtain ⟨O4, f1, f2, f3⟩ := unfocus e2 hg (hn G H.size 0) hbG (by simp [G]) List.nodup_nil (by simp) (by simp) hnS (fun c hc => by have := hS c hc; simp [G]; omega) (fun _ h => h) hc hz' hset
  have hO4 : O4 = [] := by have := f1; simpa using this
  rw [hO4] at f2
  refine ⟨?_, f3, hle, husz⟩
  have : cellsAt G' H.size 0 r.1.size = over cs off cs' := by
    simp only [cellsAt, hblk', List.drop_zero]
    exact List.take_of_length_le (by rw [hov, hR.length, size_er f3]; omega)
  rw [this] at f2
  exact f2.stable (fun c hc => (hold' (hc.elim (fun h => by cases h) (hS c))).symm) (fun _ h => h)

def offP (t : Ty) (i : Nat) : Nat :=
  match t with
  | .arr _ t => i * t.size
  | t => offF t i

theorem part_nav {t : Ty} {x : t.den} {i : Nat} (hi : inArr t i = true) {r : Sigma Ty.den} (hg : getP t x (partPath t i) = some r) : okP t x (partPath t i) ∧ ∀ (G : Array Go.Obj) (b o : Nat), Nav G t (partPath t i) b o = some (b, o + offP t i) := by
  obtain ⟨u, y⟩ := r
  cases t with
  | arr n t =>
    have : i < n := by simpa [inArr, Nat.blt_eq] using hi
    refine ⟨⟨by omega, by cases t <;> trivial⟩, fun G b o => ?_⟩
    simp [partPath, Nav, offP]
  | _ => exact ⟨ok_fld hg, fun G b o => Nav_fld hg⟩

/-- parts laid over one another, as the machine fills them -/
theorem fill_sound (h : RS B S ι s a w) {place : Nat → Option (Nat × Nat)} : ∀ {parts : List (Nat × Operand)} {t : Ty} {x : t.den} {cs : List Value} {r : Sigma Ty.den}, Rep w.heap S t [] cs x → parts.all (fun q => inArr t q.1) = true →
    (∀ (t' : Ty) (x' : t'.den) (i : Nat) (u : Ty) (y : u.den), t'.sh = t.sh → getP t' x' (partPath t' i) = some ⟨u, y⟩ → inArr t' i = true → place i = some (offP t' i, u.size)) → buildL s ⟨t, x⟩ parts = some r →
    ∃ cs', Instr.fill place cs.toArray (parts.map fun q => (q.1, a.eval q.2)) = some cs'.toArray ∧ Rep w.heap S r.1 [] cs' r.2 ∧ r.1.sh = t.sh
  | [], t, x, cs, r, hR, _, _, hb => by
    simp only [buildL, Option.some.injEq] at hb
    subst hb
    exact ⟨cs, rfl, hR, rfl⟩
  | (i, v) :: parts, t, x, cs, r, hR, hall, hp, hb => by
    simp only [List.all_cons, Bool.and_eq_true] at hall
    simp only [buildL] at hb
    split at hb
    · cases hb
    · rename_i u0 y0 hg
      obtain ⟨hok, hnav⟩ := part_nav hall.1 hg
      have hplace := hp t x i u0 y0 rfl hg hall.1
      -- one part
      have one : ∀ {u : Ty} {z : u.den} {cs1 : List Value} {r1 : Sigma Ty.den}, Rep w.heap S u [] cs1 z → a.eval v = toV u cs1 → setP t x (partPath t i) u z = some r1 → buildL s r1 parts = some r →
          ∃ cs', Instr.fill place cs.toArray (((i, v) :: parts).map fun q => (q.1, a.eval q.2)) = some cs'.toArray ∧ Rep w.heap S r.1 [] cs' r.2 ∧ r.1.sh = t.sh := by
        intro u z cs1 r1 hz hev hset hb
        obtain ⟨k1, k2, k3, k4⟩ := rep_over hR h.hs.slt hok hg hnav hz hset
        obtain ⟨t1, x1⟩ := r1
        have hsh : t1.sh = t.sh := k2
        have hin : ∀ j, inArr t1 j = inArr t j := by
          intro j
          cases t <;> cases t1 <;> simp only [Ty.sh] at hsh <;> first | cases hsh | rfl | skip
          all_goals first | rfl | (simp only [Ty.arr.injEq] at hsh; simp only [inArr, hsh.1])
        obtain ⟨cs', q1, q2, q3⟩ := fill_sound h (place := place) (parts := parts) k1 (by simp only [hin]; exact hall.2) (fun t' x' j u' y' e1 e2 e3 => hp t' x' j u' y' (e1.trans hsh) e2 e3) hb
        refine ⟨cs', ?_, q2, q3.trans hsh⟩
        simp only [List.map_cons]
        rw [fill_one (vs := cs1) hplace (by rw [hev]; exact hz.cells) (by rw [hz.length, k4]) k3]
        exact q1
      split at hb
      · rename_i u z hv
        obtain ⟨cs1, e, hz⟩ := evx h hv
        split at hb
        · rename_i r1 hset
          exact one hz (by simpa using e) hset hb
        · cases hb
      · rename_i hv
        have hv' : [a.eval v] = [Value.slice none 0 0] := evx h hv
        split at hb
        · rename_i o' u' _
          split at hb
          · rename_i r1 hset
            exact one (u := .slc o' u') (z := ([] : List u'.den)) (cs1 := [.slice none 0 0]) (.inl ⟨rfl, rfl, rfl⟩) (by simpa [toV, Ty.agg] using hv') hset hb
          · cases hb
        · cases hb
      · cases hb

/-- the places of a struct's fields -/
def plc : Ty → Nat → List (Nat × Nat)
  | .pair a b, off => (off, a.size) :: plc b (off + a.size)
  | _, _ => []

theorem plc_get : ∀ {t : Ty} {x : t.den} {n : Nat} {u : Ty} {z : u.den} {off : Nat}, getP t x [.fld n] = some ⟨u, z⟩ → (plc t off)[n]? = some (off + offF t n, u.size) := by
  intro t
  induction t with
  | pair a c _ ihc =>
    intro x n u z off h
    match n, h with
    | 0, h =>
      have h : some (⟨a, x.1⟩ : Sigma Ty.den) = some ⟨u, z⟩ := by rw [← h]; simp only [getP]
      cases h
      simp [plc, offF]
    | n + 1, h =>
      have := ihc (x := x.2) (off := off + a.size) h
      simp only [plc, offF, List.getElem?_cons_succ, this]
      simp [Nat.add_assoc]
  | slc o t _ => intro x n u z off h; cases o <;> simp [getP] at h
  | _ => intro x n u z off h; simp [getP] at h

theorem run_plc {P : Program} {k : Nat} : ∀ {fs : List Field} {off : Nat} {t : Ty}, fieldsOk (tyOk P k) fs off t = true → (fs.mapM fun f => Prod.mk f.offset <$> sizeOf f.type).run P w = .ok (plc t off) w
  | [], off, t, h => by
    cases t <;> simp [fieldsOk] at h
    rfl
  | f :: fs, off, t, h => by
    cases t <;> simp only [fieldsOk] at h <;> first | cases h | skip
    simp only [Bool.and_eq_true] at h
    obtain ⟨⟨⟨⟨h1, _⟩, h3⟩, _⟩, h4⟩ := h
    have ih := run_plc h4
    simp [List.mapM_cons, run_sizeOf h3, ih, plc, Nat.eq_of_beq_eq_true h1]

theorem plc_sh : ∀ {t u : Ty} {off : Nat}, u.sh = t.sh → plc u off = plc t off := by
  intro t
  induction t with
  | pair a c _ ihc =>
    intro u off h
    cases u <;> simp only [Ty.sh] at h <;> try cases h
    simp only [Ty.pair.injEq] at h
    simp only [plc, size_er h.1, ihc h.2]
  | _ =>
    intro u off h
    cases u <;> simp only [Ty.sh] at h <;> try cases h
    all_goals rfl

theorem tyOk_struct {P : Program} {k : Nat} {T : TypeId} {t : Ty} (h : tyOk P k T t = true) (ht : t.agg = true) (hn : ∀ n u, t ≠ .arr n u) : ∃ fs k', P.underlying T = some (.struct fs) ∧ fieldsOk (tyOk P k') fs.toList 0 t = true := by
  cases k with
  | zero => simp [tyOk] at h
  | succ k =>
    obtain ⟨d, h1, h2⟩ := tyOk_agg h
    simp only [tyOk, Bool.and_eq_true, h1] at h
    obtain ⟨_, h⟩ := h
    cases t with
    | pair a c => cases d <;> first | (exact (Bool.false_ne_true h).elim) | (exact ⟨_, k, h1, h⟩)
    | unit => cases d <;> first | (exact (Bool.false_ne_true h).elim) | (exact ⟨_, k, h1, h⟩)
    | arr n u => exact absurd rfl (hn n u)
    | _ => cases ht

theorem build_sound (hE : EnvOk E) (h : RS B S ι s a w) {o : Oper} {T : TypeId} {parts : Array (Nat × Operand)} (ho : o.op = .build T parts) : ORok E.P B o a w (aop E o s) := by
  have he : execOp a.eval o = (do pure (.value (← Instr.build T (parts.map fun q => (q.1, a.eval q.2))))) := by simp [execOp, ho]
  unfold aop
  rw [ho]
  simp only
  split
  · rename_i ti hT
    split
    · rename_i hall
      simp only [Bool.and_eq_true] at hall
      split
      · rename_i u y hb
        have hty := tt_ok hE hT
        have hz := run_zero (w := w) hty
        have hR0 : Rep w.heap S ti.ty [] (zc ti.ty) ti.ty.dflt := Rep.dflt _
        have hzc : (toV ti.ty (zc ti.ty)).cells = (zc ti.ty).toArray := hR0.cells
        have hpm : (parts.map fun q => (q.1, a.eval q.2)).toList = parts.toList.map fun q => (q.1, a.eval q.2) := by simp
        by_cases harr : ∃ n t, ti.ty = .arr n t
        · obtain ⟨n, t, e0⟩ := harr
          rw [e0] at hty hb hR0 hall hz hzc
          obtain ⟨et, k', h1, h2, h3⟩ := tyOk_arr hty
          obtain ⟨cs', q1, q2, q3⟩ := fill_sound h (place := fun i => some (i * t.size, t.size)) hR0 hall.2 (by
            intro t' x' i u' y' e1 e2 e3
            cases t' <;> simp only [Ty.sh] at e1 <;> first | cases e1 | skip
            rename_i n' t''
            simp only [Ty.arr.injEq] at e1
            have : t'' = u' := by
              simp only [partPath, getP, Option.some.injEq] at e2
              exact congrArg Sigma.fst e2
            subst this
            simp only [offP, size_er e1.2]) hb
          refine exec_val he h (val := toV u cs') ?_ ⟨cs', rfl, q2⟩
          have hag : u.agg = true := by rw [agg_er q3]; rfl
          simp only [Instr.build, Sem.run_bind, hz, Result.andThen, run_under h1, hzc, hpm, run_sizeOf h3, q1]
          simp [toV, hag]
        · have hn : ∀ n u, ti.ty ≠ .arr n u := fun n u e => harr ⟨n, u, e⟩
          obtain ⟨fs, k', h1, h2⟩ := tyOk_struct hty hall.1 hn
          have hpl := run_plc (w := w) h2
          obtain ⟨cs', q1, q2, q3⟩ := fill_sound h (place := fun i => (plc ti.ty 0)[i]?) hR0 hall.2 (by
            intro t' x' i u' y' e1 e2 e3
            have hn' : ∀ n u, t' ≠ .arr n u := by
              rintro n u rfl
              cases ht : ti.ty <;> rw [ht] at e1 <;> simp only [Ty.sh] at e1 <;> first | cases e1 | skip
              exact harr ⟨_, _, ht⟩
            have e2' : getP t' x' [.fld i] = some ⟨u', y'⟩ := by
              cases t' <;> first | exact e2 | (exact absurd rfl (hn' _ _))
            have := plc_get (off := 0) e2'
            rw [plc_sh e1] at this
            have e4 : offP t' i = offF t' i := by cases t' <;> first | rfl | (exact absurd rfl (hn' _ _))
            rw [e4]
            simpa using this) hb
          refine exec_val he h (val := toV u cs') ?_ ⟨cs', rfl, q2⟩
          have hag : u.agg = true := by rw [agg_er q3]; exact hall.1
          simp only [Instr.build, Sem.run_bind, hz, Result.andThen, run_under h1, hzc, hpm]
          simp [Array.mapM_eq_mapM_toList, hpl, q1, toV, hag]
      · trivial
    · trivial
  · trivial

end
end Go.Ex
