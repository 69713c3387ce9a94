import Derived.Test.YtibpibbnnogdkaaExV
import Derived.Tactics
namespace Go.Ex

section
variable {E : Env} {B : Base} {S S' : Nat → Prop} {ι : Ix} {s : St} {a : Act} {w : World} {hp : List (Nat × Ent)} {H H' : Array Go.Obj}

theorem nth_rep : ∀ {n : Nat} {l v : AV} {us : List Value}, aop.nth n l = some v → VX H S ι hp l us → ∃ u, us[n]? = some u ∧ VX H S ι hp v [u]
  | 0, l, v, us, h, hl => by
    cases l <;> simp only [aop.nth] at h <;> first | cases h | skip
    obtain ⟨u, us', rfl, ha, hb⟩ := hl
    exact ⟨u, rfl, ha⟩
  | n + 1, l, v, us, h, hl => by
    cases l <;> simp only [aop.nth] at h <;> first | cases h | skip
    obtain ⟨u, us', rfl, ha, hb⟩ := hl
    obtain ⟨u2, e, h2⟩ := nth_rep h hb
    exact ⟨u2, by simpa using e, h2⟩

theorem maxmin_sound (h : RS B S ι s a w) {o : Oper} {c : Call} (ho : o.op = .call c) {P : Program} {x : Operand} {l : List Operand} (ha : c.args.toList = x :: l) {k : IntKind} {m : Int} (hx : s.ev x = .val (.int k) m) :
    (c.callee = .builtin .max → ORok P B o a w (foldI s k (fun a b => if a < b then b else a) m l)) ∧ (c.callee = .builtin .min → ORok P B o a w (foldI s k (fun a b => if b < a then b else a) m l)) := by
  obtain ⟨hxv, bx⟩ := VX.int_inv (evx h hx)
  have hargs : c.args.map a.eval = (a.eval x :: l.map a.eval).toArray := by
    apply Array.ext'
    simp [ha]
  constructor
  · intro hc
    cases hl : foldI s k (fun a b => if a < b then b else a) m l with
    | fail y => trivial
    | okN p v s' => exact absurd hl foldI_okN
    | ok v s' =>
      obtain ⟨n, rfl, rfl, hn, hrun⟩ := fold_sound (P := P) (w := w) h (m2 := Builtin.max2) (by intro x y hx hy; split <;> assumption) (by intro x y; simp [Builtin.max2]) bx hl
      refine OpOk.value (val := .int k n) ?_ h (VX.int hn)
      simp [execOp, ho, resolve, hc, invoke, builtin, hargs, hxv, Builtin.max_, hrun]
  · intro hc
    cases hl : foldI s k (fun a b => if b < a then b else a) m l with
    | fail y => trivial
    | okN p v s' => exact absurd hl foldI_okN
    | ok v s' =>
      obtain ⟨n, rfl, rfl, hn, hrun⟩ := fold_sound (P := P) (w := w) h (m2 := Builtin.min2) (by intro x y hx hy; split <;> assumption) (by intro x y; simp [Builtin.min2]) bx hl
      refine OpOk.value (val := .int k n) ?_ h (VX.int hn)
      simp [execOp, ho, resolve, hc, invoke, builtin, hargs, hxv, Builtin.min_, hrun]

theorem call_sound (hE : EnvOk E) (h : RS B S ι s a w) {o : Oper} {c : Call} (ho : o.op = .call c) : ORok E.P B o a w (aop E o s) := by
  unfold aop
  rw [ho]
  simp only
  split
  · rename_i f hf
    split
    · rename_i g caps hg
      exact callA_sound hE h ho hf hg
    · trivial
  · rename_i hf
    split
    · rename_i x T ha hT
      split
      · rename_i q u y hx
        split
        · rename_i hk
          obtain ⟨cs, e, hR⟩ := evx h hx
          obtain ⟨b, cap, hv, hl⟩ := slc_val hR
          have e : a.eval x = toV (.slc q u) cs := by simpa using e
          exact len_sound hE h ho hf ha hT hk (.inl ⟨q, u, b, 0, cap, rfl, by rw [e, hv], rfl⟩) hl
        · trivial
      · rename_i y hx
        split
        · rename_i hk
          obtain ⟨hv, hl⟩ := VX.str_inv (evx h hx)
          exact len_sound hE h ho hf ha hT hk (.inr (.inl ⟨y, rfl, hv, rfl⟩)) (by unfold maxLen at hl; omega)
        · trivial
      · rename_i n u y hx
        split
        · rename_i hk
          split
          · rename_i hn
            exact len_sound hE h ho hf ha hT hk (.inr (.inr ⟨u, rfl⟩)) hn
          · trivial
        · trivial
      · rename_i d p hx
        split
        · rename_i q u z hpt
          split
          · rename_i hk
            obtain ⟨e, u', y, cs, k1, k2, k3, k4, k5⟩ := evx h hx
            have hg := part_of k1 hpt
            rw [k3] at hg; cases hg
            obtain ⟨O2, m1, m2, m3⟩ := sub_rep h.hs k1 k2 k3 k4
            obtain ⟨b, cap, hv, hl⟩ := slc_val m3
            have k5 : a.eval x = toV (.slc q u) cs := by simpa using k5
            exact len_sound hE h ho hf ha hT hk (.inl ⟨q, u, b, 0, cap, rfl, by rw [k5, hv], rfl⟩) hl
          · trivial
        · trivial
      · rename_i d p lo hi hx
        split
        · rename_i u y hw
          split
          · rename_i hk
            obtain ⟨A, c, e, _, hl, h0, h1, _⟩ := sub_els h.hs (evx h hx) hw
            have hm := els_len h.hs (evx h hx) (l := y) hw
            have := len_sound hE h ho hf ha hT hk (n := y.length) (.inl ⟨true, u, A, 0, c, rfl, e, rfl⟩) (by unfold maxLen at hm; omega)
            rw [hl] at this
            exact this
          · trivial
        · trivial
      · rename_i hx
        split
        · rename_i q u bts hT'
          have hx' : [a.eval x] = [Value.slice none 0 0] := evx h hx
          have hx' : a.eval x = Value.slice none 0 0 := by simpa using hx'
          have hargs : c.args = #[x] := by rw [← ha]
          have hts : c.argTypes = #[T] := by rw [← hT]
          refine OpOk.value (val := .int .i64 0) ?_ h (VX.int (by unfold inK; simp [IntKind.min, IntKind.max, IntKind.signed, IntKind.bits]))
          have := len_run (w := w) (ty := o.type) (n := 0) (tt_ok hE hT') (.inl ⟨q, u, none, 0, 0, rfl, hx', rfl⟩)
          simp [execOp, ho, resolve, hf, invoke, builtin, hargs, hts, this]
        · trivial
      · trivial
    · trivial
  · rename_i hf
    split
    · rename_i x y T U ha hT
      split
      · rename_i q u bts hU
        obtain ⟨et, k', f1, _⟩ := tyOk_slc (tt_ok hE hU)
        exact append_sound hE h ho hf ha hT (.inl ⟨et, f1⟩)
      · rename_i bts hU
        exact append_sound hE h ho hf ha hT (.inr (tyOk_str (tt_ok hE hU)))
      · trivial
    · trivial
  · rename_i hf
    split
    · rename_i x l ha
      split
      · rename_i k m hx
        exact (maxmin_sound h ho ha hx).1 hf
      · trivial
    · trivial
  · rename_i hf
    split
    · rename_i x l ha
      split
      · rename_i k m hx
        exact (maxmin_sound h ho ha hx).2 hf
      · trivial
    · trivial
  · trivial

theorem aop_sound (hE : EnvOk E) (h : RS B S ι s a w) (o : Oper) (hpick : ∀ c x y, o.op ≠ .pick c x y) : ORok E.P B o a w (aop E o s) := by
  cases ho : o.op with
  | move x => unfold aop; rw [ho]; exact OpOk.value (by simp [execOp, ho]) h (h.ev x)
  | assign x => unfold aop; rw [ho]; exact OpOk.value (by simp [execOp, ho]) h (h.ev x)
  | alloc T => exact alloc_sound hE h ho
  | box T x => exact box_sound hE h ho
  | makeSlice T x y => exact makeSlice_sound hE h ho
  | slice T x lo hi mx =>
    have : aop E o s = sliceA E T (s.ev x) lo hi mx s := by unfold aop; rw [ho]
    rw [this]; exact sliceA_sound hE h ho
  | build T parts => exact build_sound hE h ho
  | buildSlice T n parts => exact buildSlice_sound hE h ho
  | load T x =>
    have : aop E o s = loadA E T (s.ev x) s := by unfold aop; rw [ho]
    rw [this]
    cases hl : loadA E T (s.ev x) s with
    | fail why => trivial
    | ok v s' => exact loadA_sound hE h ho hl
    | okN p v s' =>
      exfalso
      unfold loadA at hl
      repeat' split at hl
      all_goals cases hl
  | store T x y =>
    unfold aop; rw [ho]
    simp only
    split
    · rename_i i p hx; exact storeA_sound hE h ho hx
    · trivial
  | nilCheck x =>
    unfold aop; rw [ho]
    simp only
    split
    · rename_i i p hx
      have hv := evx h hx
      obtain ⟨e, b, off, h1, h2, h3, h4⟩ := hv
      have h4 : a.eval x = .pointer (some ⟨b, off, none⟩) := by simpa using h4
      exact OpOk.value (val := .pointer (some ⟨b, off, none⟩)) (by simp only [execOp, ho, h4]; rfl) h ⟨e, b, off, h1, h2, h3, rfl⟩
    · rename_i t y hx
      obtain ⟨b, off, e, h1, h2, h3⟩ := evx h hx
      have e : a.eval x = .pointer (some ⟨b, off, none⟩) := by simpa using e
      exact OpOk.value (val := .pointer (some ⟨b, off, none⟩)) (by simp only [execOp, ho, e]; rfl) h ⟨b, off, rfl, h1, h2, h3⟩
    · rename_i f l hx
      obtain ⟨us, e, h1⟩ := evx h hx
      have e : a.eval x = .func (.func f) #[] us.toArray := by simpa using e
      exact OpOk.value (val := .func (.func f) #[] us.toArray) (by simp only [execOp, ho, e]; rfl) h ⟨us, rfl, h1⟩
    · trivial
  | binOp op T x y T' =>
    have : aop E o s = binE E T op (s.ev x) (s.ev y) s := by unfold aop; rw [ho]
    rw [this]; exact binE_sound hE h ho
  | unOp op T x =>
    have : aop E o s = unA op (s.ev x) s := by unfold aop; rw [ho]
    rw [this]; exact unOp_sound h ho
  | convert T' T x => exact convert_sound hE h ho
  | fieldAddr T x n => exact fieldAddr_sound hE h ho
  | indexAddr T x y => exact indexAddr_sound hE h ho
  | field T x n => exact field_sound hE h ho
  | index T x y => exact index_sound hE h ho
  | extract x n =>
    unfold aop; rw [ho]
    simp only
    split
    · rename_i l hx
      split
      · rename_i v hn
        obtain ⟨us, e, hl⟩ := evx h hx
        have e : a.eval x = .tuple us.toArray := by simpa using e
        obtain ⟨u, h1, h2⟩ := nth_rep hn hl
        have he : execOp a.eval o = (do pure (.value (← Instr.extract (a.eval x) n))) := by simp [execOp, ho]
        refine exec_val he h (val := u) ?_ h2
        rw [e]; simp [Instr.extract, h1]
      · trivial
    · trivial
  | makeFunc fn first caps =>
    unfold aop
    rw [ho]
    cases fn with
    | func f =>
      simp only
      split
      · rename_i hf
        have hf : first = #[] := by simpa using hf
        have := h.evs caps.toList
        refine OpOk.value (val := .func (.func f) #[] (caps.toList.map a.eval).toArray) ?_ h ⟨_, rfl, this⟩
        simp [execOp, ho, Instr.makeFunc, hf, ← Array.toList_map]
      · trivial
    | _ => trivial
  | call c => exact call_sound hE h ho
  | pick c x y => exact absurd ho (hpick c x y)
  | _ => unfold aop; rw [ho]; trivial

/-! ### regions -/
/-- what the abstract step says of an operation that is wanted -/
theorem runOp_sound (hE : EnvOk E) (hn : B.n = E.nt) (h : RS B S ι s a w) (o : Oper) {k : St → Tree (E.rs ++ wts E.ps)} {L : Code → List Item → St → Prop} {Rt : DL (E.rs ++ wts E.ps) → Prop} (ht : (runOp E o s k).holds L Rt) {next : Act → World → Prop} {Q : Exit → Act → World → Prop}
    (hk : ∀ S' ι' s' a' w', RS B S' ι' s' a' w' → (k s').holds L Rt → next a' w') : o.wp E.P a w next Q := by
  unfold runOp at ht
  split at ht
  · exact ht.elim
  · rename_i hd
    rw [← hn] at hd
    split at ht
    · rename_i c x y ho
      split at ht
      · rename_i g hg
        have hgv := VX.bool_inv (evx h hg)
        have hrun : (execOp a.eval o).run E.P w = .ok (.value (if g then a.eval x else a.eval y)) w := by
          simp only [execOp, ho, hgv, asBool]
          cases g <;> simp
        unfold Oper.wp
        rw [hrun]
        cases g with
        | true => exact hk S ι _ _ _ (h.put hd (h.ev x)) ht
        | false => exact hk S ι _ _ _ (h.put hd (h.ev y)) ht
      · exact ht.elim
    · rename_i hnp
      have hs := aop_sound hE h o (fun c x y e => hnp c x y e)
      split at ht
      · exact ht.elim
      · rename_i v s' e
        rw [e] at hs
        exact hs next Q (fun S' ι' w' val h1 h2 => hk S' ι' _ _ _ (h1.put hd h2) ht)
      · rename_i p v s' e
        rw [e] at hs
        exact hs ht.1 next Q (fun S' ι' w' val h1 h2 => hk S' ι' _ _ _ (h1.put hd h2) (ht.2 ht.1))

theorem wanted_of {ops : Array Oper} {o : Oper} {j : Nat} {want : Bool} (hg : o.guard = some (j, want)) {g : Nat} (hs : guardSlot ops j = some g) {tmps : Array Value} :
    Region.wanted o (yielded ops tmps) = ((match tmps[g]? with | some (.bool b) => some b | _ => none) == some want) := by
  have : ((ops[j]?).bind (·.dst)).bind (tmps[·]?) = tmps[g]? := by
    have : (ops[j]?).bind (·.dst) = some g := hs
    rw [this]; rfl
  simp only [Region.wanted, hg, yielded, this]
  rfl

theorem getD_some {l : Array Value} {g : Nat} {v : Value} (h : l.getD g undef = v) (hv : v ≠ undef) : l[g]? = some v := by
  simp only [Array.getD_eq_getD_getElem?] at h
  cases hl : l[g]? with
  | none => rw [hl] at h; exact absurd h.symm hv
  | some x => rw [hl] at h; simp at h; rw [h]

/-- one place of a region: an operation, wanted or not -/
theorem place_sound (hE : EnvOk E) (hn : B.n = E.nt) (h : RS B S ι s a w) {ops : Array Oper} (o : Oper) {k : St → Tree (E.rs ++ wts E.ps)} {L : Code → List Item → St → Prop} {Rt : DL (E.rs ++ wts E.ps) → Prop} (ht : (placeA E ops o s k).holds L Rt) {next : Act → World → Prop} {Q : Exit → Act → World → Prop}
    (hk : ∀ S' ι' s' a' w', RS B S' ι' s' a' w' → (k s').holds L Rt → next a' w') :
    if Region.wanted o (yielded ops a.tmps) then o.wp E.P a w next Q else next (a.put o.dst undef) w := by
  unfold placeA at ht
  split at ht
  · rename_i hg
    simp only [Region.wanted, hg, if_true]
    exact runOp_sound hE hn h o ht hk
  · rename_i j want hg
    split at ht
    · exact ht.elim
    · rename_i g hs
      rw [wanted_of hg hs]
      have hv := h.get g
      split at ht
      · rename_i vs hgv
        rw [hgv] at hv
        have hv : [a.tmps.getD g undef] = [Value.tuple vs] := hv
        have hv : a.tmps.getD g undef = .tuple vs := by simpa using hv
        have hno : ((match a.tmps[g]? with | some (.bool b) => some b | _ => none) == some want) = false := by
          simp only [Array.getD_eq_getD_getElem?] at hv
          cases hl : a.tmps[g]? with
          | none => rfl
          | some x => rw [hl] at hv; simp at hv; rw [hv]; rfl
        rw [hno]
        split at ht
        · rename_i hd
          rw [← hn] at hd
          exact hk S ι _ _ _ (h.put hd (v := .raw undef) (val := undef) (by rfl)) ht
        · exact ht.elim
      · rename_i b hgv
        rw [hgv] at hv
        have hb := VX.bool_inv hv
        have hsome := getD_some hb (by simp [undef])
        rw [hsome]
        split at ht
        · exact ht.elim
        · rename_i hd
          rw [← hn] at hd
          -- the guard's slot, known
          have hgs : ∀ c, b = c → RS B S ι (s.put (some g) (.val .bool c)) a w := by
            rintro c rfl
            have hlt : g < a.tmps.size := by
              rcases Nat.lt_or_ge g a.tmps.size with h1 | h1
              · exact h1
              · rw [Array.getElem?_eq_none h1] at hsome; cases hsome
            have := h.put (d := some g) (v := .val .bool b) (val := .bool b) (by simp [dstOk, Nat.blt_eq, ← h.sz, hlt]) VX.bool
            have e : a.put (some g) (.bool b) = a := by
              simp only [Act.put]
              have : a.tmps.setIfInBounds g (.bool b) = a.tmps := by
                apply Array.ext_getElem?
                intro i
                rw [Array.getElem?_setIfInBounds]
                split
                · rename_i e; subst e; exact hsome.symm
                · rfl
              rw [this]
            rw [e] at this
            exact this
          cases b with
          | true =>
            cases want with
            | true => exact runOp_sound hE hn (hgs true rfl) o ht hk
            | false => exact hk S ι _ _ _ ((hgs true rfl).put hd (v := .raw undef) (val := undef) (by rfl)) ht
          | false =>
            cases want with
            | false => exact runOp_sound hE hn (hgs false rfl) o ht hk
            | true => exact hk S ι _ _ _ ((hgs false rfl).put hd (v := .raw undef) (val := undef) (by rfl)) ht
      · exact ht.elim

theorem regA_sound (hE : EnvOk E) (hn : B.n = E.nt) {ops : Array Oper} {k : St → Tree (E.rs ++ wts E.ps)} {L : Code → List Item → St → Prop} {Rt : DL (E.rs ++ wts E.ps) → Prop} {Q : Exit → Act → World → Prop} (hk : ∀ S' ι' s' a' w', RS B S' ι' s' a' w' → (k s').holds L Rt → Q .normal a' w') :
    ∀ {l : List Oper} {S : Nat → Prop} {ι : Ix} {s : St} {a : Act} {w : World}, RS B S ι s a w → (regA E ops l s k).holds L Rt → wpList E.P ops Q l a w
  | [], S, ι, s, a, w, h, ht => hk S ι s a w h ht
  | o :: l, S, ι, s, a, w, h, ht => by
    have := place_sound hE hn h (ops := ops) o (k := fun s' => regA E ops l s' k) ht (next := wpList E.P ops Q l) (Q := Q) (fun S' ι' s' a' w' h1 h2 => regA_sound hE hn hk h1 h2)
    unfold wpList
    split
    · rename_i hw; rw [if_pos hw] at this; exact .inl this
    · rename_i hw; rw [if_neg hw] at this; exact this

theorem run_equalIn_nil {P : Program} {T et : TypeId} (h1 : P.underlying T = some (.slice et)) (d : Nat) (A : Option Addr) (n c : Nat) : (Op.equalIn (d + 1) T (.slice A n c) (.slice none 0 0)).run P w = .ok A.isNone w := by
  cases A <;> simp [Op.equalIn, run_under h1]

/-- a slice against nil -/
theorem brA_sound (hE : EnvOk E) (h : RS B S ι s a w) {o : Oper} {p : Prop} {v1 v2 : AV} (hb : brA E s o = some (p, v1, v2)) :
    ∃ val, (execOp a.eval o).run E.P w = .ok (.value val) w ∧ ((p ∧ VX w.heap S ι s.hp v1 [val]) ∨ VX w.heap S ι s.hp v2 [val]) := by
  unfold brA at hb
  split at hb
  · rename_i op T x y T' ho
    have key : ∀ (b : Bool), (op = .eql ∧ b = true ∨ op = .neq ∧ b = false) → (match s.ev y, look T E.tt with
      | .raw (.slice none 0 0), some ⟨.slc _ _, _⟩ => (match (s.ev x).els s with
        | some r => some (r.2 = [], AV.val .bool b, AV.val .bool (!b))
        | none => none)
      | _, _ => none) = some (p, v1, v2) → ∃ val, (execOp a.eval o).run E.P w = .ok (.value val) w ∧ ((p ∧ VX w.heap S ι s.hp v1 [val]) ∨ VX w.heap S ι s.hp v2 [val]) := by
      intro b hop hb
      split at hb
      · rename_i q u bts hy hT
        split at hb
        · rename_i r hr
          obtain ⟨t0, l0⟩ := r
          cases hb
          have hy' : [a.eval y] = [Value.slice none 0 0] := evx h hy
          have hy' : a.eval y = .slice none 0 0 := by simpa using hy'
          obtain ⟨A, c, e, hA⟩ := els_rep h.hs (h.ev x) hr
          obtain ⟨et, k2, h1, _, _⟩ := tyOk_slc (tyOk_sh (t := .slc q u) (u := .slc true u) rfl (tt_ok hE hT))
          have hg : (eqGuard op T x y (a.eval x) (a.eval y)).run E.P w = .ok () w := by rw [e, hy']; cases op <;> rfl
          have heq : (Op.equal T (.slice A (List.length l0) c) (.slice none 0 0)).run E.P w = .ok A.isNone w := run_equalIn_nil h1 9999 A _ c
          have hnone : A = none → l0 = [] := by
            rintro rfl
            rcases hA with h2 | ⟨b2, off2, O2, h2, _⟩
            · exact h2
            · cases h2
          have hfin : ∀ n : Bool, (n = A.isNone ∧ op = .eql ∧ b = true ∨ n = (!A.isNone) ∧ op = .neq ∧ b = false) → (l0 = [] ∧ VX w.heap S ι s.hp (.val .bool b) [.bool n]) ∨ VX w.heap S ι s.hp (.val .bool (!b)) [.bool n] := by
            intro n hn
            cases A with
            | none => rcases hn with ⟨rfl, _, rfl⟩ | ⟨rfl, _, rfl⟩ <;> exact .inl ⟨hnone rfl, VX.bool⟩
            | some A => rcases hn with ⟨rfl, _, rfl⟩ | ⟨rfl, _, rfl⟩ <;> exact .inr VX.bool
          rcases hop with ⟨rfl, rfl⟩ | ⟨rfl, rfl⟩
          · exact ⟨.bool A.isNone, by rw [run_binop ho hg (r := .ok (.bool A.isNone) w)]; rfl; rw [e, hy']; simp [binOp, heq], hfin _ (.inl ⟨rfl, rfl, rfl⟩)⟩
          · exact ⟨.bool (!A.isNone), by rw [run_binop ho hg (r := .ok (.bool (!A.isNone)) w)]; rfl; rw [e, hy']; simp [binOp, heq], hfin _ (.inr ⟨rfl, rfl, rfl⟩)⟩
        · cases hb
      · cases hb
    split at hb
    · exact key true (.inl ⟨rfl, rfl⟩) hb
    · exact key false (.inr ⟨rfl, rfl⟩) hb
    · cases hb
  · cases hb

end
end Go.Ex
