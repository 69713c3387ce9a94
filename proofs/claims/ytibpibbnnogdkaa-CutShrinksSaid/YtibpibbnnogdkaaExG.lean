import Derived.Test.YtibpibbnnogdkaaExF
import Derived.Laws.IdiomCopy
import Derived.Laws.Strings
namespace Go.Ex

/-! ### contracts: what they say -/
section
variable (H : Array Go.Obj) (S : Nat → Prop)
/-- a pointer to memory that may be read, of known content -/
def RdRep (t : Ty) (v : Value) (x : t.den) : Prop :=
  ∃ b off, v = .pointer (some ⟨b, off, none⟩) ∧ S b ∧ off + t.size ≤ (blk H b).length ∧ Rep H S t [] (cellsAt H b off t.size) x

def RdL : (ts : List Ty) → List Value → DL ts → Prop
  | [], vs, _ => vs = []
  | t :: ts, vs, x => ∃ v us, vs = v :: us ∧ RdRep H S t v x.1 ∧ RdL ts us x.2

def KRep : (k : PK) → Value → k.den → List Nat → Prop
  | .v t, v, x, L => L = [] ∧ ∃ cs, v = toV t cs ∧ Rep H S t [] cs x
  | .rd t, v, x, L => L = [] ∧ RdRep H S t v x
  | .clo f ts, v, x, L => L = [] ∧ ∃ us, v = .func (.func f) #[] us.toArray ∧ RdL H S ts us x
  | .own t, v, x, L => ∃ cs, v = toV t cs ∧ Rep H S t L cs x
  | .rw t, v, x, L => ∃ b off O, v = .pointer (some ⟨b, off, none⟩) ∧ Rep H S t O (cellsAt H b off t.size) x ∧ Free H b (off + t.size) ∧ L = b :: O
  | .mu t, v, x, L => ∃ cs, v = toV (.slc true t) cs ∧ Rep H S (.slc true t) L cs x

def KsRep : (ks : List PK) → List Value → DK ks → List Nat → Prop
  | [], vs, _, L => vs = [] ∧ L = []
  | k :: ks, vs, x, L => ∃ v us L1 L2, vs = v :: us ∧ L = L1 ++ L2 ∧ KRep H S k v x.1 L1 ∧ KsRep ks us x.2 L2

def ResRep : (ts : List Ty) → List Nat → List Value → DL ts → Prop
  | [], O, vs, _ => O = [] ∧ vs = []
  | t :: ts, O, vs, x => ∃ v us O1 O2 cs, vs = v :: us ∧ O = O1 ++ O2 ∧ v = toV t cs ∧ Rep H S t O1 cs x.1 ∧ ResRep ts O2 us x.2

/-- what was written through parameters -/
def OutRep : (ks : List PK) → List Value → DL (wts ks) → List Nat → Prop
  | [], vs, _, L => vs = [] ∧ L = []
  | .rw t :: ks, vs, y, L => ∃ b off O us L', vs = .pointer (some ⟨b, off, none⟩) :: us ∧ Rep H S t O (cellsAt H b off t.size) y.1 ∧ Free H b (off + t.size) ∧ L = (b :: O) ++ L' ∧ OutRep ks us y.2 L'
  | .mu t :: ks, vs, y, L => ∃ cs O us L', vs = toV (.slc true t) cs :: us ∧ cs.length = 1 ∧ Rep H S (.slc true t) O cs y.1 ∧ L = O ++ L' ∧ OutRep ks us y.2 L'
  | .v _ :: ks, vs, y, L => ∃ v us, vs = v :: us ∧ OutRep ks us y L
  | .rd _ :: ks, vs, y, L => ∃ v us, vs = v :: us ∧ OutRep ks us y L
  | .clo _ _ :: ks, vs, y, L => ∃ v us, vs = v :: us ∧ OutRep ks us y L
  | .own _ :: ks, vs, y, L => ∃ v us, vs = v :: us ∧ OutRep ks us y L
end

def retV : List Value → Value
  | [v] => v
  | us => .tuple us.toArray

/-- a world that has turned in the blocks of L alone, and grown -/
structure Past (L : List Nat) (w w' : World) : Prop where
  os : w'.os = w.os
  tape : w'.tape = w.tape
  out : w'.output = w.output
  size : w.heap.size ≤ w'.heap.size
  frame : ∀ c, c < w.heap.size → c ∉ L → w'.heap[c]? = w.heap[c]?

/-- what a call leaves: its results, in new memory where they are not shared; what it was to write, written; what was there is as it was -/
def ResOk (w : World) (S : Nat → Prop) (rs : List Ty) (ps : List PK) (vs : List Value) (L : List Nat) (y : DL rs) (z : DL (wts ps)) (e : Ending) (w' : World) : Prop :=
  ∃ us O Lo S', e = .returned (retV us) ∧ Past L w w' ∧ (∀ b, S b → S' b) ∧ (∀ b, S' b → S b ∨ (w.heap.size ≤ b ∧ b < w'.heap.size)) ∧
    ResRep w'.heap S' rs O us y ∧ OutRep w'.heap S' ps vs z Lo ∧ (O ++ Lo).Nodup ∧ ∀ b ∈ O ++ Lo, ¬ S' b ∧ (w.heap.size ≤ b ∨ b ∈ L) ∧ b < w'.heap.size

structure Ctr.Valid (P : Program) (f : FuncId) (c : Ctr) : Prop where
  ent : ∃ fn, P.funcs[f]? = some fn ∧ (fn.name == "runtime.NumGoroutine") = false ∧ fn.body.isNone = false
  run : ∀ (w : World) (S : Nat → Prop) (vs : List Value) (x : DK c.ps) (L : List Nat), (∀ b, S b → b < w.heap.size) → c.pre x → KsRep w.heap S c.ps vs x L → L.Nodup → (∀ b ∈ L, ¬ S b ∧ b < w.heap.size) →
    Calls P f vs.toArray w (ResOk w S c.rs c.ps vs L (c.fn x) (c.out x))

structure EnvOk (E : Env) : Prop where
  tt : ∀ T i, look T E.tt = some i → tiOk E.P (T, i) = true
  ctr : ∀ f c, look f E.ctr = some c → c.Valid E.P f

/-! ### the state, step by step -/
section
variable {E : Env} {B : Base} {S : Nat → Prop} {ι : Ix} {s : St} {a : Act} {w : World}

theorem RS.get (h : RS B S ι s a w) (t : Nat) : VX w.heap S ι s.hp (s.get t) [a.tmps.getD t undef] := by
  unfold St.get
  cases hl : look t s.fr with
  | none => exact ⟨_, rfl⟩
  | some v => exact h.fr t v hl

theorem VX.const (v : Value) {H : Array Go.Obj} {hp : List (Nat × Ent)} : VX H S ι hp (ofConst v) [v] := by
  unfold ofConst
  split
  · rename_i k n
    split
    · rename_i h; exact ⟨[.int k n], rfl, rfl, rfl, h⟩
    · rfl
  · rename_i b; exact ⟨[.bool b], rfl, rfl, rfl⟩
  · rename_i s
    split
    · rename_i h
      refine ⟨[.string s], rfl, rfl, ?_, by simpa using h⟩
      simp
    · rfl
  · rfl

theorem RS.ev (h : RS B S ι s a w) (x : Operand) : VX w.heap S ι s.hp (s.ev x) [a.eval x] := by
  cases x with
  | tmp t => exact h.get t
  | const v => exact VX.const v
  | global g => exact ⟨_, rfl⟩
  | func f => exact ⟨[], by simp [Act.eval], rfl⟩

theorem RS.evs (h : RS B S ι s a w) : ∀ l : List Operand, VX w.heap S ι s.hp (s.evs l) (l.map a.eval)
  | [] => rfl
  | x :: l => ⟨_, _, rfl, h.ev x, h.evs l⟩

theorem RS.put (h : RS B S ι s a w) {d : Option Nat} (hd : dstOk B.n d = true) {v : AV} {val : Value} (hv : VX w.heap S ι s.hp v [val]) : RS B S ι (s.put d v) (a.put d val) w := by
  cases d with
  | none => exact h
  | some d =>
    have hlt : d < B.n := by simpa [dstOk, Nat.blt_eq] using hd
    refine ⟨h.hs, h.dfr, by simpa [Act.put] using h.sz, ?_⟩
    intro t v' ht
    simp only [St.put, look_put] at ht
    simp only [Act.put]
    by_cases e : t = d
    · subst e
      rw [if_pos rfl] at ht; cases ht
      have : t < a.tmps.size := by rw [h.sz]; exact hlt
      show VX w.heap S ι s.hp v [_]
      simpa [Array.getD, this, Array.getElem?_setIfInBounds] using hv
    · rw [if_neg e] at ht
      have := h.fr t v' ht
      show VX w.heap S ι s.hp v' [_]
      simpa [Array.getD_eq_getD_getElem?, Array.getElem?_setIfInBounds_ne (Ne.symm e)] using this

/-- one operation: whatever it yields is what the abstract value says -/
def OpOk (P : Program) (B : Base) (o : Oper) (a : Act) (w : World) (v : AV) (s' : St) : Prop :=
  ∀ (next : Act → World → Prop) (Q : Exit → Act → World → Prop),
    (∀ S' ι' w' val, RS B S' ι' s' a w' → VX w'.heap S' ι' s'.hp v [val] → next (a.put o.dst val) w') → o.wp P a w next Q

theorem OpOk.value {P : Program} {o : Oper} {v : AV} {val : Value} (hr : (execOp a.eval o).run P w = .ok (.value val) w) (h : RS B S ι s a w) (hv : VX w.heap S ι s.hp v [val]) :
    OpOk P B o a w v s := by
  intro next Q hn
  unfold Oper.wp
  rw [hr]
  exact hn S ι w val h hv

theorem chk_ok (hE : EnvOk E) {T : TypeId} {u : Ty} (h : chk E T u = true) : tyOk E.P 100 T u = true := by
  unfold chk at h
  split at h
  · rename_i i hi
    have h1 := hE.tt T i hi
    simp only [tiOk, Bool.and_eq_true] at h1
    exact tyOk_sh (of_decide_eq_true h).symm h1.1
  · cases h

theorem tt_ok (hE : EnvOk E) {T : TypeId} {i : TI} (h : look T E.tt = some i) : tyOk E.P 100 T i.ty = true := by
  have h1 := hE.tt T i h
  simp only [tiOk, Bool.and_eq_true] at h1
  exact h1.1

/-! reading memory -/
theorem cell_of_cellsAt {b off n : Nat} {j : Nat} {v : Value} (h : (cellsAt w.heap b off n)[j]? = some v) : w.cell? ⟨b, off + j, none⟩ = some v := by
  simp only [cellsAt, List.getElem?_take, List.getElem?_drop] at h
  split at h
  · unfold blk at h
    split at h
    · rename_i arr T fz e
      simp [World.cell?, e] 
      simpa using h
    · simp at h
  · cases h

theorem Addr.add_none (b off n : Nat) : (⟨b, off, none⟩ : Addr).add n = ⟨b, off + n, none⟩ := by
  unfold Addr.add
  split
  · subst_vars; simp
  · rfl

theorem run_loadVar {P : Program} {T : TypeId} {t : Ty} {n : Nat} (ht : tyOk P n T t = true) {b off : Nat} {O : List Nat} {x : t.den} (hR : Rep w.heap S t O (cellsAt w.heap b off t.size) x) :
    (loadVar T ⟨b, off, none⟩).run P w = .ok (toV t (cellsAt w.heap b off t.size)) w := by
  have hl := hR.length
  simp only [loadVar, Sem.run_bind, run_isAgg ht, Result.andThen]
  cases hg : t.agg with
  | true =>
    simp only [if_true, Sem.run_bind, run_sizeOf ht, Result.andThen]
    have := run_loadCells_list (P := P) w ⟨b, off, none⟩ (cellsAt w.heap b off t.size) (fun j v h => by rw [Addr.add_none]; exact cell_of_cellsAt h)
    rw [hl] at this
    rw [this]
    simp [toV, hg]
  | false =>
    have h1 : t.size = 1 := by cases t <;> simp_all [Ty.agg, Ty.size]
    rw [h1] at hl ⊢
    match hc : cellsAt w.heap b off 1, hl with
    | [c], _ =>
      have := cell_of_cellsAt (w := w) (b := b) (off := off) (n := 1) (j := 0) (v := c) (by rw [hc]; rfl)
      simp only [Nat.add_zero] at this
      simp [run_load, this, toV, hg]

theorem exec_value {P : Program} {o : Oper} {sem : Sem Value} {val : Value} {w' : World} (h : execOp a.eval o = (do pure (.value (← sem)))) (hr : sem.run P w = .ok val w') :
    (execOp a.eval o).run P w = .ok (.value val) w' := by
  rw [h]; simp [hr]

theorem part_of {i : Nat} {e : Ent} (h1 : look i s.hp = some e) {p : List Step} {r : Sigma Ty.den} (h : s.part i p = some r) : getP e.ty e.x p = some r := by
  unfold St.part St.obj at h
  rw [h1] at h
  exact h

theorem loadA_sound (hE : EnvOk E) (h : RS B S ι s a w) {o : Oper} {T : TypeId} {x : Operand} (ho : o.op = .load T x) {v : AV} {s' : St} (hl : loadA E T (s.ev x) s = .ok v s') :
    OpOk E.P B o a w v s' := by
  have he : execOp a.eval o = (do pure (.value (← Instr.loadAt T (a.eval x)))) := by simp [execOp, ho]
  have hv := h.ev x
  unfold loadA at hl
  split at hl
  · rename_i t y hx
    rw [hx] at hv
    obtain ⟨b, off, e, hb, hr, hR⟩ := hv
    split at hl
    · rename_i hc
      cases hl
      have e : a.eval x = .pointer (some ⟨b, off, none⟩) := by simpa using e
      refine OpOk.value (exec_value he (w' := w) (val := toV t (cellsAt w.heap b off t.size)) ?_) h ⟨_, rfl, hR⟩
      rw [e]
      simp [Instr.loadAt, Instr.sureAddr, run_loadVar (chk_ok hE hc) hR]
    · cases hl
  · rename_i i p hx
    rw [hx] at hv
    obtain ⟨e, b, off, h1, h2, h3, h4⟩ := hv
    have h4 : a.eval x = .pointer (some ⟨b, off, none⟩) := by simpa using h4
    split at hl
    · rename_i u y hpt
      have hg := part_of h1 hpt
      obtain ⟨O2, k1, k2, k3, k4, k5⟩ := Loc_mem (Loc_bag h3) (h.hs.ob i e h1) h.hs.slt h2 hg h3
      split at hl
      · rename_i hc
        have hr : (Instr.loadAt T (a.eval x)).run E.P w = .ok (toV u (cellsAt w.heap b off u.size)) w := by
          rw [h4]; simp [Instr.loadAt, Instr.sureAddr, run_loadVar (chk_ok hE hc) k3]
        split at hl
        · rename_i hs
          cases hl
          have := k3.nilO hs
          subst this
          exact OpOk.value (exec_value he hr) h ⟨_, rfl, k3⟩
        · cases hl
          have hp := Loc_place h3
          exact OpOk.value (exec_value he hr) h ⟨e, u, y, _, h1, h2, hg, ⟨b, off, hp.1, (cellsAt_congr (VH_old hp.2) _ _).symm⟩, rfl⟩
      · cases hl
    · cases hl
  · cases hl

/-! arithmetic -/
theorem wrap_in (k : IntKind) (n : Int) : inK k (k.wrap n) := by
  unfold inK IntKind.wrap IntKind.min IntKind.max
  have h1 : (0 : Int) < 2 ^ k.bits := by cases k <;> decide
  have h2 := Int.emod_nonneg n (b := 2 ^ k.bits) (by omega)
  have h3 := Int.emod_lt_of_pos n h1
  cases k <;> simp [IntKind.signed, IntKind.bits] at * <;> (try split) <;> omega

theorem wrap_same {k : IntKind} {n : Int} (h : inK k n) : k.wrap n = n := by
  unfold inK IntKind.min IntKind.max at h
  unfold IntKind.wrap
  cases k <;> simp [IntKind.signed, IntKind.bits] at * <;> (try split) <;> omega

theorem VX.int {H : Array Go.Obj} {hp : List (Nat × Ent)} {k : IntKind} {n : Int} (h : inK k n) : VX H S ι hp (.val (.int k) n) [.int k n] := ⟨[.int k n], rfl, rfl, rfl, h⟩
theorem VX.bool {H : Array Go.Obj} {hp : List (Nat × Ent)} {b : Bool} : VX H S ι hp (.val .bool b) [.bool b] := ⟨[.bool b], rfl, rfl, rfl⟩
theorem VX.str {H : Array Go.Obj} {hp : List (Nat × Ent)} {l : List UInt8} (h : l.length ≤ maxLen) : VX H S ι hp (.val .str l) [.string ⟨l.toArray⟩] := ⟨[.string ⟨l.toArray⟩], rfl, rfl, rfl, h⟩

theorem VX.int_inv {H : Array Go.Obj} {hp : List (Nat × Ent)} {k : IntKind} {n : Int} {v : Value} (h : VX H S ι hp (.val (.int k) n) [v]) : v = .int k n ∧ inK k n := by
  obtain ⟨cs, e, _, rfl, h2⟩ := h
  exact ⟨by simpa [toV, Ty.agg] using e, h2⟩
theorem VX.bool_inv {H : Array Go.Obj} {hp : List (Nat × Ent)} {b : Bool} {v : Value} (h : VX H S ι hp (.val .bool b) [v]) : v = .bool b := by
  obtain ⟨cs, e, _, rfl⟩ := h
  simpa [toV, Ty.agg] using e
theorem VX.str_inv {H : Array Go.Obj} {hp : List (Nat × Ent)} {l : List UInt8} {v : Value} (h : VX H S ι hp (.val .str l) [v]) : v = .string ⟨l.toArray⟩ ∧ l.length ≤ maxLen := by
  obtain ⟨cs, e, _, rfl, h2⟩ := h
  exact ⟨by simpa [toV, Ty.agg] using e, h2⟩

/-- what a result says when its need is met -/
def ORok (P : Program) (B : Base) (o : Oper) (a : Act) (w : World) : OR → Prop
  | .fail _ => True
  | .ok v s => OpOk P B o a w v s
  | .okN p v s => p → OpOk P B o a w v s

theorem ORok.pure {P : Program} {o : Oper} {sem : Sem Value} (he : execOp a.eval o = (do pure (.value (← sem)))) (h : RS B S ι s a w) {v : AV} {val : Value} (hr : sem.run P w = .ok val w)
    (hv : VX w.heap S ι s.hp v [val]) : OpOk P B o a w v s := OpOk.value (exec_value he hr) h hv

theorem arith_sound {P : Program} {o : Oper} {k : IntKind} {r : Int} (he : (execOp a.eval o).run P w = .ok (.value (.int k (k.wrap r))) w) (h : RS B S ι s a w) : ORok P B o a w (arith k r s) := by
  unfold arith
  split
  · intro hk
    exact OpOk.value (by rw [he, wrap_same hk]) h (VX.int hk)
  · exact OpOk.value he h (VX.int (wrap_in _ _))

theorem run_binop {P : Program} {o : Oper} {op : BinOp} {T T' : TypeId} {x y : Operand} (ho : o.op = .binOp op T x y T') (hg : (eqGuard op T x y (a.eval x) (a.eval y)).run P w = .ok () w) {r : Result Value}
    (hr : (binOp op T (a.eval x) (a.eval y)).run P w = r) : (execOp a.eval o).run P w = r.andThen fun v w' => .ok (.value v) w' := by
  simp only [execOp, ho, Sem.run_bind, hg, Result.andThen, hr]
  cases r <;> rfl

theorem binI_sound (h : RS B S ι s a w) {o : Oper} {op : BinOp} {T T' : TypeId} {x y : Operand} (ho : o.op = .binOp op T x y T') {P : Program} {k k' : IntKind} {m n : Int}
    (hx : a.eval x = .int k m) (bx : inK k m) (hy : a.eval y = .int k' n) (by_ : inK k' n) : ORok P B o a w (binI op k m k' n s) := by
  have hg : (eqGuard op T x y (a.eval x) (a.eval y)).run P w = .ok () w := by rw [hx, hy]; cases op <;> rfl
  have run : ∀ {r : Result Value}, (binOp op T (.int k m) (.int k' n)).run P w = r → (execOp a.eval o).run P w = r.andThen fun v w' => .ok (.value v) w' := by
    intro r hr
    exact run_binop ho hg (by rw [hx, hy]; exact hr)
  have h0 : k.min ≤ 0 := by cases k <;> decide
  have h1 : 0 ≤ k.max := by cases k <;> decide
  unfold binI
  split
  · intro hn
    have : ¬ n < 0 := by omega
    exact OpOk.value (by rw [run (r := .ok (.int k (k.wrap (m * 2 ^ (min n.toNat k.bits)))) w)]; rfl; simp [binOp, Op.shift, this]) h (VX.int (wrap_in _ _))
  · intro hn
    have : ¬ n < 0 := by omega
    generalize hc : min n.toNat k.bits = c
    have hp : (0 : Int) < 2 ^ c := Int.pow_pos (by decide)
    have hb : inK k (m / 2 ^ c) := by
      unfold inK at *
      refine ⟨?_, ?_⟩
      · apply (Int.le_ediv_iff_mul_le hp).2
        by_cases hm : m < 0
        · have : k.min * 2 ^ c ≤ k.min * 1 := Int.mul_le_mul_of_nonpos_left h0 (by omega)
          omega
        · have : k.min * 2 ^ c ≤ 0 := Int.mul_nonpos_of_nonpos_of_nonneg h0 (Int.le_of_lt hp)
          omega
      · by_cases hm : m < 0
        · have := Int.ediv_neg_of_neg_of_pos hm hp
          omega
        · have := Int.ediv_le_self (2 ^ c) (a := m) (by omega)
          omega
    refine OpOk.value (by rw [run (r := .ok (.int k (m / 2 ^ c)) w)]; rfl; simp [binOp, Op.shift, this, hc, Int.fdiv_eq_ediv_of_nonneg _ (Int.le_of_lt hp)]) h (VX.int hb)
  · rename_i hne1 hne2
    split
    · rename_i hk; subst hk
      split
      · exact arith_sound (by rw [run (r := .ok (.int k (k.wrap (m + n))) w)]; rfl; simp [binOp, Op.intArith]) h
      · exact arith_sound (by rw [run (r := .ok (.int k (k.wrap (m - n))) w)]; rfl; simp [binOp, Op.intArith]) h
      · exact arith_sound (by rw [run (r := .ok (.int k (k.wrap (m * n))) w)]; rfl; simp [binOp, Op.intArith]) h
      · intro hn
        have hq : inK k (m.tdiv n) := by
          unfold inK at *
          by_cases hm : m < 0
          · have e : m.tdiv n = -((-m) / n) := by rw [← Int.neg_neg m, Int.neg_tdiv, Int.tdiv_eq_ediv_of_nonneg (by omega)]; simp
            have := Int.ediv_nonneg (a := -m) (b := n) (by omega) (by omega)
            have := Int.ediv_le_self n (a := -m) (by omega)
            omega
          · rw [Int.tdiv_eq_ediv_of_nonneg (by omega)]
            have := Int.ediv_nonneg (a := m) (b := n) (by omega) (by omega)
            have := Int.ediv_le_self n (a := m) (by omega)
            omega
        exact OpOk.value (by rw [run (r := .ok (.int k (m.tdiv n)) w)]; rfl; simp [binOp, Op.intDiv, show n ≠ 0 by omega, wrap_same hq]) h (VX.int hq)
      · intro hn
        have hq : inK k (m.tmod n) := by
          unfold inK at *
          by_cases hm : m < 0
          · have e : m.tmod n = -((-m) % n) := by rw [← Int.neg_neg m, Int.neg_tmod, Int.tmod_eq_emod_of_nonneg (by omega)]; simp
            have := Int.emod_nonneg (-m) (b := n) (by omega)
            have : (-m) % n ≤ -m := by
              have := Int.emod_add_mul_ediv (-m) n
              have := Int.mul_nonneg (Int.le_of_lt hn) (Int.ediv_nonneg (a := -m) (b := n) (by omega) (by omega))
              omega
            omega
          · rw [Int.tmod_eq_emod_of_nonneg (by omega)]
            have := Int.emod_nonneg m (b := n) (by omega)
            have : m % n ≤ m := by
              have := Int.emod_add_mul_ediv m n
              have := Int.mul_nonneg (Int.le_of_lt hn) (Int.ediv_nonneg (a := m) (b := n) (by omega) (by omega))
              omega
            omega
        exact OpOk.value (by rw [run (r := .ok (.int k (m.tmod n)) w)]; rfl; simp [binOp, Op.intDiv, show n ≠ 0 by omega]) h (VX.int hq)
      · exact OpOk.value (by rw [run (r := .ok (.int k (bAnd k m n)) w)]; rfl; simp [binOp, Op.intBits, bAnd]) h (VX.int (wrap_in _ _))
      · exact OpOk.value (by rw [run (r := .ok (.int k (bOr k m n)) w)]; rfl; simp [binOp, Op.intBits, bOr]) h (VX.int (wrap_in _ _))
      · exact OpOk.value (by rw [run (r := .ok (.int k (bXor k m n)) w)]; rfl; simp [binOp, Op.intBits, bXor]) h (VX.int (wrap_in _ _))
      · exact OpOk.value (by rw [run (r := .ok (.int k (bAndNot k m n)) w)]; rfl; simp [binOp, Op.intBits, bAndNot]) h (VX.int (wrap_in _ _))
      · exact OpOk.value (by rw [run (r := .ok (.bool (decide (m = n))) w)]; rfl; simp [binOp, Op.intCmp]; rfl) h VX.bool
      · exact OpOk.value (by rw [run (r := .ok (.bool (decide (m ≠ n))) w)]; rfl; simp [binOp, Op.intCmp]; rfl) h VX.bool
      · exact OpOk.value (by rw [run (r := .ok (.bool (decide (m < n))) w)]; rfl; simp [binOp, Op.intCmp]) h VX.bool
      · exact OpOk.value (by rw [run (r := .ok (.bool (decide (m ≤ n))) w)]; rfl; simp [binOp, Op.intCmp]) h VX.bool
      · exact OpOk.value (by rw [run (r := .ok (.bool (decide (n < m))) w)]; rfl; simp [binOp, Op.intCmp]) h VX.bool
      · exact OpOk.value (by rw [run (r := .ok (.bool (decide (n ≤ m))) w)]; rfl; simp [binOp, Op.intCmp]) h VX.bool
      · trivial
    · trivial

theorem run_str_add {P : Program} {T : TypeId} {m n : List UInt8} (hn : m.length + n.length ≤ maxLen) : (binOp .add T (.string ⟨m.toArray⟩) (.string ⟨n.toArray⟩)).run P w = .ok (.string ⟨(m ++ n).toArray⟩) w := by
  have h2 : ¬ ((((ByteArray.mk m.toArray).size + (ByteArray.mk n.toArray).size : Nat) : Int) > IntKind.i64.max) := by
    have e1 : (ByteArray.mk m.toArray).size = m.length := by simp [ByteArray.size]
    have e2 : (ByteArray.mk n.toArray).size = n.length := by simp [ByteArray.size]
    rw [e1, e2]
    have : IntKind.i64.max = ((maxLen : Nat) : Int) := by decide
    omega
  have e : (ByteArray.mk m.toArray) ++ (ByteArray.mk n.toArray) = ByteArray.mk (m ++ n).toArray := by
    apply ByteArray.ext; simp
  simp only [binOp, Op.stringOp, h2, if_false, e]
  rfl

theorem binS_sound (h : RS B S ι s a w) {o : Oper} {op : BinOp} {T T' : TypeId} {x y : Operand} (ho : o.op = .binOp op T x y T') {P : Program} {m n : List UInt8}
    (hx : a.eval x = .string ⟨m.toArray⟩) (hy : a.eval y = .string ⟨n.toArray⟩) : ORok P B o a w (binS op m n s) := by
  have hg : (eqGuard op T x y (a.eval x) (a.eval y)).run P w = .ok () w := by rw [hx, hy]; cases op <;> rfl
  have run : ∀ {r : Result Value}, (binOp op T (.string ⟨m.toArray⟩) (.string ⟨n.toArray⟩)).run P w = r → (execOp a.eval o).run P w = r.andThen fun v w' => .ok (.value v) w' := by
    intro r hr
    exact run_binop ho hg (by rw [hx, hy]; exact hr)
  unfold binS
  split
  · exact OpOk.value (by rw [run (r := .ok (.bool (decide (m = n))) w)]; rfl; simp [binOp, Op.stringOp, ByteArray.toList_mk, Bool.beq_eq_decide_eq]) h VX.bool
  · exact OpOk.value (by rw [run (r := .ok (.bool (decide (m ≠ n))) w)]; rfl; simp [binOp, Op.stringOp, ByteArray.toList_mk, Bool.beq_eq_decide_eq]) h VX.bool
  · intro hn
    refine OpOk.value (by rw [run (r := .ok (.string ⟨(m ++ n).toArray⟩) w)]; rfl; exact run_str_add hn) h (VX.str (by simpa using hn))
  · trivial

theorem tyOk_bool {P : Program} {n : Nat} {T : TypeId} (hT : tyOk P n T .bool = true) : P.underlying T = some .bool := by
  obtain ⟨d, h1, h2⟩ := tyOk_agg hT
  cases n with
  | zero => simp [tyOk] at hT
  | succ n =>
    simp only [tyOk, Bool.and_eq_true, h1] at hT
    obtain ⟨_, hT⟩ := hT
    cases d <;> first | exact h1 | (exact (Bool.false_ne_true hT).elim) | skip
    rename_i fs
    have hT : fieldsOk (tyOk P n) fs.toList 0 .bool = true := hT
    cases hf : fs.toList with
    | nil => rw [hf] at hT; simp [fieldsOk] at hT
    | cons f l => rw [hf] at hT; simp [fieldsOk] at hT

theorem run_equalIn_bool {P : Program} {T : TypeId} (h1 : P.underlying T = some .bool) (d : Nat) (m n : Bool) : (Op.equalIn (d + 1) T (.bool m) (.bool n)).run P w = .ok (m == n) w := by
  simp [Op.equalIn, run_under h1]

theorem run_boolEq {P : Program} {n : Nat} {T : TypeId} (hT : tyOk P n T .bool = true) (m n : Bool) : (Op.equal T (.bool m) (.bool n)).run P w = .ok (m == n) w :=
  run_equalIn_bool (tyOk_bool hT) 9999 m n

theorem binA_sound (hE : EnvOk E) (h : RS B S ι s a w) {o : Oper} {op : BinOp} {T T' : TypeId} {x y : Operand} (ho : o.op = .binOp op T x y T') : ORok E.P B o a w (binA E T op (s.ev x) (s.ev y) s) := by
  have hx := h.ev x
  have hy := h.ev y
  unfold binA
  split
  · rename_i k m k' n e1 e2
    rw [e1] at hx; rw [e2] at hy
    obtain ⟨hx, bx⟩ := VX.int_inv hx
    obtain ⟨hy, by_⟩ := VX.int_inv hy
    exact binI_sound h ho hx bx hy by_
  · rename_i m n e1 e2
    rw [e1] at hx; rw [e2] at hy
    have hx := VX.bool_inv hx
    have hy := VX.bool_inv hy
    have hg : (eqGuard op T x y (a.eval x) (a.eval y)).run E.P w = .ok () w := by rw [hx, hy]; cases op <;> rfl
    split
    · rename_i hc
      exact OpOk.value (by rw [run_binop ho hg (r := .ok (.bool (m == n)) w)]; rfl; rw [hx, hy]; simp [binOp, run_boolEq (chk_ok hE hc)]) h VX.bool
    · rename_i hc
      exact OpOk.value (by rw [run_binop ho hg (r := .ok (.bool (m != n)) w)]; rfl; rw [hx, hy]; simp [binOp, run_boolEq (chk_ok hE hc)]; cases (m : Bool) <;> cases (n : Bool) <;> rfl) h VX.bool
    · trivial
  · rename_i m n e1 e2
    rw [e1] at hx; rw [e2] at hy
    exact binS_sound h ho (VX.str_inv hx).1 (VX.str_inv hy).1
  · trivial

end
end Go.Ex
