import Derived.Test.YtagjonjobbckdaaExV
import Derived.Tactics
namespace Go.Ex

section
variable {E : Env} {B : Base} {S S' : Nat → Prop} {ι : Ix} {s : St} {a : Act} {w : World} {hp : List (Nat × Ent)} {H H' : Array Go.Obj}

theorem nth_rep : ∀ {n : Nat} {l v : AV} {us : List Value}, aop.nth n l = some v → VX H S ι hp l us → ∃ u, us[n]? = some u ∧ VX H S ι hp v [u]
  | 0, l, v, us, h, hl => by
    cases l <;> simp only [aop.nth] at h <;> first | cases h | skip
    obtain ⟨u, us', rfl, ha, hb⟩ := hl
    exact ⟨u, rfl, ha⟩
  | n + 1, l, v, us, h, hl => by
    cases l <;> simp only [aop.nth] at h <;> first | cases h | skip
    obtain ⟨u, us', rfl, ha, hb⟩ := hl
    obtain ⟨u2, e, h2⟩ := nth_rep h hb
    exact ⟨u2, by simpa using e, h2⟩

theorem call_sound (hE : EnvOk E) (h : RS B S ι s a w) {o : Oper} {c : Call} (ho : o.op = .call c) : ORok E.P B o a w (aop E o s) := by
  unfold aop
  rw [ho]
  simp only
  split
  · rename_i f hf
    split
    · rename_i g caps hg
      exact callA_sound hE h ho hf hg
    · trivial
  · rename_i hf
    split
    · rename_i x T ha hT
      split
      · rename_i q u y hx
        split
        · rename_i hk
          obtain ⟨cs, e, hR⟩ := evx h hx
          obtain ⟨b, cap, hv, hl⟩ := slc_val hR
          have e : a.eval x = toV (.slc q u) cs := by simpa using e
          exact len_sound hE h ho hf ha hT hk (.inl ⟨q, u, b, 0, cap, rfl, by rw [e, hv], rfl⟩) hl
        · trivial
      · rename_i y hx
        split
        · rename_i hk
          obtain ⟨hv, hl⟩ := VX.str_inv (evx h hx)
          exact len_sound hE h ho hf ha hT hk (.inr (.inl ⟨y, rfl, hv, rfl⟩)) (by unfold maxLen at hl; omega)
        · trivial
      · rename_i n u y hx
        split
        · rename_i hk
          split
          · rename_i hn
            exact len_sound hE h ho hf ha hT hk (.inr (.inr ⟨u, rfl⟩)) hn
          · trivial
        · trivial
      · rename_i d p hx
        have core : ∀ {e : Ent} {q : Bool} {u : Ty} {z : (Ty.slc q u).den}, s.obj d = some e → getP e.ty e.x p = some ⟨.slc q u, z⟩ → chk E T (.slc q u) = true → OpOk E.P B o a w (.val (.int .i64) (List.length z : Int)) s := by
          intro e q u z hob hg hk
          obtain ⟨O, cs, e1, hR⟩ := at_val h hob (evx h hx) hg
          obtain ⟨b, cap, hv, hl⟩ := slc_val hR
          exact len_sound hE h ho hf ha hT hk (.inl ⟨q, u, b, 0, cap, rfl, by rw [e1, hv], rfl⟩) hl
        split
        · rename_i t y hob
          split
          · rename_i q u z hg
            split
            · rename_i hk; exact core hob hg hk
            · trivial
          · trivial
        · rename_i t y hob
          split
          · rename_i q u z hg
            split
            · rename_i hk; exact core hob hg hk
            · trivial
          · trivial
        · trivial
      · trivial
    · trivial
  · rename_i hf
    split
    · rename_i x y ha
      split
      · rename_i k m k' n hx hy
        split
        · rename_i hk; subst hk; exact (maxmin_sound h ho ha hx hy).1 hf
        · trivial
      · trivial
    · trivial
  · rename_i hf
    split
    · rename_i x y ha
      split
      · rename_i k m k' n hx hy
        split
        · rename_i hk; subst hk; exact (maxmin_sound h ho ha hx hy).2 hf
        · trivial
      · trivial
    · trivial
  · trivial

theorem aop_sound (hE : EnvOk E) (h : RS B S ι s a w) (o : Oper) (hpick : ∀ c x y, o.op ≠ .pick c x y) : ORok E.P B o a w (aop E o s) := by
  cases ho : o.op with
  | move x => unfold aop; rw [ho]; exact OpOk.value (by simp [execOp, ho]) h (h.ev x)
  | assign x => unfold aop; rw [ho]; exact OpOk.value (by simp [execOp, ho]) h (h.ev x)
  | alloc T => exact alloc_sound hE h ho
  | box T x => exact box_sound h ho
  | build T parts => exact build_sound hE h ho
  | buildSlice T n parts => exact buildSlice_sound hE h ho
  | load T x =>
    have : aop E o s = loadA E T (s.ev x) s := by unfold aop; rw [ho]
    rw [this]
    cases hl : loadA E T (s.ev x) s with
    | fail why => trivial
    | ok v s' => exact loadA_sound hE h ho hl
    | okN p v s' =>
      exfalso
      unfold loadA at hl
      repeat' split at hl
      all_goals cases hl
  | store T x y =>
    unfold aop; rw [ho]
    simp only
    split
    · rename_i i p hx; exact storeA_sound hE h ho hx
    · trivial
  | nilCheck x =>
    unfold aop; rw [ho]
    simp only
    split
    · rename_i i p hx
      have hv := evx h hx
      obtain ⟨e, b, off, h1, h2, h3, h4⟩ := hv
      have h4 : a.eval x = .pointer (some ⟨b, off, none⟩) := by simpa using h4
      exact OpOk.value (val := .pointer (some ⟨b, off, none⟩)) (by simp only [execOp, ho, h4]; rfl) h ⟨e, b, off, h1, h2, h3, rfl⟩
    · rename_i t y hx
      obtain ⟨b, off, e, h1, h2, h3⟩ := evx h hx
      have e : a.eval x = .pointer (some ⟨b, off, none⟩) := by simpa using e
      exact OpOk.value (val := .pointer (some ⟨b, off, none⟩)) (by simp only [execOp, ho, e]; rfl) h ⟨b, off, rfl, h1, h2, h3⟩
    · rename_i f l hx
      obtain ⟨us, e, h1⟩ := evx h hx
      have e : a.eval x = .func (.func f) #[] us.toArray := by simpa using e
      exact OpOk.value (val := .func (.func f) #[] us.toArray) (by simp only [execOp, ho, e]; rfl) h ⟨us, rfl, h1⟩
    · trivial
  | binOp op T x y T' =>
    have : aop E o s = binE E T op (s.ev x) (s.ev y) s := by unfold aop; rw [ho]
    rw [this]; exact binE_sound hE h ho
  | unOp op T x =>
    have : aop E o s = unA op (s.ev x) s := by unfold aop; rw [ho]
    rw [this]; exact unOp_sound h ho
  | convert T' T x => exact convert_sound hE h ho
  | fieldAddr T x n => exact fieldAddr_sound hE h ho
  | indexAddr T x y => exact indexAddr_sound hE h ho
  | field T x n => exact field_sound hE h ho
  | index T x y => exact index_sound hE h ho
  | extract x n =>
    unfold aop; rw [ho]
    simp only
    split
    · rename_i l hx
      split
      · rename_i v hn
        obtain ⟨us, e, hl⟩ := evx h hx
        have e : a.eval x = .tuple us.toArray := by simpa using e
        obtain ⟨u, h1, h2⟩ := nth_rep hn hl
        have he : execOp a.eval o = (do pure (.value (← Instr.extract (a.eval x) n))) := by simp [execOp, ho]
        refine exec_val he h (val := u) ?_ h2
        rw [e]; simp [Instr.extract, h1]
      · trivial
    · trivial
  | makeFunc fn first caps =>
    unfold aop
    rw [ho]
    cases fn with
    | func f =>
      simp only
      split
      · rename_i hf
        have hf : first = #[] := by simpa using hf
        have := h.evs caps.toList
        refine OpOk.value (val := .func (.func f) #[] (caps.toList.map a.eval).toArray) ?_ h ⟨_, rfl, this⟩
        simp [execOp, ho, Instr.makeFunc, hf, ← Array.toList_map]
      · trivial
    | _ => trivial
  | call c => exact call_sound hE h ho
  | pick c x y => exact absurd ho (hpick c x y)
  | _ => unfold aop; rw [ho]; trivial

/-! ### regions -/
/-- what the abstract step says of an operation that is wanted -/
theorem runOp_sound (hE : EnvOk E) (hn : B.n = E.nt) (h : RS B S ι s a w) (o : Oper) {k : St → Tree E.rs} {L : Code → List Item → St → Prop} {Rt : DL E.rs → Prop} (ht : (runOp E o s k).holds L Rt) {next : Act → World → Prop} {Q : Exit → Act → World → Prop}
    (hk : ∀ S' ι' s' a' w', RS B S' ι' s' a' w' → (k s').holds L Rt → next a' w') : o.wp E.P a w next Q := by
  unfold runOp at ht
  split at ht
  · exact ht.elim
  · rename_i hd
    rw [← hn] at hd
    split at ht
    · rename_i c x y ho
      split at ht
      · rename_i g hg
        have hgv := VX.bool_inv (evx h hg)
        have hrun : (execOp a.eval o).run E.P w = .ok (.value (if g then a.eval x else a.eval y)) w := by
          simp only [execOp, ho, hgv, asBool]
          cases g <;> simp
        unfold Oper.wp
        rw [hrun]
        cases g with
        | true => exact hk S ι _ _ _ (h.put hd (h.ev x)) ht
        | false => exact hk S ι _ _ _ (h.put hd (h.ev y)) ht
      · exact ht.elim
    · rename_i hnp
      have hs := aop_sound hE h o (fun c x y e => hnp c x y e)
      split at ht
      · exact ht.elim
      · rename_i v s' e
        rw [e] at hs
        exact hs next Q (fun S' ι' w' val h1 h2 => hk S' ι' _ _ _ (h1.put hd h2) ht)
      · rename_i p v s' e
        rw [e] at hs
        exact hs ht.1 next Q (fun S' ι' w' val h1 h2 => hk S' ι' _ _ _ (h1.put hd h2) (ht.2 ht.1))

theorem wanted_of {ops : Array Oper} {o : Oper} {j : Nat} {want : Bool} (hg : o.guard = some (j, want)) {g : Nat} (hs : guardSlot ops j = some g) {tmps : Array Value} :
    Region.wanted o (yielded ops tmps) = ((match tmps[g]? with | some (.bool b) => some b | _ => none) == some want) := by
  have : ((ops[j]?).bind (·.dst)).bind (tmps[·]?) = tmps[g]? := by
    have : (ops[j]?).bind (·.dst) = some g := hs
    rw [this]; rfl
  simp only [Region.wanted, hg, yielded, this]
  rfl

theorem getD_some {l : Array Value} {g : Nat} {v : Value} (h : l.getD g undef = v) (hv : v ≠ undef) : l[g]? = some v := by
  simp only [Array.getD_eq_getD_getElem?] at h
  cases hl : l[g]? with
  | none => rw [hl] at h; exact absurd h.symm hv
  | some x => rw [hl] at h; simp at h; rw [h]

/-- one place of a region: an operation, wanted or not -/
theorem place_sound (hE : EnvOk E) (hn : B.n = E.nt) (h : RS B S ι s a w) {ops : Array Oper} (o : Oper) {k : St → Tree E.rs} {L : Code → List Item → St → Prop} {Rt : DL E.rs → Prop} (ht : (placeA E ops o s k).holds L Rt) {next : Act → World → Prop} {Q : Exit → Act → World → Prop}
    (hk : ∀ S' ι' s' a' w', RS B S' ι' s' a' w' → (k s').holds L Rt → next a' w') :
    if Region.wanted o (yielded ops a.tmps) then o.wp E.P a w next Q else next (a.put o.dst undef) w := by
  unfold placeA at ht
  split at ht
  · rename_i hg
    simp only [Region.wanted, hg, if_true]
    exact runOp_sound hE hn h o ht hk
  · rename_i j want hg
    split at ht
    · exact ht.elim
    · rename_i g hs
      rw [wanted_of hg hs]
      have hv := h.get g
      split at ht
      · rename_i vs hgv
        rw [hgv] at hv
        have hv : [a.tmps.getD g undef] = [Value.tuple vs] := hv
        have hv : a.tmps.getD g undef = .tuple vs := by simpa using hv
        have hno : ((match a.tmps[g]? with | some (.bool b) => some b | _ => none) == some want) = false := by
          simp only [Array.getD_eq_getD_getElem?] at hv
          cases hl : a.tmps[g]? with
          | none => rfl
          | some x => rw [hl] at hv; simp at hv; rw [hv]; rfl
        rw [hno]
        split at ht
        · rename_i hd
          rw [← hn] at hd
          exact hk S ι _ _ _ (h.put hd (v := .raw undef) (val := undef) (by rfl)) ht
        · exact ht.elim
      · rename_i b hgv
        rw [hgv] at hv
        have hb := VX.bool_inv hv
        have hsome := getD_some hb (by simp [undef])
        rw [hsome]
        split at ht
        · exact ht.elim
        · rename_i hd
          rw [← hn] at hd
          -- the guard's slot, known
          have hgs : ∀ c, b = c → RS B S ι (s.put (some g) (.val .bool c)) a w := by
            rintro c rfl
            have hlt : g < a.tmps.size := by
              rcases Nat.lt_or_ge g a.tmps.size with h1 | h1
              · exact h1
              · rw [Array.getElem?_eq_none h1] at hsome; cases hsome
            have := h.put (d := some g) (v := .val .bool b) (val := .bool b) (by simp [dstOk, Nat.blt_eq, ← h.sz, hlt]) VX.bool
            have e : a.put (some g) (.bool b) = a := by
              simp only [Act.put]
              have : a.tmps.setIfInBounds g (.bool b) = a.tmps := by
                apply Array.ext_getElem?
                intro i
                rw [Array.getElem?_setIfInBounds]
                split
                · rename_i e; subst e; exact hsome.symm
                · rfl
              rw [this]
            rw [e] at this
            exact this
          cases b with
          | true =>
            cases want with
            | true => exact runOp_sound hE hn (hgs true rfl) o ht hk
            | false => exact hk S ι _ _ _ ((hgs true rfl).put hd (v := .raw undef) (val := undef) (by rfl)) ht
          | false =>
            cases want with
            | false => exact runOp_sound hE hn (hgs false rfl) o ht hk
            | true => exact hk S ι _ _ _ ((hgs false rfl).put hd (v := .raw undef) (val := undef) (by rfl)) ht
      · exact ht.elim

theorem regA_sound (hE : EnvOk E) (hn : B.n = E.nt) {ops : Array Oper} {k : St → Tree E.rs} {L : Code → List Item → St → Prop} {Rt : DL E.rs → Prop} {Q : Exit → Act → World → Prop} (hk : ∀ S' ι' s' a' w', RS B S' ι' s' a' w' → (k s').holds L Rt → Q .normal a' w') :
    ∀ {l : List Oper} {S : Nat → Prop} {ι : Ix} {s : St} {a : Act} {w : World}, RS B S ι s a w → (regA E ops l s k).holds L Rt → wpList E.P ops Q l a w
  | [], S, ι, s, a, w, h, ht => hk S ι s a w h ht
  | o :: l, S, ι, s, a, w, h, ht => by
    have := place_sound hE hn h (ops := ops) o (k := fun s' => regA E ops l s' k) ht (next := wpList E.P ops Q l) (Q := Q) (fun S' ι' s' a' w' h1 h2 => regA_sound hE hn hk h1 h2)
    unfold wpList
    split
    · rename_i hw; rw [if_pos hw] at this; exact .inl this
    · rename_i hw; rw [if_neg hw] at this; exact this

end
end Go.Ex
