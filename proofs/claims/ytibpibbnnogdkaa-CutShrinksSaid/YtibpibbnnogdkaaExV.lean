import Derived.Test.YtibpibbnnogdkaaExT5
import Derived.DeepKeys
import Derived.Laws.StructEq
namespace Go.Ex

section
variable {E : Env} {B : Base} {S S' : Nat → Prop} {ι : Ix} {s : St} {a : Act} {w : World} {hp : List (Nat × Ent)} {H H' : Array Go.Obj}

theorem run_eqItems {P : Program} {e : TypeId} {t : Ty} {n d : Nat} (hT : tyOk P n e t = true)
    (hA : ∀ {cs cs' : List Value} {x y : t.den}, Rep H S t [] cs x → Rep H' S' t [] cs' y → (Op.equalIn d e (toV t cs) (toV t cs')).run P w = .ok (eqD t x y) w) {cs cs' : List Value} :
    ∀ {l l' : List t.den} {k : Nat}, l.length = l'.length → RepL (Rep H S t) t.size [] (cs.drop (k * t.size)) l → RepL (Rep H' S' t) t.size [] (cs'.drop (k * t.size)) l' →
      (Op.eqItems d e t.size cs.toArray cs'.toArray (List.range' k l.length)).run P w = .ok (eqD.eqDL (eqD t) l l') w
  | [], [], k, _, _, _ => by simp [Op.eqItems, eqD.eqDL]
  | [], _ :: _, _, h, _, _ => by cases h
  | _ :: _, [], _, h, _, _ => by cases h
  | x :: l, y :: l', k, hl, ⟨O1, O2, e1, h1, h2⟩, ⟨O3, O4, e2, h3, h4⟩ => by
    obtain ⟨rfl, rfl⟩ := List.append_eq_nil_iff.1 e1.symm
    obtain ⟨rfl, rfl⟩ := List.append_eq_nil_iff.1 e2.symm
    have p1 := run_part (w := w) hT h1
    have p2 := run_part (w := w) hT h3
    have e3 := hA h1 h3
    have hk : k * t.size + t.size = (k + 1) * t.size := by rw [Nat.succ_mul]
    rw [List.drop_drop, hk] at h2 h4
    have ih := run_eqItems hT hA (l := l) (l' := l') (k := k + 1) (by simpa using hl) h2 h4
    simp only [List.length_cons, List.range'_succ, Op.eqItems, Sem.run_bind, p1, p2, Result.andThen, e3, eqD.eqDL]
    cases hq : eqD t x y with
    | true => simpa using ih
    | false => simp

theorem run_eq {P : Program} : ∀ (t : Ty),
    (∀ {n m d : Nat} {T : TypeId} {cs cs' : List Value} {x y : t.den}, tyOk P n T t = true → eqOk P m T t = true → t.ht < d → Rep H S t [] cs x → Rep H' S' t [] cs' y → (Op.equalIn d T (toV t cs) (toV t cs')).run P w = .ok (eqD t x y) w) ∧
    (∀ {n m d off : Nat} {fs : List Field} {cs cs' : List Value} {x y : t.den}, fieldsOk (tyOk P n) fs off t = true → eqFs (eqOk P m) fs t = true → t.ht ≤ d → Rep H S t [] ((cs.drop off).take t.size) x → Rep H' S' t [] ((cs'.drop off).take t.size) y →
      (Op.eqFields d cs.toArray cs'.toArray fs).run P w = .ok (eqD t x y) w) := by
  intro t
  have strct : ∀ {t : Ty}, t.agg = true → (∀ n u, t ≠ .arr n u) →
    (∀ {n m d off : Nat} {fs : List Field} {cs cs' : List Value} {x y : t.den}, fieldsOk (tyOk P n) fs off t = true → eqFs (eqOk P m) fs t = true → t.ht ≤ d → Rep H S t [] ((cs.drop off).take t.size) x → Rep H' S' t [] ((cs'.drop off).take t.size) y →
      (Op.eqFields d cs.toArray cs'.toArray fs).run P w = .ok (eqD t x y) w) →
    (∀ {n m d : Nat} {T : TypeId} {cs cs' : List Value} {x y : t.den}, tyOk P n T t = true → eqOk P m T t = true → t.ht < d → Rep H S t [] cs x → Rep H' S' t [] cs' y → (Op.equalIn d T (toV t cs) (toV t cs')).run P w = .ok (eqD t x y) w) := by
    intro t hag hna hB n m d T cs cs' x y hT hq hd h1 h2
    obtain ⟨fs, k', g1, g2⟩ := tyOk_struct hT hag hna
    have hfo : P.underlying T = some (.struct (P.fieldsOf T)) := by simp [Program.fieldsOf, g1]
    have hfs : P.fieldsOf T = fs := by rw [g1] at hfo; cases hfo; rfl
    cases m with
    | zero => simp [eqOk] at hq
    | succ m =>
      have hq : (!P.stoodInHeld T && eqFs (eqOk P m) fs.toList t) = true := by
        simp only [eqOk, g1] at hq
        exact hq
      simp only [Bool.and_eq_true, Bool.not_eq_true'] at hq
      obtain ⟨d, rfl⟩ : ∃ e, d = e + 1 := ⟨d - 1, by omega⟩
      have hv : ∀ cs, toV t cs = .agg cs.toArray := by intro cs; simp [toV, hag]
      rw [hv, hv, run_equalIn_struct w d T _ _ hfo hq.1, hfs]
      refine hB g2 hq.2 (by omega) ?_ ?_
      · rw [List.drop_zero, List.take_of_length_le (by rw [h1.length]; exact Nat.le_refl _)]; exact h1
      · rw [List.drop_zero, List.take_of_length_le (by rw [h2.length]; exact Nat.le_refl _)]; exact h2
  induction t with
  | int k =>
    refine ⟨?_, by intro n m d off fs cs cs' x y h; cases fs <;> simp [fieldsOk] at h⟩
    rintro n m d T cs cs' x y hT _ hd ⟨_, rfl, _⟩ ⟨_, rfl, _⟩
    obtain ⟨d, rfl⟩ : ∃ e, d = e + 1 := ⟨d - 1, by omega⟩
    exact run_equalIn_int w d T k k x y (tyOk_int hT)
  | bool =>
    refine ⟨?_, by intro n m d off fs cs cs' x y h; cases fs <;> simp [fieldsOk] at h⟩
    rintro n m d T cs cs' x y hT _ hd ⟨_, rfl⟩ ⟨_, rfl⟩
    obtain ⟨d, rfl⟩ : ∃ e, d = e + 1 := ⟨d - 1, by omega⟩
    exact run_equalIn_bool (tyOk_bool hT) d x y
  | str =>
    refine ⟨?_, by intro n m d off fs cs cs' x y h; cases fs <;> simp [fieldsOk] at h⟩
    rintro n m d T cs cs' x y hT _ hd ⟨_, rfl, _⟩ ⟨_, rfl, _⟩
    obtain ⟨d, rfl⟩ : ∃ e, d = e + 1 := ⟨d - 1, by omega⟩
    have := run_equalIn_string w d T (⟨(x : List UInt8).toArray⟩ : ByteArray) ⟨(y : List UInt8).toArray⟩ (tyOk_str hT)
    refine Eq.trans this ?_
    rw [ByteArray.toList_eq, ByteArray.toList_eq]
    congr 1
    show ((x : List UInt8) == y) = decide ((x : List UInt8) = y)
    rw [Bool.eq_iff_iff]; simp
  | unit =>
    have hB : ∀ {n m d off : Nat} {fs : List Field} {cs cs' : List Value} {x y : Ty.unit.den}, fieldsOk (tyOk P n) fs off .unit = true → eqFs (eqOk P m) fs .unit = true → Ty.unit.ht ≤ d → Rep H S .unit [] ((cs.drop off).take Ty.unit.size) x → Rep H' S' .unit [] ((cs'.drop off).take Ty.unit.size) y →
      (Op.eqFields d cs.toArray cs'.toArray fs).run P w = .ok (eqD .unit x y) w := by
      intro n m d off fs cs cs' x y h _ _ _ _
      cases fs with
      | nil => simp [Op.eqFields, eqD]
      | cons f fs => simp [fieldsOk] at h
    exact ⟨strct rfl (by simp) hB, hB⟩
  | pair p q ihp ihq =>
    have hB : ∀ {n m d off : Nat} {fs : List Field} {cs cs' : List Value} {x y : (Ty.pair p q).den}, fieldsOk (tyOk P n) fs off (.pair p q) = true → eqFs (eqOk P m) fs (.pair p q) = true → (Ty.pair p q).ht ≤ d →
        Rep H S (.pair p q) [] ((cs.drop off).take (Ty.pair p q).size) x → Rep H' S' (.pair p q) [] ((cs'.drop off).take (Ty.pair p q).size) y → (Op.eqFields d cs.toArray cs'.toArray fs).run P w = .ok (eqD (.pair p q) x y) w := by
      rintro n m d off fs cs cs' x y hf hq hd ⟨O1, O2, e1, h1, h2⟩ ⟨O3, O4, e2, h3, h4⟩
      obtain ⟨rfl, rfl⟩ := List.append_eq_nil_iff.1 e1.symm
      obtain ⟨rfl, rfl⟩ := List.append_eq_nil_iff.1 e2.symm
      cases fs with
      | nil => simp [fieldsOk] at hf
      | cons f fs =>
        simp only [fieldsOk, Bool.and_eq_true] at hf
        simp only [eqFs, Bool.and_eq_true] at hq
        obtain ⟨⟨⟨⟨g1, _⟩, g3⟩, g4⟩, g5⟩ := hf
        have g1 : f.offset = off := Nat.eq_of_beq_eq_true g1
        have hht : p.ht + 1 ≤ d ∧ q.ht ≤ d := by
          have : max (p.ht + 1) q.ht ≤ d := hd
          omega
        have hsz : (Ty.pair p q).size = p.size + q.size := rfl
        rw [List.take_take, Nat.min_eq_left (by omega)] at h1 h3
        rw [List.drop_take, List.drop_drop, hsz, Nat.add_sub_cancel_left] at h2 h4
        rw [← g1] at h1 h3
        have p1 := run_part (w := w) g3 h1
        have p2 := run_part (w := w) g3 h3
        have e3 := ihp.1 (d := d) g3 hq.1 (by omega) h1 h3
        have ih := ihq.2 (d := d) (cs := cs) (cs' := cs') g5 hq.2 hht.2 h2 h4
        have hn : f.name ≠ "_" := by simpa using g4
        simp only [Op.eqFields, hn, ne_eq, not_false_eq_true, if_true, Sem.run_bind, p1, p2, Result.andThen, e3, eqD]
        cases hh : eqD p x.1 y.1 with
        | true => simpa using ih
        | false => simp
    exact ⟨strct rfl (by simp) hB, hB⟩
  | arr k t ih =>
    refine ⟨?_, by intro n m d off fs cs cs' x y h; cases fs <;> simp [fieldsOk] at h⟩
    rintro n m d T cs cs' x y hT hq hd ⟨h1, h2⟩ ⟨h3, h4⟩
    obtain ⟨e, k', g1, g2, g3⟩ := tyOk_arr hT
    cases m with
    | zero => simp [eqOk] at hq
    | succ m =>
      have hq : eqOk P m e t = true := by simpa only [eqOk, g1] using hq
      obtain ⟨d, rfl⟩ : ∃ e, d = e + 1 := ⟨d - 1, by omega⟩
      obtain ⟨i, hi, his, _⟩ := tyOk_info g3
      have hc : P.cellsOf e = t.size := by simp [Program.cellsOf, hi, his]
      have hv : ∀ cs, toV (.arr k t) cs = .agg cs.toArray := fun cs => rfl
      have hdd : t.ht < d := by have : t.ht + 1 < d + 1 := hd; omega
      rw [hv, hv, run_equalIn_array w d _ _ g1 hi, hc, List.range_eq_range']
      have := run_eqItems (w := w) (cs := cs) (cs' := cs') (l := x) (l' := y) (k := 0) g3 (fun a b => ih.1 g3 hq hdd a b) (by rw [h1, h3]) (by simpa using h2) (by simpa using h4)
      rw [h1] at this
      exact this
  | slc o t ih =>
    refine ⟨?_, by intro n m d off fs cs cs' x y h; cases fs <;> simp [fieldsOk] at h⟩
    rintro n m d T cs cs' x y hT hq
    obtain ⟨e, k', g1, _⟩ := tyOk_slc hT
    cases m <;> simp [eqOk, g1] at hq

theorem eqA_sound (hE : EnvOk E) (h : RS B S ι s a w) {o : Oper} {op : BinOp} {T T' : TypeId} {x y : Operand} (ho : o.op = .binOp op T x y T') {t u : Ty} {p : t.den} {q : u.den} (hx : s.ev x = .val t p) (hy : s.ev y = .val u q) : ORok E.P B o a w (eqA E T op t p u q s) := by
  unfold eqA
  split
  · rename_i hu
    subst hu
    have core : (u.agg && chk E T u && eqOk E.P 100 T u && !(E.P.eqGuardType E.P.depth T) && Nat.blt u.ht 100) = true →
        ∃ cs cs', a.eval x = .agg cs ∧ a.eval y = .agg cs' ∧ (∀ op, (eqGuard op T x y (a.eval x) (a.eval y)).run E.P w = .ok () w) ∧ (Op.equalIn 10000 T (.agg cs) (.agg cs')).run E.P w = .ok (eqD u p q) w := by
      intro hc
      simp only [Bool.and_eq_true, Bool.not_eq_true', Nat.blt_eq] at hc
      obtain ⟨⟨⟨⟨c1, c2⟩, c3⟩, c4⟩, c5⟩ := hc
      obtain ⟨cs, e1, h1⟩ := evx h hx
      obtain ⟨cs', e2, h2⟩ := evx h hy
      have hv : ∀ cs, toV u cs = .agg cs.toArray := by intro cs; simp [toV, c1]
      have e1 : a.eval x = .agg cs.toArray := by rw [hv] at e1; simpa using e1
      have e2 : a.eval y = .agg cs'.toArray := by rw [hv] at e2; simpa using e2
      refine ⟨_, _, e1, e2, fun op => by rw [e1, e2]; exact run_eqGuard_agg w op T x y _ _ c4, ?_⟩
      have := (run_eq (P := E.P) (w := w) (H := w.heap) (H' := w.heap) (S := S) (S' := S) u).1 (d := 10000) (chk_ok hE c2) c3 (by omega) h1 h2
      rwa [hv, hv] at this
    split
    · rename_i hc
      obtain ⟨cs, cs', e1, e2, hg, he⟩ := core hc
      refine OpOk.value (val := .bool (eqD u p q)) ?_ h VX.bool
      rw [run_binop ho (hg .eql) (r := .ok (.bool (eqD u p q)) w)]; rfl
      rw [e1, e2, run_eql_struct, he]; rfl
    · rename_i hc
      obtain ⟨cs, cs', e1, e2, hg, he⟩ := core hc
      refine OpOk.value (val := .bool (!(eqD u p q))) ?_ h VX.bool
      rw [run_binop ho (hg .neq) (r := .ok (.bool (!(eqD u p q))) w)]; rfl
      rw [e1, e2, run_neq_struct, he]; rfl
    · trivial
  · trivial

theorem binE_sound (hE : EnvOk E) (h : RS B S ι s a w) {o : Oper} {op : BinOp} {T T' : TypeId} {x y : Operand} (ho : o.op = .binOp op T x y T') : ORok E.P B o a w (binE E T op (s.ev x) (s.ev y) s) := by
  unfold binE
  split
  · rename_i e1 e2; exact eqA_sound hE h ho e1 e2
  · rename_i e1 e2; exact eqA_sound hE h ho e1 e2
  · exact binA_sound hE h ho

end
end Go.Ex
