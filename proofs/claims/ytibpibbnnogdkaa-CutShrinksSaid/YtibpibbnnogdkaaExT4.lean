import Derived.Test.YtibpibbnnogdkaaExT3
namespace Go.Ex

section
variable {E : Env} {B : Base} {S S' : Nat → Prop} {ι : Ix} {s : St} {a : Act} {w : World} {hp : List (Nat × Ent)} {H H' : Array Go.Obj}

/-- how a bound reads -/
def BndV (a : Act) (d n : Int) : Option Operand → Prop
  | none => n = d
  | some x => ∃ k, a.eval x = .int k n

theorem bnd_val (h : RS B S ι s a w) {d n : Int} {x : Option Operand} (hb : bnd s d x = some n) : BndV a d n x := by
  unfold bnd at hb
  split at hb
  · cases hb; rfl
  · rename_i x
    split at hb
    · rename_i k m hx
      cases hb
      exact ⟨k, (VX.int_inv (evx h hx)).1⟩
    · cases hb

theorem run_bound {P : Program} {k : IntKind} {n : Int} {y : Nat} {c : BoundsCode} (h0 : 0 ≤ n) (h1 : n ≤ y) : (Instr.sliceBound (.int k n) y c).run P w = .ok n.toNat w := by
  simp [Instr.sliceBound, asIntOf, h0, h1]

theorem run_bounds {P : Program} {isS : Bool} {len cap : Nat} {lo hi : Option Operand} {x y : Int} (h1 : BndV a 0 x lo) (h2 : BndV a (len : Int) y hi) (h0 : 0 ≤ x) (hxy : x ≤ y) (hy : y ≤ (len : Int)) (hc : len ≤ cap) :
    (Instr.sliceBounds isS len cap (lo.map a.eval) (hi.map a.eval) none).run P w = .ok (x.toNat, y.toNat, cap) w := by
  cases hi with
  | none =>
    have h2 : y = len := h2
    cases lo with
    | none =>
      have h1 : x = 0 := h1
      subst h1 h2
      simp [Instr.sliceBounds, Sem.run_pure]
    | some z =>
      obtain ⟨k, e⟩ := h1
      subst h2
      simp only [Instr.sliceBounds, Option.map_some, Option.map_none, e, Sem.run_bind, Sem.run_pure, Result.andThen_ok, run_bound h0 hxy, Int.toNat_natCast]
  | some z2 =>
    obtain ⟨k2, e2⟩ := h2
    have hb : ∀ c, (Instr.sliceBound (.int k2 y) cap c).run P w = .ok y.toNat w := fun c => run_bound (by omega) (by omega)
    cases lo with
    | none =>
      have h1 : x = 0 := h1
      subst h1
      simp [Instr.sliceBounds, e2, hb, Sem.run_pure]
    | some z =>
      obtain ⟨k, e⟩ := h1
      have hb2 : ∀ c, (Instr.sliceBound (.int k x) y.toNat c).run P w = .ok x.toNat w := fun c => run_bound h0 (by omega)
      simp only [Instr.sliceBounds, Option.map_some, Option.map_none, e, e2, Sem.run_bind, Sem.run_pure, Result.andThen_ok, hb, hb2]

/-- [:0:0] -/
theorem run_bounds3 {P : Program} {len cap : Nat} {lo : Option Operand} {x y : Operand} {k k' : IntKind} (h1 : BndV a 0 0 lo) (h2 : a.eval x = .int k 0) (h3 : a.eval y = .int k' 0) :
    (Instr.sliceBounds true len cap (lo.map a.eval) (some (a.eval x)) (some (a.eval y))).run P w = .ok (0, 0, 0) w := by
  have hb : ∀ (k : IntKind) (n : Nat) c, (Instr.sliceBound (.int k 0) n c).run P w = .ok 0 w := fun k n c => run_bound (n := 0) (by omega) (by omega)
  cases lo with
  | none => simp only [Instr.sliceBounds, Option.map_none, h2, h3, Sem.run_bind, hb, Sem.run_pure, Result.andThen_ok, if_true]
  | some z =>
    obtain ⟨k, e⟩ := h1
    simp only [Instr.sliceBounds, Option.map_some, e, h2, h3, Sem.run_bind, hb, Sem.run_pure, Result.andThen_ok, if_true]

theorem str_cut {y : List UInt8} {x z : Int} (h : 0 ≤ x) : (⟨y.toArray⟩ : ByteArray).extract x.toNat z.toNat = ⟨(cut2 x z y).toArray⟩ := by
  have : ((⟨y.toArray⟩ : ByteArray).extract x.toNat z.toNat).data = (cut2 x z y).toArray := by
    rw [ByteArray.data_extract]
    simp only [List.extract_toArray, List.extract_eq_take_drop, cut2]
    congr 2
    omega
  exact congrArg ByteArray.mk this

theorem cut2_le {α : Type} {x z : Int} {l : List α} : (cut2 x z l).length ≤ l.length := by simp only [cut2, List.length_take, List.length_drop]; omega

theorem run_slice {P : Program} {T : TypeId} {k : Nat} {q : Bool} {t : Ty} (hT : tyOk P k T (.slc q t) = true) {A : Option Addr} {len cap : Nat} {lo hi : Option Operand} {x y : Int} (h1 : BndV a 0 x lo) (h2 : BndV a (len : Int) y hi) (h0 : 0 ≤ x) (hxy : x ≤ y) (hy : y ≤ (len : Int)) (hc : len ≤ cap) :
    (Instr.sliceAt T (.slice A len cap) (lo.map a.eval) (hi.map a.eval) none).run P w = .ok (.slice (if cap = x.toNat then A else A.map (·.add (x.toNat * t.size))) (y.toNat - x.toNat) (cap - x.toNat)) w := by
  obtain ⟨et, k', e1, e2, e3⟩ := tyOk_slc hT
  simp only [Instr.sliceAt, Instr.slice, Sem.run_bind, run_under e1, Result.andThen_ok, run_bounds h1 h2 h0 hxy hy hc, run_sizeOf e3, Sem.run_pure]

theorem sliceA_sound (hE : EnvOk E) (h : RS B S ι s a w) {o : Oper} {T : TypeId} {x : Operand} {lo hi mx : Option Operand} (ho : o.op = .slice T x lo hi mx) : ORok E.P B o a w (sliceA E T (s.ev x) lo hi mx s) := by
  have he : execOp a.eval o = (do pure (.value (← Instr.sliceAt T (a.eval x) (lo.map a.eval) (hi.map a.eval) (mx.map a.eval)))) := by simp [execOp, ho]
  unfold sliceA
  split
  · trivial
  · rename_i m hlo
    have h1 := bnd_val h hlo
    -- [:0:0]
    have nil3 : ∀ {q : Bool} {t : Ty} {A : Option Addr} {len cap : Nat} {c n : Int}, chk E T (.slc q t) = true → hi.isSome = true → (∃ z, mx = some z) → bnd s 0 mx = some c → (bnd s (len : Int) hi = some n) → a.eval x = .slice A len cap → m = 0 ∧ n = 0 ∧ c = 0 →
        OpOk E.P B o a w (.val (.slc true t) ([] : List t.den)) s := by
      rintro q t A len cap c n hck hh ⟨z, rfl⟩ hm hb hv ⟨rfl, rfl, rfl⟩
      cases hi with
      | none => cases hh
      | some y =>
        obtain ⟨k1, e1⟩ := bnd_val h hb
        obtain ⟨k2, e2⟩ := bnd_val h hm
        obtain ⟨et, k', f1, f2, f3⟩ := tyOk_slc (chk_ok hE hck)
        refine OpOk.value (val := .slice A 0 0) ?_ h ⟨[.slice A 0 0], rfl, .inl ⟨rfl, ⟨A, 0, rfl, fun _ => rfl⟩, rfl⟩⟩
        rw [he]
        simp only [Option.map_some, hv, Instr.sliceAt, Instr.slice, Sem.run_bind, run_under f1, Result.andThen_ok, run_bounds3 h1 e1 e2, run_sizeOf f3, Sem.run_pure]
        simp
    split
    · rename_i y hx
      split
      · rename_i n hb
        split
        · rename_i hck
          rintro ⟨g1, g2, g3⟩
          obtain ⟨hv, hl⟩ := VX.str_inv (evx h hx)
          have hu := tyOk_str (chk_ok hE hck)
          refine OpOk.value (val := .string ⟨(cut2 m n y).toArray⟩) ?_ h (VX.str (Nat.le_trans cut2_le hl))
          rw [he]
          have hsz : (⟨y.toArray⟩ : ByteArray).size = List.length y := rfl
          simp only [hv, Option.map_none, Instr.sliceAt, Instr.slice, Sem.run_bind, run_under hu, Result.andThen_ok, hsz]
          simp only [Option.isSome_none, Bool.false_eq_true, if_false, run_bounds (isS := false) h1 (bnd_val h hb) g1 g2 g3 (Nat.le_refl _), Sem.run_pure, Result.andThen_ok, Sem.run_bind, str_cut g1]
        · trivial
      · trivial
    · rename_i t y hx
      obtain ⟨cs, e, hR⟩ := evx h hx
      split
      · rename_i n hb
        split
        · rename_i hck
          rintro ⟨g1, g2, g3⟩
          have key : ∀ {A : Option Addr} {cap : Nat}, a.eval x = .slice A (List.length y) cap → List.length y ≤ cap → (∃ cs', Value.slice (if cap = m.toNat then A else A.map (·.add (m.toNat * t.size))) (n.toNat - m.toNat) (cap - m.toNat) = toV (.slc false t) cs' ∧ Rep w.heap S (.slc false t) [] cs' (cut2 m n y)) →
              OpOk E.P B o a w (.val (.slc false t) (cut2 m n y)) s := by
            rintro A cap hv hc ⟨cs', e1, e2⟩
            refine OpOk.value (val := toV (.slc false t) cs') ?_ h ⟨cs', rfl, e2⟩
            rw [he, hv, ← e1]
            simp only [Option.map_none, Sem.run_bind, run_slice (chk_ok hE hck) h1 (bnd_val h hb) g1 g2 g3 hc, Result.andThen_ok, Sem.run_pure]
          have hlen : (cut2 m n y).length = (n - m).toNat := cut2_length g1 g3
          rcases hR with ⟨_, ⟨A, c, rfl, _⟩, rfl⟩ | ⟨b1, o1, cap, O', rfl, c2, c3, c4, c5, c6, rfl, c7⟩
          · have hn : n = 0 := by have : n ≤ ((([] : List t.den).length : Nat) : Int) := g3; simp at this; omega
            have hm0 : m = 0 := by omega
            subst hn hm0
            exact key (A := A) (cap := c) (by simpa [toV, Ty.agg] using e) (by simp) ⟨[_], rfl, .inl ⟨rfl, ⟨_, _, rfl, by simp⟩, by simp [cut2]⟩⟩
          · refine key (A := some ⟨b1, o1, none⟩) (cap := cap) (by simpa [toV, Ty.agg] using e) c2 ⟨[_], rfl, ?_⟩
            by_cases hz : cut2 m n y = []
            · have : n.toNat - m.toNat = 0 := by rw [hz] at hlen; simp at hlen; omega
              rw [this]
              exact .inl ⟨rfl, ⟨_, _, rfl, by simp⟩, hz⟩
            · have hpos : 0 < (n - m).toNat := by rw [← hlen]; exact List.length_pos_iff.2 hz
              obtain ⟨P1, P2, P3, e1, g⟩ := c5.cut m.toNat (n - m).toNat
              have hP : P2 = [] := by have := e1.symm; simp at this; exact this.2.1
              subst hP
              have hle : m.toNat * t.size + (n - m).toNat * t.size ≤ List.length y * t.size := by rw [← Nat.add_mul]; exact Nat.mul_le_mul_right _ (by omega)
              rw [cellsAt_drop, cellsAt_take _ _ _ _ (by omega)] at g
              refine .inr ⟨b1, o1 + m.toNat * t.size, cap - m.toNat, [], ?_, by rw [hlen]; omega, ⟨by have := c3.1; omega, by simp⟩, by rw [hlen]; omega, by rw [hlen]; exact g, rfl, rfl, c7⟩
              rw [if_neg (by omega), Option.map_some, Addr.add_none, hlen, show n.toNat - m.toNat = (n - m).toNat from by omega]
        · trivial
      · rename_i z hb
        split
        · rename_i c hck hc
          simp only [Bool.and_eq_true] at hck
          intro hp
          obtain ⟨A, c, e1, _⟩ := slc_val hR
          exact nil3 hck.1 hck.2 ⟨_, rfl⟩ hc hb (by rw [show a.eval x = toV (.slc false t) cs by simpa using e]; exact e1) hp
        · trivial
      · trivial
    · rename_i i p hx
      obtain ⟨e, u, y0, cs, k1, k2, k3, k4, k5⟩ := evx h hx
      have k5 : a.eval x = toV u cs := by simpa using k5
      split
      · rename_i t y hpt
        have hg := part_of k1 hpt
        rw [k3] at hg; cases hg
        obtain ⟨O2, m1, m2, m3⟩ := sub_rep h.hs k1 k2 k3 k4
        have hform : ∃ A cap, cs = [.slice A (List.length y) cap] ∧ List.length y ≤ cap := by
          rcases m3 with ⟨_, ⟨A, c, rfl, _⟩, rfl⟩ | ⟨b1, o1, cap, O', rfl, c2, _⟩
          · exact ⟨A, c, rfl, by simp⟩
          · exact ⟨_, cap, rfl, c2⟩
        obtain ⟨A, cap, rfl, hc⟩ := hform
        have k5 : a.eval x = .slice A (List.length y) cap := k5
        split
        · rename_i n hb
          split
          · rename_i hck
            rintro ⟨g1, g2, g3⟩
            refine OpOk.value (val := .slice (if cap = m.toNat then A else A.map (·.add (m.toNat * t.size))) (n.toNat - m.toNat) (cap - m.toNat)) ?_ h ⟨e, _, k1, k2, rfl, g1, g2, .inl ⟨t, y, A, cap, k3, g3, k4, _, _, by rw [show (n - m).toNat = n.toNat - m.toNat from by omega], fun hne => by rw [if_neg (by omega)], by omega, by omega⟩⟩
            rw [he, k5]
            simp only [Option.map_none, Sem.run_bind, run_slice (chk_ok hE hck) h1 (bnd_val h hb) g1 g2 g3 hc, Result.andThen_ok, Sem.run_pure]
          · trivial
        · rename_i z hb
          split
          · rename_i c hck hc'
            simp only [Bool.and_eq_true] at hck
            intro hp
            exact nil3 hck.1 hck.2 ⟨_, rfl⟩ hc' hb k5 hp
          · trivial
        · trivial
      · trivial
    · rename_i i p a0 b0 hx
      split
      · rename_i t y hvw
        split
        · rename_i n hb
          split
          · rename_i hck
            rintro ⟨g1, g2, g3⟩
            obtain ⟨e, v, k1, k2, k3, k4, k5, k6⟩ := evx h hx
            have k3 : a.eval x = v := by simpa using k3
            have core : ∀ {sz : Nat} {A0 : Option Addr} {cap : Nat} , sz = t.size → SubV sz A0 cap a0 b0 v → ∃ val, (execOp a.eval o).run E.P w = .ok (.value val) w ∧ SubV sz A0 cap (a0 + m) (a0 + n) val := by
              rintro sz A0 cap rfl ⟨c, A, e1, e2, e3, e4⟩
              refine ⟨.slice (if c = m.toNat then A else A.map (·.add (m.toNat * t.size))) (n.toNat - m.toNat) (c - m.toNat), ?_, _, _, by rw [show (a0 + n - (a0 + m)).toNat = n.toNat - m.toNat from by omega], ?_, by omega, by omega⟩
              · rw [he, k3, e1]
                have hb' : bnd s (((b0 - a0).toNat : Nat) : Int) hi = some n := by rw [Int.toNat_of_nonneg (by omega)]; exact hb
                simp only [Option.map_none, Sem.run_bind, run_slice (chk_ok hE hck) h1 (bnd_val h hb') g1 g2 (by omega) e3, Result.andThen_ok, Sem.run_pure]
              · intro hne
                rw [if_neg (by omega), e2 (by omega), Option.map_map, show (a0 + m).toNat = a0.toNat + m.toNat from by omega]
                congr 1
                funext ad
                have hadd : ∀ x y : Nat, (ad.add x).add y = ad.add (x + y) := by
                  intro x y
                  unfold Addr.add
                  by_cases hx : x = 0 <;> by_cases hy : y = 0 <;> simp [hx, hy, Nat.add_assoc]
                simp only [Function.comp, Nat.add_mul, hadd]
            rcases k6 with ⟨t', l, A, cap, q1, q2, q3, q4⟩ | ⟨n', t', l, b2, off2, q1, q2, q3, q4⟩
            · have hp : s.part i p = some ⟨.slc true t', l⟩ := by unfold St.part St.obj; rw [k1]; exact q1
              unfold St.view at hvw
              rw [hp] at hvw
              simp only [Option.some.injEq, Sigma.mk.injEq] at hvw
              obtain ⟨rfl, _⟩ := hvw
              obtain ⟨val, r1, r2⟩ := core rfl q4
              exact OpOk.value r1 h ⟨e, val, k1, k2, rfl, by omega, by omega, .inl ⟨t', l, A, cap, q1, by omega, q3, r2⟩⟩
            · have hp : s.part i p = some ⟨.arr n' t', l⟩ := by unfold St.part St.obj; rw [k1]; exact q1
              unfold St.view at hvw
              rw [hp] at hvw
              simp only [Option.some.injEq, Sigma.mk.injEq] at hvw
              obtain ⟨rfl, _⟩ := hvw
              obtain ⟨val, r1, r2⟩ := core rfl q4
              exact OpOk.value r1 h ⟨e, val, k1, k2, rfl, by omega, by omega, .inr ⟨n', t', l, b2, off2, q1, ⟨by omega, q2.2⟩, q3, r2⟩⟩
          · trivial
        · trivial
      · trivial
    · rename_i i p hx
      obtain ⟨e, b, off, k1, k2, k3, k4⟩ := evx h hx
      have k4 : a.eval x = .pointer (some ⟨b, off, none⟩) := by simpa using k4
      split
      · rename_i N t y hpt
        have hg := part_of k1 hpt
        split
        · rename_i n hb
          split
          · rename_i hck
            simp only [Bool.and_eq_true, Nat.ble_eq] at hck
            rintro ⟨g1, g2, g3⟩
            have hb2 := run_bounds (P := E.P) (w := w) (isS := false) h1 (bnd_val h hb) g1 g2 g3 (Nat.le_refl _)
            refine OpOk.value (val := .slice (some (if N = m.toNat then ⟨b, off, none⟩ else (⟨b, off, none⟩ : Addr).add (m.toNat * t.size))) (n.toNat - m.toNat) (N - m.toNat)) ?_ h ⟨e, _, k1, k2, rfl, g1, g2, .inr ⟨N, t, y, b, off, hg, ⟨g3, by have := hck.2; unfold maxLen; omega⟩, k3, _, _, by rw [show (n - m).toNat = n.toNat - m.toNat from by omega], fun hne => by rw [if_neg (by omega)]; rfl, by omega, by omega⟩⟩
            rw [he, k4]
            have hc := hck.1
            unfold sliceA.chkP at hc
            split at hc
            · rename_i A hT
              obtain ⟨et, k', f1, f2, f3⟩ := tyOk_arr (chk_ok hE hc)
              simp only [Option.map_none, Instr.sliceAt, Instr.slice, Sem.run_bind, run_under hT, run_under f1, asAddr, hb2, Result.andThen_ok, Sem.run_pure, run_sizeOf f3]
            · obtain ⟨et, k', f1, f2, f3⟩ := tyOk_arr (chk_ok hE hc)
              simp only [Option.map_none, Instr.sliceAt, Sem.run_bind, run_under f1, Instr.sureAddr, hb2, Result.andThen_ok, Sem.run_pure, run_sizeOf f3]
            · cases hc
          · trivial
        · trivial
      · trivial
    · trivial

end
end Go.Ex
