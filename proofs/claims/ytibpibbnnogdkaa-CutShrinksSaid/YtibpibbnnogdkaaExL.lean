import Derived.Test.YtibpibbnnogdkaaExK
namespace Go.Ex

section
variable {E : Env} {B : Base} {S : Nat → Prop} {ι : Ix} {s : St} {a : Act} {w : World} {hp : List (Nat × Ent)} {H H' : Array Go.Obj}

theorem no_idx {α : Type} {n : Int} (h : 0 ≤ n ∧ n < (([] : List α).length : Int)) : False := by
  simp at h; omega

theorem evx {x : Operand} (h : RS B S ι s a w) {v : AV} (e : s.ev x = v) : VX w.heap S ι s.hp v [a.eval x] := e ▸ h.ev x

theorem exec_val {P : Program} {o : Oper} {sem : Sem Value} (he : execOp a.eval o = (do pure (.value (← sem)))) (h : RS B S ι s a w) {v : AV} {val : Value} (hr : sem.run P w = .ok val w)
    (hv : VX w.heap S ι s.hp v [val]) : OpOk P B o a w v s := OpOk.value (exec_value he hr) h hv

theorem ent_of {i : Nat} {e e' : Ent} (h1 : look i s.hp = some e) (h : s.obj i = some e') : e' = e := by
  rw [St.obj, h1] at h; cases h; rfl


/-- a part that is spoken of: what it owns, and what it holds -/
theorem sub_rep (h : HS B S ι hp w) {i : Nat} {e : Ent} (hi : look i hp = some e) {p : List Step} (hok : okP e.ty e.x p) {u : Ty} {y : u.den} (hg : getP e.ty e.x p = some ⟨u, y⟩) {cs : List Value} (hc : Cells w.heap ι i e p u cs) :
    ∃ O2, (∀ c ∈ O2, c ∈ ι.own i) ∧ O2.Nodup ∧ Rep w.heap S u O2 cs y := by
  obtain ⟨b, off, O2, k1, k2, k3, k4, _⟩ := (h.ob i e hi).part (Cells_bag hc) h.slt hok hg
  obtain ⟨b', off', h1, rfl⟩ := hc
  rw [k1] at h1; cases h1
  exact ⟨O2, k2, k3, k4⟩

theorem own_blks {i : Nat} {e : Ent} {c : Nat} (h : c ∈ ι.own i) : c ∈ blks ι i e := by cases e <;> simp [blks, h]

theorem RepL.take {α : Type} {R : List Nat → List Value → α → Prop} {sz : Nat} : ∀ {l : List α} {O : List Nat} {cs : List Value} (k : Nat), RepL R sz O cs l → ∃ O1 O2, O = O1 ++ O2 ∧ RepL R sz O1 (cs.take (k * sz)) (l.take k) ∧ RepL R sz O2 (cs.drop (k * sz)) (l.drop k)
  | l, O, cs, 0, h => ⟨[], O, rfl, by simp [RepL], by simpa using h⟩
  | [], O, cs, k + 1, ⟨h1, h2⟩ => ⟨[], [], by simp [h1], by simp [RepL, h2], by simp [RepL, h2]⟩
  | x :: l, O, cs, k + 1, ⟨O1, O2, e, h1, h2⟩ => by
    obtain ⟨P1, P2, e', g1, g2⟩ := RepL.take k h2
    refine ⟨O1 ++ P1, P2, by rw [e, e', List.append_assoc], ⟨O1, P1, rfl, ?_, ?_⟩, ?_⟩
    · rw [List.take_take, Nat.min_eq_left (by rw [Nat.succ_mul]; omega)]; exact h1
    · rw [List.drop_take, show (k + 1) * sz - sz = k * sz from by rw [Nat.succ_mul]; omega]; exact g1
    · rw [List.drop_drop, show sz + k * sz = (k + 1) * sz from by rw [Nat.succ_mul]; omega] at g2
      exact g2

theorem RepL.cut {α : Type} {R : List Nat → List Value → α → Prop} {sz : Nat} {l : List α} {O : List Nat} {cs : List Value} (a n : Nat) (h : RepL R sz O cs l) : ∃ O1 O2 O3, O = O1 ++ (O2 ++ O3) ∧ RepL R sz O2 ((cs.drop (a * sz)).take (n * sz)) ((l.drop a).take n) := by
  obtain ⟨O1, O2, e, _, h2⟩ := h.take a
  obtain ⟨P1, P2, e', g1, _⟩ := h2.take n
  exact ⟨O1, P1, P2, by rw [e, e'], g1⟩

theorem cut2_length {α : Type} {lo hi : Int} {l : List α} (h0 : 0 ≤ lo) (h2 : hi ≤ (l.length : Int)) : (cut2 lo hi l).length = (hi - lo).toNat := by
  simp only [cut2, List.length_take, List.length_drop]
  omega

/-- what lent blocks are -/
def LB (S : Nat → Prop) (ι : Ix) (hp : List (Nat × Ent)) (b : Nat) : Prop := S b ∨ ∃ i e, look i hp = some e ∧ b ∈ blks ι i e

/-- the elements of a slice: where they lie -/
def ElsAt (H : Array Go.Obj) (S : Nat → Prop) (t : Ty) (l : List t.den) (A : Option Addr) (L : Nat → Prop) : Prop :=
  l = [] ∨ ∃ b off O, A = some ⟨b, off, none⟩ ∧ L b ∧ off + l.length * t.size ≤ (blk H b).length ∧ RepL (Rep H S t) t.size O (cellsAt H b off (l.length * t.size)) l ∧ ∀ c ∈ O, L c

/-- a view's elements -/
theorem sub_els (h : HS B S ι s.hp w) {i : Nat} {p : List Step} {lo hi : Int} {v : Value} (hv : VX w.heap S ι s.hp (.sub i p lo hi) [v]) {t : Ty} {l : List t.den} (hw : s.view i p lo hi = some ⟨t, l⟩) :
    ∃ A c, v = .slice A l.length c ∧ ElsAt w.heap S t l A (LB S ι s.hp) ∧ (l.length : Int) = hi - lo ∧ 0 ≤ lo ∧ lo ≤ hi ∧ ∃ e, look i s.hp = some e ∧ okP e.ty e.x p ∧
      (l ≠ [] → ∃ b off, A = some ⟨b, off, none⟩ ∧ ∀ n : Int, 0 ≤ n → n < l.length → ∃ off2, Loc w.heap ι i e (p ++ [.idx (lo + n)]) = some (b, off2) ∧ off2 = off + n.toNat * t.size ∧ okP e.ty e.x (p ++ [.idx (lo + n)])) := by
  obtain ⟨e, v', h1, h2, h3, h4, h5, h6⟩ := hv
  cases h3
  have hob := h.ob i e h1
  unfold St.view at hw
  rcases h6 with ⟨t', l', a, cap, k1, k2, k3, c, A, k4, kA, k5, k6⟩ | ⟨n, t', l', b, off, k1, ⟨k2, k2'⟩, k3, c, A, k4, kA, k5, k6⟩
  · have hp : s.part i p = some ⟨.slc true t', l'⟩ := by unfold St.part St.obj; rw [h1]; exact k1
    rw [hp] at hw
    simp only [Option.some.injEq, Sigma.mk.injEq] at hw
    obtain ⟨rfl, hw⟩ := hw
    have hw := eq_of_heq hw
    subst hw
    have hlen : (cut2 lo hi l').length = (hi - lo).toNat := cut2_length h4 k2
    refine ⟨_, c, by rw [hlen]; exact k4, ?_, by omega, h4, h5, e, h1, h2, ?_⟩
    · by_cases hz : cut2 lo hi l' = []
      · exact .inl hz
      · obtain ⟨O2, m1, m2, m3⟩ := sub_rep h h1 h2 k1 k3
        rcases m3 with ⟨_, _, hn⟩ | ⟨b1, o1, cap', O', c1, c2, c3, c4, c5, rfl, c7⟩
        · exfalso; apply hz; rw [hn]; simp [cut2]
        · simp only [List.cons.injEq, Value.slice.injEq, and_true] at c1
          obtain ⟨rfl, _, rfl⟩ := c1
          have hpos : 0 < (hi - lo).toNat := by rw [← hlen]; exact List.length_pos_iff.2 hz
          obtain ⟨P1, P2, P3, e1, g⟩ := c5.cut lo.toNat (hi - lo).toNat
          have hle : lo.toNat * t'.size + (hi - lo).toNat * t'.size ≤ List.length l' * t'.size := by rw [← Nat.add_mul]; exact Nat.mul_le_mul_right _ (by omega)
          rw [cellsAt_drop, cellsAt_take _ _ _ _ (by omega)] at g
          refine .inr ⟨b1, o1 + lo.toNat * t'.size, P2, ?_, .inr ⟨i, e, h1, own_blks (m1 b1 (by simp))⟩, ?_, by rw [hlen]; exact g, fun c hc => .inr ⟨i, e, h1, own_blks (m1 c (by rw [e1]; simp [hc]))⟩⟩
          · rw [kA (by omega), Option.map_some, Addr.add_none]
          · rw [hlen]; omega
    · intro hz
      obtain ⟨O2, m1, m2, m3⟩ := sub_rep h h1 h2 k1 k3
      rcases m3 with ⟨_, _, hn⟩ | ⟨b1, o1, cap', O', c1, c2, c3, c4, c5, rfl, c7⟩
      · exfalso; apply hz; rw [hn]; simp [cut2]
      · simp only [List.cons.injEq, Value.slice.injEq, and_true] at c1
        obtain ⟨rfl, _, rfl⟩ := c1
        have hpos : 0 < (hi - lo).toNat := by rw [← hlen]; exact List.length_pos_iff.2 hz
        refine ⟨b1, o1 + lo.toNat * t'.size, by rw [kA (by omega), Option.map_some, Addr.add_none], fun n hn0 hn => ?_⟩
        obtain ⟨b0, off0, q1, q2⟩ := k3
        have hh := (cellsAt_one b0 off0 _).1 q2.symm
        refine ⟨o1 + (lo + n).toNat * t'.size, Loc_of (Place_append k1 q1 ?_) c7.lt, by rw [show (lo + n).toNat = lo.toNat + n.toNat from by omega, Nat.add_mul]; omega, ok_append k1 h2 ⟨⟨by omega, by omega⟩, okP_nil⟩⟩
        simp only [Nav, hh, Nav_nil]
  · have hp : s.part i p = some ⟨.arr n t', l'⟩ := by unfold St.part St.obj; rw [h1]; exact k1
    rw [hp] at hw
    simp only [Option.some.injEq, Sigma.mk.injEq] at hw
    obtain ⟨rfl, hw⟩ := hw
    have hw := eq_of_heq hw
    subst hw
    obtain ⟨O2, m1, m2, m3, m4, m5, m6⟩ := Loc_mem (Loc_bag k3) hob h.slt h2 k1 k3
    obtain ⟨hl, m3⟩ := m3
    have hlen : (cut2 lo hi l').length = (hi - lo).toNat := cut2_length h4 (by rw [hl]; exact k2)
    refine ⟨_, c, by rw [hlen]; exact k4, ?_, by omega, h4, h5, e, h1, h2, ?_⟩
    · by_cases hz : cut2 lo hi l' = []
      · exact .inl hz
      · have hpos : 0 < (hi - lo).toNat := by rw [← hlen]; exact List.length_pos_iff.2 hz
        obtain ⟨P1, P2, P3, e1, g⟩ := m3.cut lo.toNat (hi - lo).toNat
        have hle : lo.toNat * t'.size + (hi - lo).toNat * t'.size ≤ n * t'.size := by rw [← Nat.add_mul]; exact Nat.mul_le_mul_right _ (by omega)
        simp only [Ty.size] at g m4
        rw [cellsAt_drop, cellsAt_take _ _ _ _ (by omega)] at g
        refine .inr ⟨b, off + lo.toNat * t'.size, P2, ?_, .inr ⟨i, e, h1, m5⟩, ?_, by rw [hlen]; exact g, fun c hc => .inr ⟨i, e, h1, own_blks (m1 c (by rw [e1]; simp [hc]))⟩⟩
        · rw [kA (by omega), Option.map_some, Addr.add_none]
        · rw [hlen]; omega
    · intro hz
      have hpos : 0 < (hi - lo).toNat := by rw [← hlen]; exact List.length_pos_iff.2 hz
      refine ⟨b, off + lo.toNat * t'.size, by rw [kA (by omega), Option.map_some, Addr.add_none], fun m hm0 hm => ?_⟩
      refine ⟨off + (lo + m).toNat * t'.size, Loc_append k1 k3 (fun G => by simp only [Nav, Nav_nil]), by rw [show (lo + m).toNat = lo.toNat + m.toNat from by omega, Nat.add_mul]; omega, ok_append k1 h2 ⟨⟨by omega, by omega⟩, okP_nil⟩⟩

theorem slc_els {H : Array Go.Obj} {o : Bool} {t : Ty} {O : List Nat} {cs : List Value} {l : (Ty.slc o t).den} (hR : Rep H S (.slc o t) O cs l) {L : Nat → Prop} (hO : ∀ c ∈ O, L c) (hS : ∀ c, S c → L c) :
    ∃ A c, toV (.slc o t) cs = .slice A (List.length l) c ∧ ElsAt H S t l A L := by
  rcases hR with ⟨_, ⟨a, c, rfl, _⟩, hn⟩ | ⟨b1, o1, cap', O', rfl, c2, c3, c4, c5, c6⟩
  · have : List.length l = 0 := by rw [hn]; rfl
    exact ⟨a, c, by rw [this]; rfl, .inl hn⟩
  · refine ⟨_, _, rfl, .inr ⟨b1, o1, O', rfl, ?_, c4, c5, ?_⟩⟩
    · cases o with
      | true => exact hO b1 (by rw [c6.1]; simp)
      | false => exact hS b1 c6.2.2
    · cases o with
      | true => intro c hc; exact hO c (by rw [c6.1]; simp [hc])
      | false => intro c hc; rw [c6.2.1] at hc; cases hc

/-- a slice's elements, however it is spoken of -/
theorem els_rep (h : HS B S ι s.hp w) {v : AV} {val : Value} (hv : VX w.heap S ι s.hp v [val]) {t : Ty} {l : List t.den} (hw : v.els s = some ⟨t, l⟩) : ∃ A c, val = .slice A l.length c ∧ ElsAt w.heap S t l A (LB S ι s.hp) := by
  unfold AV.els at hw
  split at hw
  · rename_i o t' l'
    simp only [Option.some.injEq, Sigma.mk.injEq] at hw
    obtain ⟨rfl, hw⟩ := hw
    have hw := eq_of_heq hw
    subst hw
    obtain ⟨cs, e, hR⟩ := hv
    have e : val = toV (.slc o t') cs := by simpa using e
    obtain ⟨A, c, k1, k2⟩ := slc_els hR (L := LB S ι s.hp) (by simp) (fun c hc => .inl hc)
    exact ⟨A, c, e.trans k1, k2⟩
  · rename_i i p
    split at hw
    · rename_i o t' l' hp
      simp only [Option.some.injEq, Sigma.mk.injEq] at hw
      obtain ⟨rfl, hw⟩ := hw
      have hw := eq_of_heq hw
      subst hw
      obtain ⟨e, u, y, cs, h1, h2, h3, h4, h5⟩ := hv
      have hg := part_of h1 hp
      rw [h3] at hg; cases hg
      have h5 : val = toV (.slc o t') cs := by simpa using h5
      obtain ⟨O2, m1, m2, m3⟩ := sub_rep h h1 h2 h3 h4
      obtain ⟨A, c, k1, k2⟩ := slc_els m3 (L := LB S ι s.hp) (fun c hc => .inr ⟨i, e, h1, own_blks (m1 c hc)⟩) (fun c hc => .inl hc)
      exact ⟨A, c, h5.trans k1, k2⟩
    · cases hw
  · obtain ⟨A, c, k1, k2, _⟩ := sub_els h hv hw
    exact ⟨A, c, k1, k2⟩
  · cases hw

theorem fieldAddr_sound (hE : EnvOk E) (h : RS B S ι s a w) {o : Oper} {T : TypeId} {x : Operand} {n : Nat} (ho : o.op = .fieldAddr T x n) : ORok E.P B o a w (aop E o s) := by
  have he : execOp a.eval o = (do pure (.value (← Instr.fieldAt T (a.eval x) n))) := by simp [execOp, ho]
  unfold aop
  rw [ho]
  simp only
  split
  · rename_i i p hx
    split
    · rename_i u z hpt
      split
      · rename_i r hc hg2
        obtain ⟨e, b, off, h1, h2, h3, h4⟩ := evx h hx
        have hg := part_of h1 hpt
        have h4 : a.eval x = .pointer (some ⟨b, off, none⟩) := by simpa using h4
        obtain ⟨u2, z2⟩ := r
        exact exec_val he h (by rw [h4]; exact run_fieldAt (chk_ok hE hc) hg2 b off) ⟨e, b, off + offF u n, h1, ok_append hg h2 (ok_fld hg2), Loc_append hg h3 (fun G => Nav_fld hg2), rfl⟩
      · trivial
    · trivial
  · rename_i t y hx
    split
    · rename_i u z hc hg
      obtain ⟨b, off, e, h1, h2, h3⟩ := evx h hx
      have e : a.eval x = .pointer (some ⟨b, off, none⟩) := by simpa using e
      have hok := ok_fld hg
      obtain ⟨O1, O2, b', off', e1, e2, e3, e4, e5, e6⟩ := focus h3 h2 hok hg
      have hO : O1 = [] ∧ O2 = [] := by have := e1.nil_eq; simpa using this.symm
      rw [Nav_fld hg] at e3; cases e3
      refine exec_val he h (by rw [e]; exact run_fieldAt (chk_ok hE hc) hg b off) ⟨b, off + offF t n, rfl, h1, e5, ?_⟩
      rw [hO.2] at e4; exact e4
    · trivial
  · trivial

theorem indexAddr_sound (hE : EnvOk E) (h : RS B S ι s a w) {o : Oper} {T : TypeId} {x y : Operand} (ho : o.op = .indexAddr T x y) : ORok E.P B o a w (aop E o s) := by
  have he : execOp a.eval o = (do pure (.value (← Instr.indexAt T (a.eval x) (a.eval y)))) := by simp [execOp, ho]
  unfold aop
  rw [ho]
  simp only
  split
  · rename_i d p k n hx hy
    split
    · rename_i m u z hpt
      split
      · rename_i hc
        intro hn
        obtain ⟨e, b, off, h1, h2, h3, h4⟩ := evx h hx
        have hg := part_of h1 hpt
        have h4 : a.eval x = .pointer (some ⟨b, off, none⟩) := by simpa using h4
        obtain ⟨hyv, _⟩ := VX.int_inv (evx h hy)
        exact exec_val he h (by rw [h4, hyv]; exact run_indexAt_arr (chk_ok hE hc) b off hn) ⟨e, b, off + n.toNat * u.size, h1, ok_append hg h2 ⟨hn, okP_nil⟩, Loc_append hg h3 (fun G => by simp only [Nav, Nav_nil]), rfl⟩
      · trivial
    · trivial
  · rename_i m t z k n hx hy
    split
    · rename_i hc
      intro hn
      obtain ⟨b, off, e, h1, h2, h3⟩ := evx h hx
      have e : a.eval x = .pointer (some ⟨b, off, none⟩) := by simpa using e
      obtain ⟨hyv, _⟩ := VX.int_inv (evx h hy)
      have hok : okP (.arr m t) z [.idx n] := ⟨hn, by cases t <;> trivial⟩
      have hg : getP (.arr m t) z [.idx n] = some ⟨t, List.getD z (Int.toNat n) t.dflt⟩ := by simp only [getP]
      obtain ⟨O1, O2, b', off', e1, e2, e3, e4, e5, e6⟩ := focus h3 h2 hok hg
      have hO : O1 = [] ∧ O2 = [] := by have := e1.nil_eq; simpa using this.symm
      have e3' : Nav w.heap (.arr m t) [.idx n] b off = some (b, off + Int.toNat n * t.size) := by simp only [Nav]
      rw [e3'] at e3; cases e3
      refine exec_val he h (by rw [e, hyv]; exact run_indexAt_arr (chk_ok hE hc) b off hn) ⟨b, off + Int.toNat n * t.size, rfl, h1, e5, ?_⟩
      rw [hO.2] at e4; exact e4
    · trivial
  · rename_i t z k n hx hy
    split
    · rename_i hc
      intro hn
      obtain ⟨cs, e, hR⟩ := evx h hx
      have e : a.eval x = toV (.slc false t) cs := by simpa using e
      obtain ⟨hyv, _⟩ := VX.int_inv (evx h hy)
      rcases hR with ⟨_, _, hz⟩ | ⟨b1, o1, cap, O', c1, c2, c3, c4, c5, c6, c7, c8⟩
      · subst hz; exact (no_idx hn).elim
      · have hxv : a.eval x = .slice (some ⟨b1, o1, none⟩) (List.length z) cap := by rw [e, c1]; rfl
        obtain ⟨b1', b2, b3, b4⟩ := idx_bound (sz := t.size) hn
        obtain ⟨P1, P2, P3, e1, g1, g2, g3⟩ := RepL.split (d := t.dflt) (i := Int.toNat n) b1' c5
        have hle : t.size ≤ List.length z * t.size - Int.toNat n * t.size := by omega
        rw [cellsAt_drop, cellsAt_take _ _ _ _ hle] at g2
        have hP : P2 = [] := by rw [c7] at e1; have := List.append_eq_nil_iff.1 e1.symm; exact (List.append_eq_nil_iff.1 this.2).1
        refine exec_val he h (by rw [hxv, hyv]; exact run_indexAt_slc (chk_ok hE hc) b1 o1 _ cap hn) ⟨b1, o1 + Int.toNat n * t.size, rfl, c8, by omega, ?_⟩
        rw [hP] at g2; exact g2
    · trivial
  · rename_i d p k n hx hy
    split
    · rename_i u z hpt
      split
      · rename_i hc
        intro hn
        obtain ⟨e, u', y', cs, h1, h2, h3, h4, h5⟩ := evx h hx
        have hg := part_of h1 hpt
        rw [h3] at hg; cases hg
        obtain ⟨hyv, _⟩ := VX.int_inv (evx h hy)
        have h5 : a.eval x = toV (.slc true u) cs := by simpa using h5
        obtain ⟨O2, m1, m2, m3⟩ := sub_rep h.hs h1 h2 h3 h4
        rcases m3 with ⟨_, _, hz⟩ | ⟨b1, o1, cap, O', rfl, c2, c3, c4, c5, c6, c7⟩
        · subst hz; exact (no_idx hn).elim
        · have hxv : a.eval x = .slice (some ⟨b1, o1, none⟩) (List.length z) cap := h5
          obtain ⟨b0, off0, q1, q2⟩ := h4
          have hh := (cellsAt_one b0 off0 _).1 q2.symm
          refine exec_val he h (by rw [hxv, hyv]; exact run_indexAt_slc (chk_ok hE hc) b1 o1 _ cap hn) ⟨e, b1, o1 + n.toNat * u.size, h1, ok_append h3 h2 ⟨hn, okP_nil⟩, Loc_of (Place_append h3 q1 ?_) c7.lt, rfl⟩
          simp only [Nav, hh, Nav_nil]
      · trivial
    · trivial
  · rename_i d p lo hi k n hx hy
    split
    · rename_i u l hvw
      split
      · rename_i hc
        intro hn
        have hn1 : @LE.le Int Int.instLEInt 0 n := hn.1
        have hn2 : @LT.lt Int Int.instLTInt n (hi - lo) := hn.2
        obtain ⟨A, c, k1, k2, k3, k4, k5, e, k6, k7, k8⟩ := sub_els h.hs (evx h hx) hvw
        obtain ⟨hyv, _⟩ := VX.int_inv (evx h hy)
        have hz : l ≠ [] := by rintro rfl; have k3 : ((0 : Nat) : Int) = hi - lo := k3; omega
        obtain ⟨b, off, rfl, k9⟩ := k8 hz
        obtain ⟨off2, q1, rfl, q3⟩ := k9 n hn.1 (by omega)
        exact exec_val he h (by rw [k1, hyv]; exact run_indexAt_slc (chk_ok hE hc) b off _ c (by omega)) ⟨e, b, _, k6, q3, q1, rfl⟩
      · trivial
    · trivial
  · trivial

/-- a field of a struct's cells -/
theorem rep_fld : ∀ {t : Ty} {x : t.den} {n : Nat} {u : Ty} {z : u.den} {cs : List Value}, Rep H S t [] cs x → getP t x [.fld n] = some ⟨u, z⟩ → Rep H S u [] ((cs.drop (offF t n)).take u.size) z ∧ t.agg = true := by
  intro t
  induction t with
  | pair a c _ ihc =>
    intro x n u z cs hR h
    obtain ⟨O1, O2, e, h1, h2⟩ := hR
    have e1 : O1 = [] ∧ O2 = [] := by simpa using e.symm
    rw [e1.1] at h1; rw [e1.2] at h2
    refine ⟨?_, rfl⟩
    match n, h with
    | 0, h =>
      have h : some (⟨a, x.1⟩ : Sigma Ty.den) = some ⟨u, z⟩ := by rw [← h]; simp only [getP]
      cases h
      simpa [offF] using h1
    | n + 1, h =>
      have := (ihc (x := x.2) h2 h).1
      simpa [offF, List.drop_drop, Nat.add_comm] using this
  | slc o t _ => intro x n u z cs _ h; cases o <;> simp [getP] at h
  | _ => intro x n u z cs _ h; simp [getP] at h

theorem rep_fldO : ∀ {t : Ty} {x : t.den} {n : Nat} {u : Ty} {z : u.den} {O : List Nat} {cs : List Value}, Rep H S t O cs x → getP t x [.fld n] = some ⟨u, z⟩ → ∃ O2, (∀ c ∈ O2, c ∈ O) ∧ Rep H S u O2 ((cs.drop (offF t n)).take u.size) z ∧ t.agg = true := by
  intro t
  induction t with
  | pair a c _ ihc =>
    intro x n u z O cs hR h
    obtain ⟨O1, O2, rfl, h1, h2⟩ := hR
    match n, h with
    | 0, h =>
      have h : some (⟨a, x.1⟩ : Sigma Ty.den) = some ⟨u, z⟩ := by rw [← h]; simp only [getP]
      cases h
      exact ⟨O1, fun c hc => by simp [hc], by simpa [offF] using h1, rfl⟩
    | n + 1, h =>
      obtain ⟨O3, k1, k2, _⟩ := ihc (x := x.2) h2 h
      exact ⟨O3, fun c hc => by simp [k1 c hc], by simpa [offF, List.drop_drop, Nat.add_comm] using k2, rfl⟩
  | slc o t _ => intro x n u z O cs _ h; cases o <;> simp [getP] at h
  | _ => intro x n u z O cs _ h; simp [getP] at h

theorem offF_le : ∀ {t : Ty} {x : t.den} {n : Nat} {u : Ty} {z : u.den}, getP t x [.fld n] = some ⟨u, z⟩ → offF t n + u.size ≤ t.size := by
  intro t
  induction t with
  | pair a c _ ihc =>
    intro x n u z h
    match n, h with
    | 0, h =>
      have h : some (⟨a, x.1⟩ : Sigma Ty.den) = some ⟨u, z⟩ := by rw [← h]; simp only [getP]
      cases h
      simp [offF, Ty.size]
    | n + 1, h =>
      have := ihc (x := x.2) h
      simp only [offF, Ty.size]; omega
  | slc o t _ => intro x n u z h; cases o <;> simp [getP] at h
  | _ => intro x n u z h; simp [getP] at h

theorem getP_append : ∀ {t : Ty} {x : t.den} {p q : List Step} {u : Ty} {y : u.den} {r : Sigma Ty.den}, getP t x p = some ⟨u, y⟩ → getP u y q = some r → getP t x (p ++ q) = some r := by
  intro t
  induction t with
  | pair a c iha ihc =>
    intro x p q u y r h1 h2
    match p, h1 with
    | [], h1 => simp only [getP, Option.some.injEq] at h1; cases h1; exact h2
    | .fld 0 :: p, h1 => exact iha h1 h2
    | .fld (n + 1) :: p, h1 => exact ihc (p := .fld n :: p) h1 h2
    | .idx i :: p, h1 => simp [getP] at h1
  | arr n t ih =>
    intro x p q u y r h1 h2
    match p, h1 with
    | [], h1 => simp only [getP, Option.some.injEq] at h1; cases h1; exact h2
    | .idx i :: p, h1 => exact ih h1 h2
    | .fld i :: p, h1 => simp [getP] at h1
  | slc o t ih =>
    intro x p q u y r h1 h2
    match p, h1 with
    | [], h1 => rw [getP_nil] at h1; cases h1; exact h2
    | .idx i :: p, h1 => cases o with
      | true => exact ih h1 h2
      | false => simp [getP] at h1
    | .fld i :: p, h1 => cases o <;> simp [getP] at h1
  | _ =>
    intro x p q u y r h1 h2
    match p, h1 with
    | [], h1 => simp only [getP, Option.some.injEq] at h1; cases h1; exact h2
    | .idx i :: p, h1 => simp [getP] at h1
    | .fld i :: p, h1 => simp [getP] at h1

theorem run_part {P : Program} {k : Nat} {T : TypeId} {u : Ty} {cs : List Value} {off : Nat} {z : u.den} {O : List Nat} (h : tyOk P k T u = true) (hR : Rep H S u O ((cs.drop off).take u.size) z) :
    (part T cs.toArray off).run P w = .ok (toV u ((cs.drop off).take u.size)) w := by
  have hl := hR.length
  simp only [part, Sem.run_bind, run_isAgg h, Result.andThen]
  cases hg : u.agg with
  | true =>
    simp only [if_true, Sem.run_bind, run_sizeOf h, Result.andThen]
    simp [toV, hg]
  | false =>
    have h1 : u.size = 1 := by cases u <;> simp_all [Ty.agg, Ty.size]
    rw [h1] at hl ⊢
    match hc : (cs.drop off).take 1, hl with
    | [c], _ =>
      have : cs[off]? = some c := by
        have : ((cs.drop off).take 1)[0]? = some c := by rw [hc]; rfl
        simpa using this
      simp [this, toV, hg]

theorem unOp_sound (h : RS B S ι s a w) {o : Oper} {op : UnOp} {T : TypeId} {x : Operand} {P : Program} (ho : o.op = .unOp op T x) : ORok P B o a w (unA op (s.ev x) s) := by
  have he : execOp a.eval o = (do pure (.value (← Op.unary op (a.eval x)))) := by simp [execOp, ho]
  unfold unA
  split
  · rename_i b hx
    have := VX.bool_inv (evx h hx)
    exact exec_val he h (by rw [this]; rfl) VX.bool
  · rename_i k n hx
    obtain ⟨hv, _⟩ := VX.int_inv (evx h hx)
    exact arith_sound (by rw [exec_value he (w' := w) (val := .int k (k.wrap (0 - n)))]; rw [hv]; rfl) h
  · rename_i k n hx
    obtain ⟨hv, _⟩ := VX.int_inv (evx h hx)
    refine exec_val he h (val := .int k (bXor k (if k.signed then -1 else k.max) n)) (by rw [hv]; rfl) (VX.int (wrap_in _ _))
  · trivial

theorem field_sound (hE : EnvOk E) (h : RS B S ι s a w) {o : Oper} {T : TypeId} {x : Operand} {n : Nat} (ho : o.op = .field T x n) : ORok E.P B o a w (aop E o s) := by
  have he : execOp a.eval o = (do pure (.value (← Instr.field T (a.eval x) n))) := by simp [execOp, ho]
  unfold aop
  rw [ho]
  simp only
  split
  · rename_i t y hx
    split
    · rename_i u z hc hg
      obtain ⟨cs, e, hR⟩ := evx h hx
      have e : a.eval x = toV t cs := by simpa using e
      obtain ⟨fs, f, k', h1, h2, h3, h4, h5⟩ := tyOk_fields (chk_ok hE hc) hg
      obtain ⟨hR2, hag⟩ := rep_fld hR hg
      have : a.eval x = .agg cs.toArray := by rw [e, toV, hag]; rfl
      refine exec_val he h (val := toV u ((cs.drop (offF t n)).take u.size)) ?_ ⟨_, rfl, hR2⟩
      rw [this]
      have := run_part (w := w) h5 hR2
      simp [Instr.field, run_under h1, h2, asAgg, h3, this]
    · trivial
  · rename_i i p hx
    split
    · rename_i t y hpt
      split
      · rename_i u z hc hg
        obtain ⟨e, t', y', cs, h1, h2, h3, h4, h5⟩ := evx h hx
        have hgp := part_of h1 hpt
        rw [h3] at hgp; cases hgp
        have h5 : a.eval x = toV t cs := by simpa using h5
        obtain ⟨fs, f, k', q1, q2, q3, q4, q5⟩ := tyOk_fields (chk_ok hE hc) hg
        obtain ⟨O2, m1, m2, m3⟩ := sub_rep h.hs h1 h2 h3 h4
        obtain ⟨O3, m4, hR2, hag⟩ := rep_fldO m3 hg
        have hxv : a.eval x = .agg cs.toArray := by rw [h5, toV, hag]; rfl
        have hrun := run_part (w := w) q5 hR2
        have hr : (Instr.field T (a.eval x) n).run E.P w = .ok (toV u ((cs.drop (offF t n)).take u.size)) w := by
          rw [hxv]
          simp [Instr.field, run_under q1, q2, asAgg, q3, hrun]
        split
        · rename_i hs
          have := hR2.nilO hs
          subst this
          exact exec_val he h hr ⟨_, rfl, hR2⟩
        · refine exec_val he h hr ⟨e, u, z, _, h1, ok_append h3 h2 (ok_fld hg), getP_append h3 hg, ?_, rfl⟩
          obtain ⟨b0, off0, g1, rfl⟩ := h4
          refine ⟨b0, off0 + offF t n, Place_append h3 g1 (Nav_fld hg), ?_⟩
          have := m3.length
          have hle := offF_le hg
          rw [cellsAt_drop, cellsAt_take _ _ _ _ (by omega)]
      · trivial
    · trivial
  · trivial

end
end Go.Ex
