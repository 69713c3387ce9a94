import Derived.Test.YtibpibbnnogdkaaExA
namespace Go.Ex

inductive Step where
  | fld (i : Nat)
  | idx (i : Int)
  deriving Inhabited

def Ty.er (a b : Ty) : Bool := decide (a.sh = b.sh)

/-- the part of a typed value at a path -/
def getP : (t : Ty) → t.den → List Step → Option (Sigma Ty.den)
  | t, x, [] => some ⟨t, x⟩
  | .pair a _, x, .fld 0 :: p => getP a x.1 p
  | .pair _ b, x, .fld (n + 1) :: p => getP b x.2 (.fld n :: p)
  | .arr _ t, x, .idx i :: p => getP t (List.getD x i.toNat t.dflt) p
  | .slc true t, x, .idx i :: p => getP t (List.getD x i.toNat t.dflt) p
  | _, _, _ => none

def okP : (t : Ty) → t.den → List Step → Prop
  | _, _, [] => True
  | .pair a _, x, .fld 0 :: p => okP a x.1 p
  | .pair _ b, x, .fld (n + 1) :: p => okP b x.2 (.fld n :: p)
  | .arr n t, x, .idx i :: p => (0 ≤ i ∧ i < n) ∧ okP t (List.getD x i.toNat t.dflt) p
  | .slc true t, x, .idx i :: p => (0 ≤ i ∧ i < List.length x) ∧ okP t (List.getD x i.toNat t.dflt) p
  | _, _, _ => False

/-- a part put in at a path; the type may turn on a way of fields alone -/
def setP : (t : Ty) → t.den → List Step → (u : Ty) → u.den → Option (Sigma Ty.den)
  | t, _, [], u, y => if u.sh = t.sh then some ⟨u, y⟩ else none
  | .pair a b, x, .fld 0 :: p, u, y => match setP a x.1 p u y with
    | some ⟨t', z⟩ => some ⟨.pair t' b, (z, x.2)⟩
    | none => none
  | .pair a b, x, .fld (n + 1) :: p, u, y => match setP b x.2 (.fld n :: p) u y with
    | some ⟨t', z⟩ => some ⟨.pair a t', (x.1, z)⟩
    | none => none
  | .arr n t, x, .idx i :: p, u, y => match setP t (List.getD x i.toNat t.dflt) p u y with
    | some ⟨t', z⟩ => if h : t' = t then some ⟨.arr n t, List.set x i.toNat (h ▸ z)⟩ else none
    | none => none
  | .slc true t, x, .idx i :: p, u, y => match setP t (List.getD x i.toNat t.dflt) p u y with
    | some ⟨t', z⟩ => if h : t' = t then some ⟨.slc true t, List.set x i.toNat (h ▸ z)⟩ else none
    | none => none
  | _, _, _, _, _ => none

theorem size_sh : ∀ t : Ty, t.sh.size = t.size := by
  intro t
  induction t with
  | pair a b iha ihb => simp only [Ty.sh, Ty.size, iha, ihb]
  | arr n t ih => simp only [Ty.sh, Ty.size, ih]
  | _ => rfl

theorem size_er {u t : Ty} (h : u.sh = t.sh) : u.size = t.size := by rw [← size_sh u, h, size_sh]

/-- where a part lies -/
def Nav (H : Array Go.Obj) : Ty → List Step → Nat → Nat → Option (Nat × Nat)
  | _, [], b, off => some (b, off)
  | .pair a _, .fld 0 :: p, b, off => Nav H a p b off
  | .pair a c, .fld (n + 1) :: p, b, off => Nav H c (.fld n :: p) b (off + a.size)
  | .arr _ t, .idx i :: p, b, off => Nav H t p b (off + i.toNat * t.size)
  | .slc true t, .idx i :: p, b, off => match (blk H b)[off]? with
    | some (.slice (some a) _ _) => Nav H t p a.block (a.off + i.toNat * t.size)
    | _ => none
  | _, _, _, _ => none

/-- 'Rep' but for the part at a path -/
def RepBut (H : Array Go.Obj) (S : Nat → Prop) : (t : Ty) → List Step → Nat → Nat → List Nat → t.den → Prop
  | _, [], _, _, O, _ => O = []
  | .pair a c, .fld 0 :: p, b, off, O, x => ∃ O1 O2, O = O1 ++ O2 ∧ RepBut H S a p b off O1 x.1 ∧ Rep H S c O2 (cellsAt H b (off + a.size) c.size) x.2
  | .pair a c, .fld (n + 1) :: p, b, off, O, x => ∃ O1 O2, O = O1 ++ O2 ∧ Rep H S a O1 (cellsAt H b off a.size) x.1 ∧ RepBut H S c (.fld n :: p) b (off + a.size) O2 x.2
  | .arr n t, .idx i :: p, b, off, O, l => List.length l = n ∧ (0 ≤ i ∧ i < n) ∧ ∃ O1 O2 O3, O = O1 ++ (O2 ++ O3) ∧
      RepL (Rep H S t) t.size O1 (cellsAt H b off (i.toNat * t.size)) (List.take i.toNat l) ∧
      RepBut H S t p b (off + i.toNat * t.size) O2 (List.getD l i.toNat t.dflt) ∧
      RepL (Rep H S t) t.size O3 (cellsAt H b (off + (i.toNat + 1) * t.size) ((n - (i.toNat + 1)) * t.size)) (List.drop (i.toNat + 1) l)
  | .slc true t, .idx i :: p, b, off, O, l => (0 ≤ i ∧ i < List.length l) ∧ ∃ b1 o1 cap O1 O2 O3, O = b1 :: (O1 ++ (O2 ++ O3)) ∧
      (blk H b)[off]? = some (.slice (some ⟨b1, o1, none⟩) (List.length l) cap) ∧ List.length l ≤ cap ∧ CapOk true cap ∧ Free H b1 (o1 + cap * t.size) ∧
      RepL (Rep H S t) t.size O1 (cellsAt H b1 o1 (i.toNat * t.size)) (List.take i.toNat l) ∧
      RepBut H S t p b1 (o1 + i.toNat * t.size) O2 (List.getD l i.toNat t.dflt) ∧
      RepL (Rep H S t) t.size O3 (cellsAt H b1 (o1 + (i.toNat + 1) * t.size) ((List.length l - (i.toNat + 1)) * t.size)) (List.drop (i.toNat + 1) l)
  | _, _, _, _, _, _ => False

section
variable {H H' : Array Go.Obj} {S S' : Nat → Prop}

theorem cellsAt_take (b off n m : Nat) (h : m ≤ n) : (cellsAt H b off n).take m = cellsAt H b off m := by
  simp only [cellsAt, List.take_take, Nat.min_eq_left h]

theorem cellsAt_drop (b off n m : Nat) : (cellsAt H b off n).drop m = cellsAt H b (off + m) (n - m) := by
  simp only [cellsAt, List.drop_take, List.drop_drop]

theorem cellsAt_length (b off n : Nat) (h : off + n ≤ (blk H b).length) : (cellsAt H b off n).length = n := by
  simp only [cellsAt, List.length_take, List.length_drop]; omega

theorem cellsAt_add (b off n m : Nat) : cellsAt H b off (n + m) = cellsAt H b off n ++ cellsAt H b (off + n) m := by
  simp only [cellsAt, List.take_add, List.drop_drop]

theorem cellsAt_one (b off : Nat) (v : Value) : cellsAt H b off 1 = [v] ↔ (blk H b)[off]? = some v := by
  simp only [cellsAt]
  constructor
  · intro h
    have : ((blk H b).drop off)[0]? = some v := by
      cases hd : (blk H b).drop off with
      | nil => rw [hd] at h; simp at h
      | cons a l => rw [hd] at h; simp at h; simp [h]
    simpa using this
  · intro h
    obtain ⟨hlt, e⟩ := List.getElem?_eq_some_iff.1 h
    rw [List.drop_eq_getElem_cons hlt]
    simp [e]

theorem Free.blk {b n : Nat} (h : Free H b n) : n ≤ (blk H b).length := by
  obtain ⟨arr, T, ⟨fz, e, _⟩, hn⟩ := h
  simp only [Ex.blk, e]
  simpa using hn

theorem Free.mono {b n m : Nat} (h : Free H b n) (hm : m ≤ n) : Free H b m := by
  obtain ⟨arr, T, e, hn⟩ := h
  exact ⟨arr, T, e, Nat.le_trans hm hn⟩

theorem idx_bound {i : Int} {n sz : Nat} (h : 0 ≤ i ∧ i < n) : i.toNat < n ∧ i.toNat * sz + sz ≤ n * sz ∧ (i.toNat + 1) * sz = i.toNat * sz + sz ∧ (n - (i.toNat + 1)) * sz = n * sz - (i.toNat * sz + sz) := by
  have h1 : i.toNat < n := by omega
  have h2 : (i.toNat + 1) * sz ≤ n * sz := Nat.mul_le_mul_right _ h1
  have h3 : (i.toNat + 1) * sz = i.toNat * sz + sz := Nat.succ_mul _ _
  refine ⟨h1, by omega, h3, ?_⟩
  rw [Nat.sub_mul, h3]

theorem focus : ∀ {t : Ty} {p : List Step} {b off : Nat} {O : List Nat} {x : t.den}, Rep H S t O (cellsAt H b off t.size) x → off + t.size ≤ (blk H b).length → okP t x p →
    ∀ {u : Ty} {y : u.den}, getP t x p = some ⟨u, y⟩ →
    ∃ O1 O2 b' off', O.Perm (O1 ++ O2) ∧ RepBut H S t p b off O1 x ∧ Nav H t p b off = some (b', off') ∧ Rep H S u O2 (cellsAt H b' off' u.size) y ∧
      off' + u.size ≤ (blk H b').length ∧ ((b' = b ∧ off ≤ off' ∧ off' + u.size ≤ off + t.size) ∨ (b' ∈ O1 ∧ Free H b' (off' + u.size))) := by
  intro t
  induction t with
  | pair a c iha ihc =>
    intro p b off O x hR hb ho u y hg
    match p, ho, hg with
    | [], _, hg => simp only [getP, Option.some.injEq] at hg; cases hg; exact ⟨[], O, b, off, by simp, rfl, rfl, hR, hb, .inl ⟨rfl, Nat.le_refl _, Nat.le_refl _⟩⟩
    | .fld 0 :: p, ho, hg =>
      obtain ⟨P1, P2, rfl, h1, h2⟩ := hR
      simp only [Ty.size] at *
      rw [cellsAt_take _ _ _ _ (by omega)] at h1
      rw [cellsAt_drop, Nat.add_sub_cancel_left] at h2
      obtain ⟨O1, O2, b', off', e1, e2, e3, e4, e5, e6⟩ := iha h1 (by omega) ho hg
      refine ⟨O1 ++ P2, O2, b', off', ?_, ⟨O1, P2, rfl, e2, h2⟩, e3, e4, e5, ?_⟩
      · refine (e1.append_right P2).trans ?_
        rw [List.append_assoc, List.append_assoc]
        exact List.Perm.append_left O1 List.perm_append_comm
      · rcases e6 with ⟨g1, g2, g3⟩ | ⟨g1, g2⟩
        · exact .inl ⟨g1, g2, by omega⟩
        · exact .inr ⟨by simp [g1], g2⟩
    | .fld (n + 1) :: p, ho, hg =>
      obtain ⟨P1, P2, rfl, h1, h2⟩ := hR
      simp only [Ty.size] at *
      rw [cellsAt_take _ _ _ _ (by omega)] at h1
      rw [cellsAt_drop, Nat.add_sub_cancel_left] at h2
      obtain ⟨O1, O2, b', off', e1, e2, e3, e4, e5, e6⟩ := ihc h2 (by omega) ho hg
      refine ⟨P1 ++ O1, O2, b', off', ?_, ⟨P1, O1, rfl, h1, e2⟩, e3, e4, e5, ?_⟩
      · rw [List.append_assoc]; exact List.Perm.append_left P1 e1
      · rcases e6 with ⟨g1, g2, g3⟩ | ⟨g1, g2⟩
        · exact .inl ⟨g1, by omega, by omega⟩
        · exact .inr ⟨by simp [g1], g2⟩
    | .idx i :: p, ho, _ => simp [okP] at ho
  | arr n t ih =>
    intro p b off O x hR hb ho u y hg
    match p, ho, hg with
    | [], _, hg => simp only [getP, Option.some.injEq] at hg; cases hg; exact ⟨[], O, b, off, by simp, rfl, rfl, hR, hb, .inl ⟨rfl, Nat.le_refl _, Nat.le_refl _⟩⟩
    | .idx i :: p, ho, hg =>
      obtain ⟨hi, ho⟩ := ho
      obtain ⟨hl, hR⟩ := hR
      simp only [Ty.size] at *
      obtain ⟨b1, b2, b3, b4⟩ := idx_bound (sz := t.size) hi
      obtain ⟨P1, P2, P3, rfl, g1, g2, g3⟩ := RepL.split (d := t.dflt) (i := i.toNat) (by rw [hl]; exact b1) hR
      rw [cellsAt_take _ _ _ _ (by omega)] at g1
      rw [cellsAt_drop, cellsAt_take _ _ _ _ (by omega)] at g2
      rw [cellsAt_drop, show n * t.size - (i.toNat + 1) * t.size = (n - (i.toNat + 1)) * t.size from by omega] at g3
      obtain ⟨O1, O2, b', off', e1, e2, e3, e4, e5, e6⟩ := ih g2 (by omega) ho hg
      refine ⟨P1 ++ (O1 ++ P3), O2, b', off', ?_, ⟨hl, hi, P1, O1, P3, rfl, g1, e2, g3⟩, e3, e4, e5, ?_⟩
      · rw [List.append_assoc]
        refine List.Perm.append_left P1 ?_
        refine (e1.append_right P3).trans ?_
        rw [List.append_assoc, List.append_assoc]
        exact List.Perm.append_left O1 List.perm_append_comm
      · rcases e6 with ⟨g1, g2, g3⟩ | ⟨g1, g2⟩
        · exact .inl ⟨g1, by omega, by omega⟩
        · exact .inr ⟨by simp [g1], g2⟩
    | .fld i :: p, ho, _ => simp [okP] at ho
  | slc o t ih =>
    intro p b off O x hR hb ho u y hg
    match p, ho, hg with
    | [], _, hg => simp only [getP, Option.some.injEq] at hg; cases hg; exact ⟨[], O, b, off, by simp, by cases o <;> rfl, by cases o <;> rfl, hR, hb, .inl ⟨rfl, Nat.le_refl _, Nat.le_refl _⟩⟩
    | .idx i :: p, ho, hg =>
      cases o with
      | false => simp [okP] at ho
      | true =>
        obtain ⟨hi, ho⟩ := ho
        rcases hR with ⟨_, _, hn⟩ | ⟨b1, o1, cap, O', c1, c2, c3, c4, c5, rfl, c6⟩
        · subst hn; simp at hi; omega
        · simp only [Ty.size] at *
          have hh := (cellsAt_one b off _).1 c1
          obtain ⟨b1', b2, b3, b4⟩ := idx_bound (sz := t.size) hi
          obtain ⟨P1, P2, P3, rfl, g1, g2, g3⟩ := RepL.split (d := t.dflt) (i := i.toNat) b1' c5
          rw [cellsAt_take _ _ _ _ (by omega)] at g1
          rw [cellsAt_drop, cellsAt_take _ _ _ _ (by omega)] at g2
          rw [cellsAt_drop, show List.length x * t.size - (i.toNat + 1) * t.size = (List.length x - (i.toNat + 1)) * t.size from by omega] at g3
          obtain ⟨O1, O2, b', off', e1, e2, e3, e4, e5, e6⟩ := ih g2 (by omega) ho hg
          have hcap : List.length x * t.size ≤ cap * t.size := Nat.mul_le_mul_right _ c2
          refine ⟨b1 :: (P1 ++ (O1 ++ P3)), O2, b', off', ?_, ⟨hi, b1, o1, cap, P1, O1, P3, rfl, hh, c2, c3, c6, g1, e2, g3⟩, ?_, e4, e5, ?_⟩
          · rw [List.cons_append]
            refine List.Perm.cons b1 ?_
            rw [List.append_assoc]
            refine List.Perm.append_left P1 ?_
            refine (e1.append_right P3).trans ?_
            rw [List.append_assoc, List.append_assoc]
            exact List.Perm.append_left O1 List.perm_append_comm
          · simp only [Nav, hh]; exact e3
          · rcases e6 with ⟨g1, g2, g3⟩ | ⟨g1, g2⟩
            · subst g1; exact .inr ⟨by simp, c6.mono (by omega)⟩
            · exact .inr ⟨by simp [g1], g2⟩
    | .fld i :: p, ho, _ => cases o <;> simp [okP] at ho
  | _ =>
    intro p b off O x hR hb ho u y hg
    match p, ho, hg with
    | [], _, hg => simp only [getP, Option.some.injEq] at hg; cases hg; exact ⟨[], O, b, off, by simp, rfl, rfl, hR, hb, .inl ⟨rfl, Nat.le_refl _, Nat.le_refl _⟩⟩
    | .fld i :: p, ho, _ => simp [okP] at ho
    | .idx i :: p, ho, _ => simp [okP] at ho

/-- one range of one block has turned, nothing else that was there -/
structure Chg (H H' : Array Go.Obj) (b off n : Nat) : Prop where
  at_ : ∃ arr arr' T, (∃ fz, Lie H b arr T fz ∧ H'[b]? = some (.cells arr' T fz)) ∧ arr'.size = arr.size ∧ ∀ j, (j < off ∨ off + n ≤ j) → arr'.toList[j]? = arr.toList[j]?
  rest : ∀ c, c ≠ b → c < H.size → H'[c]? = H[c]?

theorem Chg.length {b off n : Nat} (h : Chg H H' b off n) (c : Nat) (hc : c < H.size) : (blk H' c).length = (blk H c).length := by
  by_cases e : c = b
  · subst e
    obtain ⟨arr, arr', T, ⟨fz, ⟨e1, _⟩, e2⟩, e3, _⟩ := h.at_
    simp only [blk, e1, e2]; simpa using e3
  · rw [blk_congr (h.rest c e hc)]

theorem Chg.cells {b off n : Nat} (h : Chg H H' b off n) {c o m : Nat} (hc : c < H.size) (hr : c = b → o + m ≤ off ∨ off + n ≤ o) : cellsAt H' c o m = cellsAt H c o m := by
  by_cases e : c = b
  · subst e
    have hr := hr rfl
    obtain ⟨arr, arr', T, ⟨fz, ⟨e1, _⟩, e2⟩, e3, e4⟩ := h.at_
    simp only [cellsAt, blk, e1, e2]
    apply List.ext_getElem?
    intro j
    simp only [List.getElem?_take, List.getElem?_drop]
    split
    · rw [e4]; omega
    · rfl
  · exact cellsAt_congr (h.rest c e hc) _ _

theorem Chg.free {b off n : Nat} (h : Chg H H' b off n) {c m : Nat} (hf : Free H c m) : Free H' c m := by
  obtain ⟨arr, T, ⟨fz, e, ef⟩, hm⟩ := hf
  by_cases hc : c = b
  · subst hc
    obtain ⟨a1, a2, T', ⟨fz', ⟨e1, _⟩, e2⟩, e3, _⟩ := h.at_
    rw [e1] at e; cases e
    exact ⟨a2, _, ⟨fz, e2, ef.imp id (fun h => by omega)⟩, by omega⟩
  · have hlt : c < H.size := by
      rcases Nat.lt_or_ge c H.size with h | h
      · exact h
      · rw [Array.getElem?_eq_none h] at e; cases e
    exact ⟨arr, T, ⟨fz, (h.rest c hc hlt).trans e, ef⟩, hm⟩

theorem RepBut.range : ∀ {t : Ty} {p : List Step} {b off : Nat} {O : List Nat} {x : t.den}, RepBut H S t p b off O x → ∀ {u : Ty} {y : u.den}, getP t x p = some ⟨u, y⟩ → ∀ {b' off' : Nat},
    Nav H t p b off = some (b', off') → (b' = b ∧ off ≤ off' ∧ off' + u.size ≤ off + t.size) ∨ b' ∈ O := by
  intro t
  induction t with
  | pair a c iha ihc =>
    intro p b off O x hR u y hg b' off' hn
    match p, hR, hg, hn with
    | [], _, hg, hn =>
      simp only [getP, Option.some.injEq] at hg; cases hg
      simp only [Nav, Option.some.injEq, Prod.mk.injEq] at hn
      exact .inl ⟨hn.1.symm, by omega, by omega⟩
    | .fld 0 :: p, ⟨O1, O2, e, h1, h2⟩, hg, hn =>
      simp only [Ty.size]
      rcases iha h1 hg hn with ⟨g1, g2, g3⟩ | g
      · exact .inl ⟨g1, g2, by omega⟩
      · exact .inr (by simp [e, g])
    | .fld (n + 1) :: p, ⟨O1, O2, e, h1, h2⟩, hg, hn =>
      simp only [Ty.size]
      rcases ihc h2 hg hn with ⟨g1, g2, g3⟩ | g
      · exact .inl ⟨g1, by omega, by omega⟩
      · exact .inr (by simp [e, g])
    | .idx i :: p, hR, _, _ => simp [RepBut] at hR
  | arr n t ih =>
    intro p b off O x hR u y hg b' off' hn
    match p, hR, hg, hn with
    | [], _, hg, hn =>
      simp only [getP, Option.some.injEq] at hg; cases hg
      simp only [Nav, Option.some.injEq, Prod.mk.injEq] at hn
      exact .inl ⟨hn.1.symm, by omega, by omega⟩
    | .idx i :: p, ⟨hl, hi, O1, O2, O3, e, h1, h2, h3⟩, hg, hn =>
      simp only [Ty.size]
      obtain ⟨b1, b2, b3, b4⟩ := idx_bound (sz := t.size) hi
      rcases ih h2 hg hn with ⟨g1, g2, g3⟩ | g
      · exact .inl ⟨g1, by omega, by omega⟩
      · exact .inr (by simp [e, g])
    | .fld i :: p, hR, _, _ => simp [RepBut] at hR
  | slc o t ih =>
    intro p b off O x hR u y hg b' off' hn
    match p, hR, hg, hn with
    | [], _, hg, hn =>
      simp only [getP, Option.some.injEq] at hg; cases hg
      have hn : some (b, off) = some (b', off') := by cases o <;> exact hn
      simp only [Option.some.injEq, Prod.mk.injEq] at hn
      exact .inl ⟨hn.1.symm, by omega, by omega⟩
    | .idx i :: p, hR, hg, hn =>
      cases o with
      | false => simp [RepBut] at hR
      | true =>
        obtain ⟨hi, b1, o1, cap, O1, O2, O3, e, e1, e2, e3, e4, e5, e6, e7⟩ := hR
        simp only [Nav, e1] at hn
        rcases ih e6 hg hn with ⟨g1, g2, g3⟩ | g
        · exact .inr (by rw [g1, e]; simp)
        · exact .inr (by rw [e]; simp [g])
    | .fld i :: p, hR, _, _ => cases o <;> simp [RepBut] at hR
  | _ =>
    intro p b off O x hR u y hg b' off' hn
    match p, hR, hg, hn with
    | [], _, hg, hn =>
      simp only [getP, Option.some.injEq] at hg; cases hg
      simp only [Nav, Option.some.injEq, Prod.mk.injEq] at hn
      exact .inl ⟨hn.1.symm, by omega, by omega⟩
    | .fld i :: p, hR, _, _ => simp [RepBut] at hR
    | .idx i :: p, hR, _, _ => simp [RepBut] at hR

/-- what a change leaves of lists of parts that it does not touch -/
theorem RepL.chg {t : Ty} {O : List Nat} {b off n o m : Nat} {l : List t.den} {c : Nat} (h : RepL (Rep H S t) t.size O (cellsAt H c o m) l) (hc : Chg H H' b off n)
    (hO : ∀ d ∈ O, d ≠ b ∧ d < H.size) (hS : ∀ d, S d → d ≠ b ∧ d < H.size) (hSS : ∀ d, S d → S' d) (hlt : c < H.size) (hr : c = b → o + m ≤ off ∨ off + n ≤ o) :
    RepL (Rep H' S' t) t.size O (cellsAt H' c o m) l := by
  rw [hc.cells hlt hr]
  refine RepL.mono (L := O) (fun _ h => h) (fun O1 cs x hL hr => ?_) h
  exact hr.stable (fun d hd => by
    rcases hd with hd | hd
    · exact hc.rest d (hO d (hL d hd)).1 (hO d (hL d hd)).2
    · exact hc.rest d (hS d hd).1 (hS d hd).2) hSS

theorem Rep.chg {t : Ty} {O : List Nat} {b off n o m : Nat} {x : t.den} {c : Nat} (h : Rep H S t O (cellsAt H c o m) x) (hc : Chg H H' b off n)
    (hO : ∀ d ∈ O, d ≠ b ∧ d < H.size) (hS : ∀ d, S d → d ≠ b ∧ d < H.size) (hSS : ∀ d, S d → S' d) (hlt : c < H.size) (hr : c = b → o + m ≤ off ∨ off + n ≤ o) :
    Rep H' S' t O (cellsAt H' c o m) x := by
  rw [hc.cells hlt hr]
  exact h.stable (fun d hd => by
    rcases hd with hd | hd
    · exact hc.rest d (hO d hd).1 (hO d hd).2
    · exact hc.rest d (hS d hd).1 (hS d hd).2) hSS

theorem unfocus : ∀ {t : Ty} {p : List Step} {b off : Nat} {O1 : List Nat} {x : t.den}, RepBut H S t p b off O1 x →
    ∀ {u0 : Ty} {y0 : u0.den}, getP t x p = some ⟨u0, y0⟩ → ∀ {b' off' : Nat}, Nav H t p b off = some (b', off') →
    off + t.size ≤ (blk H b).length → b < H.size → O1.Nodup → b ∉ O1 → (∀ c ∈ O1, ¬ S c ∧ c < H.size) → ¬ S b → (∀ c, S c → c < H.size) → (∀ c, S c → S' c) →
    ∀ {u : Ty} {y : u.den} {O2 : List Nat} {z : Sigma Ty.den}, Chg H H' b' off' u0.size → Rep H' S' u O2 (cellsAt H' b' off' u.size) y → setP t x p u y = some z →
    ∃ O, O.Perm (O1 ++ O2) ∧ Rep H' S' z.1 O (cellsAt H' b off z.1.size) z.2 ∧ z.1.sh = t.sh := by
  intro t
  induction t with
  | pair a c iha ihc =>
    intro p b off O1 x hR u0 y0 hg b' off' hn hb hbs hnd hbO hO1 hSb hS hSS u y O2 z hc hy hz
    match p, hR, hg, hn, hz with
    | [], hR, hg, hn, hz =>
      simp only [setP] at hz
      split at hz
      · rename_i e
        cases hz
        simp only [Nav, Option.some.injEq, Prod.mk.injEq] at hn
        obtain ⟨rfl, rfl⟩ := hn
        have hR : O1 = [] := hR
        exact ⟨O2, by rw [hR]; simp, hy, e⟩
      · cases hz
    | .fld 0 :: p, ⟨P1, P2, e, h1, h2⟩, hg, hn, hz =>
      subst e
      simp only [setP] at hz
      split at hz
      · rename_i t' w hw
        cases hz
        simp only [List.nodup_append, List.mem_append, not_or] at hnd hbO
        simp only [Ty.size] at hb
        obtain ⟨O, g1, g2, g3⟩ := iha h1 hg hn (by omega) hbs hnd.1 hbO.1 (fun c hc => hO1 c (by simp [hc])) hSb hS hSS hc hy hw
        have hrng := RepBut.range h1 hg hn
        have hsz := size_er g3
        refine ⟨O ++ P2, ?_, ⟨O, P2, rfl, ?_, ?_⟩, by simp only [Ty.sh, g3]⟩
        · refine (g1.append_right P2).trans ?_
          rw [List.append_assoc, List.append_assoc]
          exact List.Perm.append_left P1 List.perm_append_comm
        · simp only [Ty.size]; rw [cellsAt_take _ _ _ _ (by omega)]; exact g2
        · simp only [Ty.size]; rw [cellsAt_drop, Nat.add_sub_cancel_left, hsz]
          refine h2.chg hc (fun d hd => ⟨?_, (hO1 d (by simp [hd])).2⟩) (fun d hd => ⟨?_, hS d hd⟩) hSS hbs (fun e => ?_)
          · rintro rfl
            rcases hrng with ⟨g, _⟩ | g
            · subst g; exact hbO.2 hd
            · exact hnd.2.2 _ g _ hd rfl
          · rintro rfl
            rcases hrng with ⟨g, _⟩ | g
            · subst g; exact hSb hd
            · exact (hO1 _ (by simp [g])).1 hd
          · rcases hrng with ⟨_, g, g'⟩ | g
            · right; omega
            · exact absurd (by simp [e, g] : b ∈ P1) hbO.1
      · cases hz
    | .fld (n + 1) :: p, ⟨P1, P2, e, h1, h2⟩, hg, hn, hz =>
      subst e
      simp only [setP] at hz
      split at hz
      · rename_i t' w hw
        cases hz
        simp only [List.nodup_append, List.mem_append, not_or] at hnd hbO
        simp only [Ty.size] at hb
        obtain ⟨O, g1, g2, g3⟩ := ihc h2 hg hn (by omega) hbs hnd.2.1 hbO.2 (fun c hc => hO1 c (by simp [hc])) hSb hS hSS hc hy hw
        have hrng := RepBut.range h2 hg hn
        refine ⟨P1 ++ O, ?_, ⟨P1, O, rfl, ?_, ?_⟩, by simp only [Ty.sh, g3]⟩
        · rw [List.append_assoc]; exact List.Perm.append_left P1 g1
        · simp only [Ty.size]; rw [cellsAt_take _ _ _ _ (by omega)]
          refine h1.chg hc (fun d hd => ⟨?_, (hO1 d (by simp [hd])).2⟩) (fun d hd => ⟨?_, hS d hd⟩) hSS hbs (fun e => ?_)
          · rintro rfl
            rcases hrng with ⟨g, _⟩ | g
            · subst g; exact hbO.1 hd
            · exact hnd.2.2 _ hd _ g rfl
          · rintro rfl
            rcases hrng with ⟨g, _⟩ | g
            · subst g; exact hSb hd
            · exact (hO1 _ (by simp [g])).1 hd
          · rcases hrng with ⟨_, g, g'⟩ | g
            · left; omega
            · exact absurd (by simp [e, g] : b ∈ P2) hbO.2
        · simp only [Ty.size]; rw [cellsAt_drop, Nat.add_sub_cancel_left]; exact g2
      · cases hz
    | .idx i :: p, hR, _, _, _ => simp [RepBut] at hR
  | arr n t ih =>
    intro p b off O1 x hR u0 y0 hg b' off' hn hb hbs hnd hbO hO1 hSb hS hSS u y O2 z hc hy hz
    match p, hR, hg, hn, hz with
    | [], hR, hg, hn, hz =>
      simp only [setP] at hz
      split at hz
      · rename_i e
        cases hz
        simp only [Nav, Option.some.injEq, Prod.mk.injEq] at hn
        obtain ⟨rfl, rfl⟩ := hn
        have hR : O1 = [] := hR
        exact ⟨O2, by rw [hR]; simp, hy, e⟩
      · cases hz
    | .idx i :: p, ⟨hl, hi, P1, P2, P3, e, h1, h2, h3⟩, hg, hn, hz =>
      subst e
      simp only [setP] at hz
      split at hz
      · rename_i t' w hw
        split at hz
        · rename_i ht; subst ht; cases hz
          simp only [List.nodup_append, List.mem_append, not_or] at hnd hbO
          obtain ⟨b1, b2, b3, b4⟩ := idx_bound (sz := t'.size) hi
          simp only [Ty.size] at hb
          obtain ⟨O, g1, g2, g3⟩ := ih h2 hg hn (by omega) hbs hnd.2.1.1 hbO.2.1 (fun c hc => hO1 c (by simp [hc])) hSb hS hSS hc hy hw
          have hrng := RepBut.range h2 hg hn
          have hne : ∀ d, (d ∈ P1 ∨ d ∈ P3) → d ≠ b' ∧ d < H.size := by
            intro d hd
            refine ⟨?_, (hO1 d (by rcases hd with h | h <;> simp [h])).2⟩
            rintro rfl
            rcases hrng with ⟨g, _⟩ | g
            · subst g; rcases hd with h | h
              · exact hbO.1 h
              · exact hbO.2.2 h
            · rcases hd with h | h
              · exact hnd.2.2 _ h _ (.inl g) rfl
              · exact hnd.2.1.2.2 _ g _ h rfl
          have hSne : ∀ d, S d → d ≠ b' ∧ d < H.size := by
            intro d hd
            refine ⟨?_, hS d hd⟩
            rintro rfl
            rcases hrng with ⟨g, _⟩ | g
            · subst g; exact hSb hd
            · exact (hO1 _ (by simp [g])).1 hd
          refine ⟨P1 ++ (O ++ P3), ?_, ⟨by simpa using hl, RepL.join (fun _ _ _ h => Rep.length h) (by rw [hl]; exact b1) ?_ ?_ ?_⟩, rfl⟩
          · rw [List.append_assoc]
            refine List.Perm.append_left P1 ?_
            refine (g1.append_right P3).trans ?_
            rw [List.append_assoc, List.append_assoc]
            exact List.Perm.append_left P2 List.perm_append_comm
          · simp only [Ty.size]; rw [cellsAt_take _ _ _ _ (by omega)]
            refine h1.chg hc (fun d hd => hne d (.inl hd)) hSne hSS hbs (fun e => ?_)
            rcases hrng with ⟨_, g, g'⟩ | g
            · left; omega
            · exact absurd (by simp [e, g] : b ∈ P2) hbO.2.1
          · simp only [Ty.size]; rw [cellsAt_drop, cellsAt_take _ _ _ _ (by omega)]; exact g2
          · simp only [Ty.size]; rw [cellsAt_drop, show n * t'.size - (i.toNat + 1) * t'.size = (n - (i.toNat + 1)) * t'.size from by omega]
            refine h3.chg hc (fun d hd => hne d (.inr hd)) hSne hSS hbs (fun e => ?_)
            rcases hrng with ⟨_, g, g'⟩ | g
            · right; omega
            · exact absurd (by simp [e, g] : b ∈ P2) hbO.2.1
        · cases hz
      · cases hz
    | .fld i :: p, hR, _, _, _ => simp [RepBut] at hR
  | slc o t ih =>
    intro p b off O1 x hR u0 y0 hg b' off' hn hb hbs hnd hbO hO1 hSb hS hSS u y O2 z hc hy hz
    match p, hR, hg, hn, hz with
    | [], hR, hg, hn, hz =>
      have hz : (if u.sh = (Ty.slc o t).sh then some (⟨u, y⟩ : Sigma Ty.den) else none) = some z := by cases o <;> exact hz
      split at hz
      · rename_i e
        cases hz
        have hn : some (b, off) = some (b', off') := by cases o <;> exact hn
        simp only [Option.some.injEq, Prod.mk.injEq] at hn
        obtain ⟨rfl, rfl⟩ := hn
        have hR : O1 = [] := by cases o <;> exact hR
        exact ⟨O2, by rw [hR]; simp, hy, e⟩
      · cases hz
    | .idx i :: p, hR, hg, hn, hz =>
      cases o with
      | false => simp [RepBut] at hR
      | true =>
        obtain ⟨hi, c1, o1, cap, P1, P2, P3, e, e1, e2, e3, e4, e5, e6, e7⟩ := hR
        subst e
        simp only [Nav, e1] at hn
        simp only [setP] at hz
        split at hz
        · rename_i t' w hw
          split at hz
          · rename_i ht; subst ht; cases hz
            simp only [List.nodup_append, List.mem_append, List.nodup_cons, List.mem_cons, not_or] at hnd hbO
            obtain ⟨b1, b2, b3, b4⟩ := idx_bound (sz := t'.size) hi
            have hcap : List.length x * t'.size ≤ cap * t'.size := Nat.mul_le_mul_right _ e2
            have hfb := e4.blk
            have hc1 : c1 < H.size := (hO1 c1 (by simp)).2
            obtain ⟨O, g1, g2, g3⟩ := ih e6 hg hn (by omega) hc1 hnd.2.2.1.1 hnd.1.2.1 (fun c hc => hO1 c (by simp [hc])) (hO1 c1 (by simp)).1 hS hSS hc hy hw
            have hrng := RepBut.range e6 hg hn
            have hbb : b ≠ b' := by
              rintro rfl
              rcases hrng with ⟨g, _⟩ | g
              · exact hbO.1 g
              · exact hbO.2.2.1 g
            have hne : ∀ d, (d ∈ P1 ∨ d ∈ P3) → d ≠ b' ∧ d < H.size := by
              intro d hd
              refine ⟨?_, (hO1 d (by rcases hd with h | h <;> simp [h])).2⟩
              rintro rfl
              rcases hrng with ⟨g, _⟩ | g
              · subst g; rcases hd with h | h
                · exact hnd.1.1 h
                · exact hnd.1.2.2 h
              · rcases hd with h | h
                · exact hnd.2.2.2 _ h _ (.inl g) rfl
                · exact hnd.2.2.1.2.2 _ g _ h rfl
            have hSne : ∀ d, S d → d ≠ b' ∧ d < H.size := by
              intro d hd
              refine ⟨?_, hS d hd⟩
              rintro rfl
              rcases hrng with ⟨g, _⟩ | g
              · subst g; exact (hO1 _ (by simp)).1 hd
              · exact (hO1 _ (by simp [g])).1 hd
            have hhd : cellsAt H' b off 1 = [.slice (some ⟨c1, o1, none⟩) (List.length x) cap] := by
              rw [cellsAt_congr (hc.rest b hbb hbs)]; exact (cellsAt_one b off _).2 e1
            refine ⟨c1 :: (P1 ++ (O ++ P3)), ?_, .inr ⟨c1, o1, cap, P1 ++ (O ++ P3), by simp only [Ty.size, List.length_set]; exact hhd, by simpa using e2, e3, ?_, ?_, rfl, hc.free e4⟩, rfl⟩
            · rw [List.cons_append]
              refine List.Perm.cons c1 ?_
              rw [List.append_assoc]
              refine List.Perm.append_left P1 ?_
              refine (g1.append_right P3).trans ?_
              rw [List.append_assoc, List.append_assoc]
              exact List.Perm.append_left P2 List.perm_append_comm
            · rw [hc.length c1 hc1]; simp only [List.length_set]; omega
            · simp only [List.length_set]
              refine RepL.join (fun _ _ _ h => Rep.length h) b1 ?_ ?_ ?_
              · rw [cellsAt_take _ _ _ _ (by omega)]
                refine e5.chg hc (fun d hd => hne d (.inl hd)) hSne hSS hc1 (fun e => ?_)
                rcases hrng with ⟨_, g, g'⟩ | g
                · left; omega
                · exact absurd (by simp [e, g] : c1 ∈ P2) hnd.1.2.1
              · rw [cellsAt_drop, cellsAt_take _ _ _ _ (by omega)]; exact g2
              · rw [cellsAt_drop, show List.length x * t'.size - (i.toNat + 1) * t'.size = (List.length x - (i.toNat + 1)) * t'.size from by omega]
                refine e7.chg hc (fun d hd => hne d (.inr hd)) hSne hSS hc1 (fun e => ?_)
                rcases hrng with ⟨_, g, g'⟩ | g
                · right; omega
                · exact absurd (by simp [e, g] : c1 ∈ P2) hnd.1.2.1
          · cases hz
        · cases hz
    | .fld i :: p, hR, _, _, _ => cases o <;> simp [RepBut] at hR
  | _ =>
    intro p b off O1 x hR u0 y0 hg b' off' hn hb hbs hnd hbO hO1 hSb hS hSS u y O2 z hc hy hz
    match p, hR, hg, hn, hz with
    | [], hR, hg, hn, hz =>
      simp only [setP] at hz
      split at hz
      · rename_i e
        cases hz
        simp only [Nav, Option.some.injEq, Prod.mk.injEq] at hn
        obtain ⟨rfl, rfl⟩ := hn
        have hR : O1 = [] := hR
        exact ⟨O2, by rw [hR]; simp, hy, e⟩
      · cases hz
    | .fld i :: p, hR, _, _, _ => simp [RepBut] at hR
    | .idx i :: p, hR, _, _, _ => simp [RepBut] at hR

end
end Go.Ex
