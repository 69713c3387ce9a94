import Derived.Orders
import Derived.Below
import Derived.KernelRfl
import Derived.Laws.Cells
namespace Go.Ex

inductive Ty where
  | int (k : IntKind) | bool | str | unit
  | pair (a b : Ty)
  | arr (n : Nat) (t : Ty)
  | slc (o : Bool) (t : Ty)
  deriving DecidableEq, Inhabited

@[reducible] def Ty.den : Ty → Type
  | .int _ => Int
  | .bool => Bool
  | .str => List UInt8
  | .unit => Unit
  | .pair a b => a.den × b.den
  | .arr _ t => List t.den
  | .slc _ t => List t.den

def Ty.dflt : (t : Ty) → t.den
  | .int _ => (0 : Int)
  | .bool => false
  | .str => ([] : List UInt8)
  | .unit => ()
  | .pair a b => (a.dflt, b.dflt)
  | .arr n t => List.replicate n t.dflt
  | .slc _ _ => []

def Ty.size : Ty → Nat
  | .int _ | .bool | .str | .slc _ _ => 1
  | .unit => 0
  | .pair a b => a.size + b.size
  | .arr n t => n * t.size

/-- no owned slice in it -/
def Ty.shared : Ty → Bool
  | .int _ | .bool | .str | .unit => true
  | .pair a b => a.shared && b.shared
  | .arr _ t => t.shared
  | .slc o t => !o && t.shared

/-- the type with every slice owned -/
def Ty.full : Ty → Ty
  | .pair a b => .pair a.full b.full
  | .arr n t => .arr n t.full
  | .slc _ t => .slc true t.full
  | t => t

def Ty.agg : Ty → Bool
  | .pair _ _ | .unit | .arr _ _ => true
  | _ => false

/-- the type with every slice shared -/
def Ty.sh : Ty → Ty
  | .pair a b => .pair a.sh b.sh
  | .arr n t => .arr n t.sh
  | .slc _ t => .slc false t.sh
  | t => t

def inK (k : IntKind) (n : Int) : Prop := k.min ≤ n ∧ n ≤ k.max

def blk (H : Array Go.Obj) (b : Nat) : List Value :=
  match H[b]? with
  | some (.cells arr _ _) => arr.toList
  | _ => []

def cellsAt (H : Array Go.Obj) (b off n : Nat) : List Value := ((blk H b).drop off).take n

/-- what a slice's capacity may be: an owned slice without room lies nowhere -/
def CapOk (o : Bool) (cap : Nat) : Prop := cap ≤ maxLen ∧ (o = true → 1 ≤ cap)

def RepL {α : Type} (R : List Nat → List Value → α → Prop) (sz : Nat) : List Nat → List Value → List α → Prop
  | O, cs, [] => O = [] ∧ cs = []
  | O, cs, x :: l => ∃ O1 O2, O = O1 ++ O2 ∧ R O1 (cs.take sz) x ∧ RepL R sz O2 (cs.drop sz) l

/-- a block of the call's own, free to be written -/
def Lie (H : Array Go.Obj) (b : Nat) (arr : Array Value) (T : TypeId) (fz : Nat × Nat) : Prop := H[b]? = some (.cells arr T fz) ∧ (fz = (0, 0) ∨ arr.size ≤ fz.1)

def Free (H : Array Go.Obj) (b n : Nat) : Prop := ∃ arr T, (∃ fz, Lie H b arr T fz) ∧ n ≤ arr.size

/-- the cells 'cs' hold the value x of type t; its owned slices lie in the blocks O, its shared ones in blocks of S -/
def Rep (H : Array Go.Obj) (S : Nat → Prop) : (t : Ty) → List Nat → List Value → t.den → Prop
  | .int k, O, cs, n => O = [] ∧ cs = [.int k n] ∧ inK k n
  | .bool, O, cs, b => O = [] ∧ cs = [.bool b]
  | .str, O, cs, s => O = [] ∧ cs = [.string ⟨s.toArray⟩] ∧ s.length ≤ maxLen
  | .unit, O, cs, _ => O = [] ∧ cs = []
  | .pair a b, O, cs, x => ∃ O1 O2, O = O1 ++ O2 ∧ Rep H S a O1 (cs.take a.size) x.1 ∧ Rep H S b O2 (cs.drop a.size) x.2
  | .arr n t, O, cs, l => List.length l = n ∧ RepL (Rep H S t) t.size O cs l
  | .slc o t, O, cs, l =>
    (O = [] ∧ (∃ a c, cs = [.slice a 0 c] ∧ (o = true → c = 0)) ∧ l = []) ∨
    ∃ b off cap O', cs = [.slice (some ⟨b, off, none⟩) (List.length l) cap] ∧ List.length l ≤ cap ∧ CapOk o cap ∧
      off + List.length l * t.size ≤ (blk H b).length ∧ RepL (Rep H S t) t.size O' (cellsAt H b off (List.length l * t.size)) l ∧
      match o with
      | true => O = b :: O' ∧ Free H b (off + cap * t.size)
      | false => O = [] ∧ O' = [] ∧ S b

section
variable {H H' : Array Go.Obj} {S S' : Nat → Prop}

theorem blk_congr {b : Nat} (h : H'[b]? = H[b]?) : blk H' b = blk H b := by simp only [blk, h]
theorem cellsAt_congr {b : Nat} (h : H'[b]? = H[b]?) (off n : Nat) : cellsAt H' b off n = cellsAt H b off n := by simp only [cellsAt, blk_congr h]

theorem RepL.mono {α : Type} {R R' : List Nat → List Value → α → Prop} {sz : Nat} {L : List Nat} : ∀ {l : List α} {O : List Nat} {cs : List Value},
    (∀ b ∈ O, b ∈ L) → (∀ O cs x, (∀ b ∈ O, b ∈ L) → R O cs x → R' O cs x) → RepL R sz O cs l → RepL R' sz O cs l
  | [], _, _, _, _, h => h
  | _ :: _, _, _, hL, hr, ⟨O1, O2, e, h1, h2⟩ => by
    subst e
    exact ⟨O1, O2, rfl, hr _ _ _ (fun b hb => hL b (by simp [hb])) h1, RepL.mono (fun b hb => hL b (by simp [hb])) hr h2⟩

/-- L1: what is held is held still where the heap has not turned in the blocks that matter -/
theorem Rep.stable : ∀ {t : Ty} {O : List Nat} {cs : List Value} {x : t.den}, Rep H S t O cs x →
    (∀ b, b ∈ O ∨ S b → H'[b]? = H[b]?) → (∀ b, S b → S' b) → Rep H' S' t O cs x := by
  intro t
  induction t with
  | int k => intro O cs x h _ _; exact h
  | bool => intro O cs x h _ _; exact h
  | str => intro O cs x h _ _; exact h
  | unit => intro O cs x h _ _; exact h
  | pair a b iha ihb =>
    rintro O cs x ⟨O1, O2, rfl, h1, h2⟩ hH hS
    exact ⟨O1, O2, rfl, iha h1 (fun b hb => hH b (hb.imp (fun h => by simp [h]) id)) hS, ihb h2 (fun b hb => hH b (hb.imp (fun h => by simp [h]) id)) hS⟩
  | arr n t ih =>
    rintro O cs x ⟨h1, h2⟩ hH hS
    refine ⟨h1, RepL.mono (L := O) (fun _ h => h) (fun O1 c y hL hr => ?_) h2⟩
    exact ih hr (fun b hb => hH b (hb.imp (hL b) id)) hS
  | slc o t ih =>
    rintro O cs x h hH hS
    rcases h with h | ⟨b, off, cap, O', h1, h2, h3, h4, h5, h6⟩
    · exact Or.inl h
    · refine Or.inr ⟨b, off, cap, O', h1, h2, h3, ?_⟩
      have hb : H'[b]? = H[b]? := by
        apply hH
        cases o with
        | true => left; rw [h6.1]; simp
        | false => right; exact h6.2.2
      have hsub : ∀ c ∈ O', c ∈ O := by
        intro c hc
        cases o with
        | true => rw [h6.1]; simp [hc]
        | false => rw [h6.2.1] at hc; cases hc
      rw [blk_congr hb, cellsAt_congr hb]
      refine ⟨h4, RepL.mono (L := O) hsub (fun O1 c y hL hr => ih hr (fun b hb => hH b (hb.imp (hL b) id)) hS) h5, ?_⟩
      cases o with
      | true => obtain ⟨e, arr, T, e1, e2⟩ := h6; obtain ⟨fz, e1, e3⟩ := e1; exact ⟨e, arr, T, ⟨fz, hb.trans e1, e3⟩, e2⟩
      | false => exact ⟨h6.1, h6.2.1, hS b h6.2.2⟩

theorem RepL.length {α : Type} {R : List Nat → List Value → α → Prop} {sz : Nat} (hR : ∀ O cs x, R O cs x → cs.length = sz) : ∀ {l : List α} {O : List Nat} {cs : List Value},
    RepL R sz O cs l → cs.length = l.length * sz
  | [], _, _, ⟨_, h⟩ => by simp [h]
  | x :: l, _, cs, ⟨O1, O2, _, h1, h2⟩ => by
    have e1 := hR _ _ _ h1
    have e2 := RepL.length hR h2
    simp only [List.length_take, List.length_drop, List.length_cons, Nat.succ_mul] at *
    omega

theorem Rep.length : ∀ {t : Ty} {O : List Nat} {cs : List Value} {x : t.den}, Rep H S t O cs x → cs.length = t.size := by
  intro t
  induction t with
  | int k => rintro O cs x ⟨_, rfl, _⟩; rfl
  | bool => rintro O cs x ⟨_, rfl⟩; rfl
  | str => rintro O cs x ⟨_, rfl, _⟩; rfl
  | unit => rintro O cs x ⟨_, rfl⟩; rfl
  | pair a b iha ihb =>
    rintro O cs x ⟨O1, O2, rfl, h1, h2⟩
    have e1 := iha h1
    have e2 := ihb h2
    simp only [List.length_take, List.length_drop, Ty.size] at *
    omega
  | arr n t ih =>
    rintro O cs x ⟨h1, h2⟩
    have := RepL.length (fun _ _ _ h => ih h) h2
    simp only [Ty.size]
    rw [this, h1]
  | slc o t ih =>
    rintro O cs x h
    rcases h with ⟨_, ⟨_, _, rfl, _⟩, _⟩ | ⟨b, off, cap, O', rfl, _⟩ <;> rfl

theorem RepL.nilO {α : Type} {R : List Nat → List Value → α → Prop} {sz : Nat} (hR : ∀ O cs x, R O cs x → O = []) : ∀ {l : List α} {O : List Nat} {cs : List Value}, RepL R sz O cs l → O = []
  | [], _, _, ⟨h, _⟩ => h
  | _ :: _, _, _, ⟨O1, O2, e, h1, h2⟩ => by rw [e, hR _ _ _ h1, RepL.nilO hR h2]; rfl

theorem Rep.nilO : ∀ {t : Ty} {O : List Nat} {cs : List Value} {x : t.den}, t.shared = true → Rep H S t O cs x → O = [] := by
  intro t
  induction t with
  | int k => intro O cs x _ h; exact h.1
  | bool => intro O cs x _ h; exact h.1
  | str => intro O cs x _ h; exact h.1
  | unit => intro O cs x _ h; exact h.1
  | pair a b iha ihb =>
    rintro O cs x hs ⟨O1, O2, rfl, h1, h2⟩
    simp only [Ty.shared, Bool.and_eq_true] at hs
    rw [iha hs.1 h1, ihb hs.2 h2]; rfl
  | arr n t ih =>
    rintro O cs x hs ⟨h1, h2⟩
    exact RepL.nilO (fun _ _ _ h => ih hs h) h2
  | slc o t ih =>
    rintro O cs x hs h
    simp only [Ty.shared, Bool.and_eq_true, Bool.not_eq_true'] at hs
    rcases h with h | ⟨b, off, cap, O', _, _, _, _, _, h6⟩
    · exact h.1
    · rw [hs.1] at h6; exact h6.1

/-- owned blocks are the heap's, and free -/
theorem RepL.memO {α : Type} {R : List Nat → List Value → α → Prop} {sz : Nat} {p : Nat → Prop} (hR : ∀ O cs x, R O cs x → ∀ b ∈ O, p b) : ∀ {l : List α} {O : List Nat} {cs : List Value}, RepL R sz O cs l → ∀ b ∈ O, p b
  | [], _, _, ⟨h, _⟩ => by rw [h]; simp
  | _ :: _, _, _, ⟨O1, O2, e, h1, h2⟩ => by
    subst e; intro b hb
    rcases List.mem_append.1 hb with h | h
    · exact hR _ _ _ h1 b h
    · exact RepL.memO hR h2 b h

theorem Rep.memO : ∀ {t : Ty} {O : List Nat} {cs : List Value} {x : t.den}, Rep H S t O cs x → ∀ b ∈ O, Free H b 0 := by
  intro t
  induction t with
  | int k => intro O cs x h; rw [h.1]; simp
  | bool => intro O cs x h; rw [h.1]; simp
  | str => intro O cs x h; rw [h.1]; simp
  | unit => intro O cs x h; rw [h.1]; simp
  | pair a b iha ihb =>
    rintro O cs x ⟨O1, O2, rfl, h1, h2⟩ b hb
    rcases List.mem_append.1 hb with h | h
    · exact iha h1 b h
    · exact ihb h2 b h
  | arr n t ih =>
    rintro O cs x ⟨h1, h2⟩
    exact RepL.memO (fun _ _ _ h => ih h) h2
  | slc o t ih =>
    rintro O cs x h
    rcases h with h | ⟨b, off, cap, O', _, _, _, _, h5, h6⟩
    · rw [h.1]; simp
    · cases o with
      | true =>
        intro c hc
        rw [h6.1] at hc
        rcases List.mem_cons.1 hc with rfl | hc
        · obtain ⟨_, arr, T, e, _⟩ := h6; exact ⟨arr, T, e, Nat.zero_le _⟩
        · exact RepL.memO (fun _ _ _ h => ih h) h5 c hc
      | false => rw [h6.1]; simp

/-! lists of parts -/
theorem RepL.split {α : Type} {R : List Nat → List Value → α → Prop} {sz : Nat} {d : α} : ∀ {l : List α} {O : List Nat} {cs : List Value} {i : Nat}, i < l.length → RepL R sz O cs l →
    ∃ O1 O2 O3, O = O1 ++ (O2 ++ O3) ∧ RepL R sz O1 (cs.take (i * sz)) (l.take i) ∧ R O2 ((cs.drop (i * sz)).take sz) (l.getD i d) ∧ RepL R sz O3 (cs.drop ((i + 1) * sz)) (l.drop (i + 1))
  | [], _, _, _, hi, _ => by simp at hi
  | x :: l, _, cs, 0, _, ⟨O1, O2, e, h1, h2⟩ => ⟨[], O1, O2, by simpa using e, by simp [RepL], by simpa using h1, by simpa using h2⟩
  | x :: l, _, cs, i + 1, hi, ⟨O1, O2, e, h1, h2⟩ => by
    obtain ⟨P1, P2, P3, e', g1, g2, g3⟩ := RepL.split (d := d) (i := i) (by simpa using hi) h2
    refine ⟨O1 ++ P1, P2, P3, by rw [e, e']; simp, ?_, ?_, ?_⟩
    · refine ⟨O1, P1, rfl, ?_, ?_⟩
      · rw [List.take_take, Nat.min_eq_left (by rw [Nat.succ_mul]; omega)]; exact h1
      · rw [List.drop_take, show (i + 1) * sz - sz = i * sz from by rw [Nat.succ_mul]; omega]; exact g1
    · rw [List.drop_drop, show sz + i * sz = (i + 1) * sz from by rw [Nat.succ_mul]; omega] at g2
      simpa using g2
    · rw [List.drop_drop, show sz + (i + 1) * sz = (i + 1 + 1) * sz from by rw [Nat.succ_mul (i + 1)]; omega] at g3
      simpa using g3

theorem RepL.join {α : Type} {R : List Nat → List Value → α → Prop} {sz : Nat} (hR : ∀ O cs x, R O cs x → cs.length = sz) {y : α} : ∀ {l : List α} {O1 O2 O3 : List Nat} {cs : List Value} {i : Nat}, i < l.length →
    RepL R sz O1 (cs.take (i * sz)) (l.take i) → R O2 ((cs.drop (i * sz)).take sz) y → RepL R sz O3 (cs.drop ((i + 1) * sz)) (l.drop (i + 1)) →
    RepL R sz (O1 ++ (O2 ++ O3)) cs (l.set i y)
  | [], _, _, _, _, _, hi, _, _, _ => by simp at hi
  | x :: l, O1, O2, O3, cs, 0, _, h1, h2, h3 => by
    simp only [Nat.zero_mul, List.take_zero, RepL] at h1
    rw [h1.1]
    exact ⟨O2, O3, rfl, by simpa using h2, by simpa using h3⟩
  | x :: l, O1, O2, O3, cs, i + 1, hi, ⟨P1, P2, e, h1, h1'⟩, h2, h3 => by
    subst e
    refine ⟨P1, P2 ++ (O2 ++ O3), by simp, ?_, ?_⟩
    · rw [List.take_take, Nat.min_eq_left (by rw [Nat.succ_mul]; omega)] at h1; exact h1
    · refine RepL.join hR (by simpa using hi) ?_ ?_ ?_
      · rw [List.drop_take, show (i + 1) * sz - sz = i * sz from by rw [Nat.succ_mul]; omega] at h1'; exact h1'
      · rw [List.drop_drop, show sz + i * sz = (i + 1) * sz from by rw [Nat.succ_mul]; omega]; exact h2
      · rw [List.drop_drop, show sz + (i + 1) * sz = (i + 1 + 1) * sz from by rw [Nat.succ_mul (i + 1)]; omega]
        simpa using h3

theorem RepL.append {α : Type} {R : List Nat → List Value → α → Prop} {sz : Nat} (hR : ∀ O cs x, R O cs x → cs.length = sz) : ∀ {l l' : List α} {O O' : List Nat} {cs cs' : List Value},
    RepL R sz O cs l → RepL R sz O' cs' l' → RepL R sz (O ++ O') (cs ++ cs') (l ++ l')
  | [], _, _, _, _, _, ⟨h1, h2⟩, h => by subst h1; subst h2; simpa using h
  | x :: l, l', O, O', cs, cs', ⟨O1, O2, e, h1, h2⟩, h => by
    have hl := hR _ _ _ h1
    simp only [List.length_take] at hl
    refine ⟨O1, O2 ++ O', by rw [e]; simp, ?_, ?_⟩
    · rw [List.take_append_of_le_length (by omega)]; exact h1
    · rw [List.drop_append_of_le_length (by omega)]; exact RepL.append hR h2 h

/-- the blocks are told by the cells -/
theorem RepL.det {α : Type} {R R' : List Nat → List Value → α → Prop} {sz : Nat} (hR : ∀ O O' cs x x', R O cs x → R' O' cs x' → O = O') : ∀ {l l' : List α} {O O' : List Nat} {cs : List Value},
    l.length = l'.length → RepL R sz O cs l → RepL R' sz O' cs l' → O = O'
  | [], [], _, _, _, _, ⟨h, _⟩, ⟨h', _⟩ => by rw [h, h']
  | _ :: _, _ :: _, _, _, _, hl, ⟨O1, O2, e, h1, h2⟩, ⟨O1', O2', e', h1', h2'⟩ => by
    rw [e, e', hR _ _ _ _ _ h1 h1', RepL.det hR (by simpa using hl) h2 h2']

theorem Rep.det : ∀ {t : Ty} {O O' : List Nat} {cs : List Value} {x x' : t.den}, Rep H S t O cs x → Rep H S' t O' cs x' → O = O' := by
  intro t
  induction t with
  | int k => intro O O' cs x x' h h'; rw [h.1, h'.1]
  | bool => intro O O' cs x x' h h'; rw [h.1, h'.1]
  | str => intro O O' cs x x' h h'; rw [h.1, h'.1]
  | unit => intro O O' cs x x' h h'; rw [h.1, h'.1]
  | pair a b iha ihb =>
    rintro O O' cs x x' ⟨O1, O2, rfl, h1, h2⟩ ⟨O1', O2', rfl, h1', h2'⟩
    rw [iha h1 h1', ihb h2 h2']
  | arr n t ih =>
    rintro O O' cs x x' ⟨h1, h2⟩ ⟨h1', h2'⟩
    exact RepL.det (R := Rep H S t) (R' := Rep H S' t) (fun O O' cs x x' h h' => ih h h') (h1.trans h1'.symm) h2 h2'
  | slc o t ih =>
    rintro O O' cs x x' h h'
    cases o with
    | false =>
      have hO : ∀ {O : List Nat} {x : (Ty.slc false t).den} {S : Nat → Prop}, Rep H S (.slc false t) O cs x → O = [] := by
        rintro O x S (h | ⟨b, off, cap, O', _, _, _, _, _, h6⟩)
        · exact h.1
        · exact h6.1
      rw [hO h, hO h']
    | true =>
      rcases h with ⟨h1, ⟨a, c, h2, h3⟩, h4⟩ | ⟨b, off, cap, P, c1, c2, c3, c4, c5, c6, c7⟩
      · rcases h' with ⟨k1, _⟩ | ⟨b', off', cap', P', d1, d2, d3, d4, d5, d6, d7⟩
        · rw [h1, k1]
        · rw [h2] at d1; simp only [List.cons.injEq, Value.slice.injEq, and_true] at d1; have := d3.2 rfl; have := h3 rfl; omega
      · rcases h' with ⟨h1, ⟨a, c, h2, h3⟩, h4⟩ | ⟨b', off', cap', P', d1, d2, d3, d4, d5, d6, d7⟩
        · rw [h2] at c1; simp only [List.cons.injEq, Value.slice.injEq, and_true] at c1; have := c3.2 rfl; have := h3 rfl; omega
        · rw [c1] at d1
          simp only [List.cons.injEq, Value.slice.injEq, Option.some.injEq, Addr.mk.injEq, and_true] at d1
          obtain ⟨⟨rfl, rfl⟩, hl, rfl⟩ := d1
          rw [c6, d6, RepL.det (R := Rep H S t) (R' := Rep H S' t) (fun O O' cs x x' h h' => ih h h') hl c5 (by rw [hl]; exact d5)]

end
end Go.Ex
