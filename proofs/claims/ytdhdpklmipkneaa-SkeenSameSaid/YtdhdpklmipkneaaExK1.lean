import Derived.Orders
import Derived.Below
import Derived.KernelRfl
import Derived.Laws.Cells

namespace Go.Ex

inductive Ty where
 | int (k : IntKind) | bool | str | unit
 | fn (f : Nat)
 | map (o : Bool) (k v : Ty)
 | box (o : Bool) (g : Option Nat) (t : Ty)
 | pair (a b : Ty)
 | arr (n : Nat) (t : Ty)
 | slc (o : Bool) (t : Ty)
 | hole (t : Ty)
 deriving DecidableEq, Inhabited

@[reducible] def Ty.den : Ty → Type
 | .int _ => Int
 | .bool => Bool
 | .str => List UInt8
 | .unit => Unit
 | .fn _ => Bool
 | .map _ k v => Option (List (k.den × v.den))
 | .box _ _ t => Option t.den
 | .pair a b => a.den × b.den
 | .arr _ t => List t.den
 | .slc _ t => List t.den
 | .hole t => List t.den

def Ty.dflt : (t : Ty) → t.den
 | .int _ => (0 : Int)
 | .bool => false
 | .str => ([] : List UInt8)
 | .unit => ()
 | .fn _ => false
 | .map _ _ _ => none
 | .box _ _ _ => none
 | .pair a b => (a.dflt, b.dflt)
 | .arr n t => List.replicate n t.dflt
 | .slc _ _ => []
 | .hole _ => []

def Ty.size : Ty → Nat
 | .int _ | .bool | .str | .fn _ | .slc _ _ | .map _ _ _ | .box _ _ _ | .hole _ => 1
 | .unit => 0
 | .pair a b => a.size + b.size
 | .arr n t => n * t.size

def Ty.shared : Ty → Bool
 | .int _ | .bool | .str | .unit | .fn _ | .hole _ => true
 | .pair a b => a.shared && b.shared
 | .arr _ t => t.shared
 | .slc o t => !o && t.shared
 | .map o _ _ => !o
 | .box o _ t => !o && t.shared

def Ty.full : Ty → Ty
 | .pair a b => .pair a.full b.full
 | .arr n t => .arr n t.full
 | .slc _ t => .slc true t.full
 | .box _ g t => .box true g t.full
 | .map _ k v => .map true k v
 | t => t

def Ty.noH : Ty → Bool
 | .pair a b => a.noH && b.noH
 | .arr _ t => t.noH
 | .slc _ t => t.noH
 | .box _ _ t => t.noH
 | .map _ k v => k.noH && v.noH
 | .hole _ => false
 | _ => true

def Ty.agg : Ty → Bool
 | .pair _ _ | .unit | .arr _ _ => true
 | _ => false

def Ty.sh : Ty → Ty
 | .pair a b => .pair a.sh b.sh
 | .arr n t => .arr n t.sh
 | .slc _ t => .slc false t.sh
 | .hole t => .slc false t.sh
 | .box _ g t => .box false g t.sh
 | .map _ k v => .map false k v
 | t => t

def Ty.shH : Ty → Ty
 | .pair a b => .pair a.shH b.shH
 | .hole t => .hole t
 | .arr n t => .arr n t.sh
 | .slc _ t => .slc false t.sh
 | .box _ g t => .box false g t.sh
 | .map _ k v => .map false k v
 | t => t

def Ty.okH : Ty → Bool
 | .pair a b => a.okH && b.okH
 | .hole _ => true
 | .arr _ t => t.noH
 | .slc _ t => t.noH
 | .box _ _ t => t.noH
 | .map _ k v => k.noH && v.noH
 | _ => true

def isSl : Value → Bool
 | .slice _ _ _ => true
 | _ => false

def inK (k : IntKind) (n : Int) : Prop := k.min ≤ n ∧ n ≤ k.max

def blk (H : Array Go.Obj) (b : Nat) : List Value :=
 match H[b]? with
 | some (.cells arr _ _) => arr.toList
 | _ => []

def cellsAt (H : Array Go.Obj) (b off n : Nat) : List Value := ((blk H b).drop off).take n

def CapOk (o : Bool) (cap : Nat) : Prop := cap ≤ maxLen ∧ (o = true → 1 ≤ cap)

def RepL {α : Type} (R : List Nat → List Value → α → Prop) (sz : Nat) : List Nat → List Value → List α → Prop
 | O, cs, [] => O = [] ∧ cs = []
 | O, cs, x :: l => ∃ O1 O2, O = O1 ++ O2 ∧ R O1 (cs.take sz) x ∧ RepL R sz O2 (cs.drop sz) l

def Lie (H : Array Go.Obj) (b : Nat) (arr : Array Value) (T : TypeId) (fz : Nat × Nat) : Prop := H[b]? = some (.cells arr T fz) ∧ (fz = (0, 0) ∨ arr.size ≤ fz.1)

def Free (H : Array Go.Obj) (b n : Nat) : Prop := ∃ arr T, (∃ fz, Lie H b arr T fz) ∧ n ≤ arr.size

def fnV (f : Nat) (b : Bool) : Value := match b with | true => .func (.func f) #[] #[] | false => .nilFunc

def boxV (g : Option Nat) (a : Addr) : Value := match g with | none => .pointer (some a) | some f => .func (.func f) #[] #[.pointer (some a)]
def boxN (g : Option Nat) : Value := match g with | none => .pointer none | some _ => .nilFunc
theorem boxV_inj {g : Option Nat} {a b : Addr} (h : boxV g a = boxV g b) : a = b := by cases g <;> simpa [boxV] using h
theorem boxV_ne {g : Option Nat} {a : Addr} (h : boxV g a = boxN g) : False := by cases g <;> cases h

def toV (t : Ty) (cs : List Value) : Value := if t.agg then .agg cs.toArray else cs.headD undef

def RepM {α β : Type} (R : List Value → α → Prop) (R' : List Value → β → Prop) (t u : Ty) : List MapEntry → List (α × β) → Prop
 | [], l => l = []
 | e :: es, l => ∃ x y l' cs ds, l = (x, y) :: l' ∧ e.key = toV t cs ∧ R cs x ∧ e.val = toV u ds ∧ R' ds y ∧ RepM R R' t u es l'

def Rep (H : Array Go.Obj) (S : Nat → Prop) : (t : Ty) → List Nat → List Value → t.den → Prop
 | .int k, O, cs, n => O = [] ∧ cs = [.int k n] ∧ inK k n
 | .bool, O, cs, b => O = [] ∧ cs = [.bool b]
 | .str, O, cs, s => O = [] ∧ cs = [.string ⟨s.toArray⟩] ∧ s.length ≤ maxLen
 | .unit, O, cs, _ => O = [] ∧ cs = []
 | .fn f, O, cs, b => O = [] ∧ cs = [fnV f b]
 | .map o k v, O, cs, x => (x = none ∧ O = [] ∧ cs = [.map none]) ∨
  ∃ l b es ck, x = some l ∧ cs = [.map (some b)] ∧ H[b]? = some (.map es ck) ∧ RepM (Rep H S k []) (Rep H S v []) k v es.toList l ∧
   match o with
   | true => O = [b]
   | false => O = [] ∧ S b
 | .box o g t, O, cs, x => (x = none ∧ O = [] ∧ cs = [boxN g]) ∨
  ∃ y b off O', x = some y ∧ cs = [boxV g ⟨b, off, none⟩] ∧ off + t.size ≤ (blk H b).length ∧ Rep H S t O' (cellsAt H b off t.size) y ∧
   match o with
   | true => O = b :: O' ∧ Free H b (off + t.size)
   | false => O = [] ∧ O' = [] ∧ S b
 | .pair a b, O, cs, x => ∃ O1 O2, O = O1 ++ O2 ∧ Rep H S a O1 (cs.take a.size) x.1 ∧ Rep H S b O2 (cs.drop a.size) x.2
 | .arr n t, O, cs, l => List.length l = n ∧ RepL (Rep H S t) t.size O cs l
 | .slc o t, O, cs, l =>
  (O = [] ∧ (∃ a c, cs = [.slice a 0 c] ∧ (o = true → c = 0)) ∧ l = []) ∨
  ∃ b off cap O', cs = [.slice (some ⟨b, off, none⟩) (List.length l) cap] ∧ List.length l ≤ cap ∧ CapOk o cap ∧
   off + List.length l * t.size ≤ (blk H b).length ∧ RepL (Rep H S t) t.size O' (cellsAt H b off (List.length l * t.size)) l ∧
   match o with
   | true => O = b :: O' ∧ Free H b (off + cap * t.size)
   | false => O = [] ∧ O' = [] ∧ S b
 | .hole _, O, cs, _ => O = [] ∧ ∃ v, cs = [v] ∧ isSl v = true

section
variable {H H' : Array Go.Obj} {S S' : Nat → Prop}

theorem blk_congr {b : Nat} (h : H'[b]? = H[b]?) : blk H' b = blk H b := by simp only [blk, h]
theorem cellsAt_congr {b : Nat} (h : H'[b]? = H[b]?) (off n : Nat) : cellsAt H' b off n = cellsAt H b off n := by simp only [cellsAt, blk_congr h]

theorem RepL.mono {α : Type} {R R' : List Nat → List Value → α → Prop} {sz : Nat} {L : List Nat} : ∀ {l : List α} {O : List Nat} {cs : List Value},
  (∀ b ∈ O, b ∈ L) → (∀ O cs x, (∀ b ∈ O, b ∈ L) → R O cs x → R' O cs x) → RepL R sz O cs l → RepL R' sz O cs l
 | [], _, _, _, _, h => h
 | _ :: _, _, _, hL, hr, ⟨O1, O2, e, h1, h2⟩ => by
  subst e
  exact ⟨O1, O2, rfl, hr _ _ _ (fun b hb => hL b (by simp [hb])) h1, RepL.mono (fun b hb => hL b (by simp [hb])) hr h2⟩

theorem RepM.mono {α β : Type} {R R1 : List Value → α → Prop} {R' R1' : List Value → β → Prop} {t u : Ty} (h : ∀ cs x, R cs x → R1 cs x) (h' : ∀ cs x, R' cs x → R1' cs x) : ∀ {es : List MapEntry} {l : List (α × β)}, RepM R R' t u es l → RepM R1 R1' t u es l
 | [], _, e => e
 | _ :: _, _, ⟨x, y, l', cs, ds, e, e1, e2, e3, e4, e5⟩ => ⟨x, y, l', cs, ds, e, e1, h _ _ e2, e3, h' _ _ e4, RepM.mono h h' e5⟩

theorem Rep.stable : ∀ {t : Ty} {O : List Nat} {cs : List Value} {x : t.den}, Rep H S t O cs x →
  (∀ b, b ∈ O ∨ S b → H'[b]? = H[b]?) → (∀ b, S b → S' b) → Rep H' S' t O cs x := by
 intro t
 induction t with
 | int k => intro O cs x h _ _; exact h
 | bool => intro O cs x h _ _; exact h
 | str => intro O cs x h _ _; exact h
 | unit => intro O cs x h _ _; exact h
 | fn f => intro O cs x h _ _; exact h
 | hole t => intro O cs x h _ _; exact h
 | map o k v ihk ihv =>
  rintro O cs x (h | ⟨l, b, es, ck, h0, h2, h3, h4, h5⟩) hH hS
  ·exact .inl h
  have hS1 : ∀ c, c ∈ ([] : List Nat) ∨ S c → H'[c]? = H[c]? := fun c hc => hH c (.inr (by rcases hc with hc | hc; cases hc; exact hc))
  have hb : H'[b]? = H[b]? := by
   apply hH
   cases o with
   | true => left; rw [h5]; simp
   | false => right; exact h5.2
  refine .inr ⟨l, b, es, ck, h0, h2, hb.trans h3, h4.mono (fun _ _ h => ihk h hS1 hS) (fun _ _ h => ihv h hS1 hS), ?_⟩
  cases o with
  | true => exact h5
  | false => exact ⟨h5.1, hS b h5.2⟩
 | box o g t ih =>
  rintro O cs x (h | ⟨y, b, off, O', h0, h1, h2, h3, h4⟩) hH hS
  ·exact .inl h
  have hb : H'[b]? = H[b]? := by
   apply hH
   cases o with
   | true => left; rw [h4.1]; simp
   | false => right; exact h4.2.2
  have hsub : ∀ c ∈ O', c ∈ O := by
   intro c hc
   cases o with
   | true => rw [h4.1]; simp [hc]
   | false => rw [h4.2.1] at hc; cases hc
  refine .inr ⟨y, b, off, O', h0, h1, by rw [blk_congr hb]; exact h2, by rw [cellsAt_congr hb]; exact ih h3 (fun b hb => hH b (hb.imp (hsub b) id)) hS, ?_⟩
  cases o with
  | true => obtain ⟨e, arr, T, e1, e2⟩ := h4; obtain ⟨fz, e1, e3⟩ := e1; exact ⟨e, arr, T, ⟨fz, hb.trans e1, e3⟩, e2⟩
  | false => exact ⟨h4.1, h4.2.1, hS b h4.2.2⟩
 | pair a b iha ihb =>
  rintro O cs x ⟨O1, O2, rfl, h1, h2⟩ hH hS
  exact ⟨O1, O2, rfl, iha h1 (fun b hb => hH b (hb.imp (fun h => by simp [h]) id)) hS, ihb h2 (fun b hb => hH b (hb.imp (fun h => by simp [h]) id)) hS⟩
 | arr n t ih =>
  rintro O cs x ⟨h1, h2⟩ hH hS
  refine ⟨h1, RepL.mono (L := O) (fun _ h => h) (fun O1 c y hL hr => ?_) h2⟩
  exact ih hr (fun b hb => hH b (hb.imp (hL b) id)) hS
 | slc o t ih =>
  rintro O cs x h hH hS
  rcases h with h | ⟨b, off, cap, O', h1, h2, h3, h4, h5, h6⟩
  ·exact Or.inl h
  ·refine Or.inr ⟨b, off, cap, O', h1, h2, h3, ?_⟩
   have hb : H'[b]? = H[b]? := by
    apply hH
    cases o with
    | true => left; rw [h6.1]; simp
    | false => right; exact h6.2.2
   have hsub : ∀ c ∈ O', c ∈ O := by
    intro c hc
    cases o with
    | true => rw [h6.1]; simp [hc]
    | false => rw [h6.2.1] at hc; cases hc
   rw [blk_congr hb, cellsAt_congr hb]
   refine ⟨h4, RepL.mono (L := O) hsub (fun O1 c y hL hr => ih hr (fun b hb => hH b (hb.imp (hL b) id)) hS) h5, ?_⟩
   cases o with
   | true => obtain ⟨e, arr, T, e1, e2⟩ := h6; obtain ⟨fz, e1, e3⟩ := e1; exact ⟨e, arr, T, ⟨fz, hb.trans e1, e3⟩, e2⟩
   | false => exact ⟨h6.1, h6.2.1, hS b h6.2.2⟩

theorem RepL.length {α : Type} {R : List Nat → List Value → α → Prop} {sz : Nat} (hR : ∀ O cs x, R O cs x → cs.length = sz) : ∀ {l : List α} {O : List Nat} {cs : List Value},
  RepL R sz O cs l → cs.length = l.length * sz
 | [], _, _, ⟨_, h⟩ => by simp [h]
 | x :: l, _, cs, ⟨O1, O2, _, h1, h2⟩ => by
  have e1 := hR _ _ _ h1
  have e2 := RepL.length hR h2
  simp only [List.length_take, List.length_drop, List.length_cons, Nat.succ_mul] at *
  omega

theorem Rep.length : ∀ {t : Ty} {O : List Nat} {cs : List Value} {x : t.den}, Rep H S t O cs x → cs.length = t.size := by
 intro t
 induction t with
 | int k => rintro O cs x ⟨_, rfl, _⟩; rfl
 | bool => rintro O cs x ⟨_, rfl⟩; rfl
 | str => rintro O cs x ⟨_, rfl, _⟩; rfl
 | unit => rintro O cs x ⟨_, rfl⟩; rfl
 | fn f => rintro O cs x ⟨_, rfl⟩; rfl
 | hole t => rintro O cs x ⟨_, v, rfl, _⟩; rfl
 | map o k v => rintro O cs x (⟨_, _, rfl⟩ | ⟨l, b, es, ck, _, rfl, _⟩) <;> rfl
 | box o g t => rintro O cs x (⟨_, _, rfl⟩ | ⟨y, b, off, O', _, rfl, _⟩) <;> rfl
 | pair a b iha ihb =>
  rintro O cs x ⟨O1, O2, rfl, h1, h2⟩
  have e1 := iha h1
  have e2 := ihb h2
  simp only [List.length_take, List.length_drop, Ty.size] at *
  omega
 | arr n t ih =>
  rintro O cs x ⟨h1, h2⟩
  have := RepL.length (fun _ _ _ h => ih h) h2
  simp only [Ty.size]
  rw [this, h1]
 | slc o t ih =>
  rintro O cs x h
  rcases h with ⟨_, ⟨_, _, rfl, _⟩, _⟩ | ⟨b, off, cap, O', rfl, _⟩ <;> rfl

theorem RepL.nilO {α : Type} {R : List Nat → List Value → α → Prop} {sz : Nat} (hR : ∀ O cs x, R O cs x → O = []) : ∀ {l : List α} {O : List Nat} {cs : List Value}, RepL R sz O cs l → O = []
 | [], _, _, ⟨h, _⟩ => h
 | _ :: _, _, _, ⟨O1, O2, e, h1, h2⟩ => by rw [e, hR _ _ _ h1, RepL.nilO hR h2]; rfl

theorem Rep.nilO : ∀ {t : Ty} {O : List Nat} {cs : List Value} {x : t.den}, t.shared = true → Rep H S t O cs x → O = [] := by
 intro t
 induction t with
 | int k => intro O cs x _ h; exact h.1
 | bool => intro O cs x _ h; exact h.1
 | str => intro O cs x _ h; exact h.1
 | unit => intro O cs x _ h; exact h.1
 | fn f => intro O cs x _ h; exact h.1
 | hole t => intro O cs x _ h; exact h.1
 | map o k v =>
  rintro O cs x hs (h | ⟨l, b, es, ck, _, _, _, _, h6⟩)
  ·exact h.2.1
  simp only [Ty.shared, Bool.not_eq_true'] at hs
  rw [hs] at h6; exact h6.1
 | box o g t =>
  rintro O cs x hs (h | ⟨y, b, off, O', _, _, _, _, h6⟩)
  ·exact h.2.1
  simp only [Ty.shared, Bool.and_eq_true, Bool.not_eq_true'] at hs
  rw [hs.1] at h6; exact h6.1
 | pair a b iha ihb =>
  rintro O cs x hs ⟨O1, O2, rfl, h1, h2⟩
  simp only [Ty.shared, Bool.and_eq_true] at hs
  rw [iha hs.1 h1, ihb hs.2 h2]; rfl
 | arr n t ih =>
  rintro O cs x hs ⟨h1, h2⟩
  exact RepL.nilO (fun _ _ _ h => ih hs h) h2
 | slc o t ih =>
  rintro O cs x hs h
  simp only [Ty.shared, Bool.and_eq_true, Bool.not_eq_true'] at hs
  rcases h with h | ⟨b, off, cap, O', _, _, _, _, _, h6⟩
  ·exact h.1
  ·rw [hs.1] at h6; exact h6.1

theorem RepL.memO {α : Type} {R : List Nat → List Value → α → Prop} {sz : Nat} {p : Nat → Prop} (hR : ∀ O cs x, R O cs x → ∀ b ∈ O, p b) : ∀ {l : List α} {O : List Nat} {cs : List Value}, RepL R sz O cs l → ∀ b ∈ O, p b
 | [], _, _, ⟨h, _⟩ => by rw [h]; simp
 | _ :: _, _, _, ⟨O1, O2, e, h1, h2⟩ => by
  subst e; intro b hb
  rcases List.mem_append.1 hb with h | h
  ·exact hR _ _ _ h1 b h
  ·exact RepL.memO hR h2 b h

theorem Rep.memO : ∀ {t : Ty} {O : List Nat} {cs : List Value} {x : t.den}, Rep H S t O cs x → ∀ b ∈ O, b < H.size := by
 intro t
 induction t with
 | int k => intro O cs x h; rw [h.1]; simp
 | bool => intro O cs x h; rw [h.1]; simp
 | str => intro O cs x h; rw [h.1]; simp
 | unit => intro O cs x h; rw [h.1]; simp
 | fn f => intro O cs x h; rw [h.1]; simp
 | hole t => intro O cs x h; rw [h.1]; simp
 | map o k v =>
  rintro O cs x (⟨_, rfl, _⟩ | ⟨l, b, es, ck, _, _, h3, _, h6⟩) c hc
  ·cases hc
  cases o with
  | true =>
   rw [h6] at hc
   obtain rfl : c = b := by simpa using hc
   exact (Array.getElem?_eq_some_iff.1 h3).1
  | false => rw [h6.1] at hc; cases hc
 | box o g t ih =>
  rintro O cs x (⟨_, rfl, _⟩ | ⟨y, b, off, O', _, _, _, h3, h6⟩)
  ·simp
  cases o with
  | true =>
   intro c hc
   rw [h6.1] at hc
   rcases List.mem_cons.1 hc with rfl | hc
   ·obtain ⟨_, arr, T, ⟨fz, e, _⟩, _⟩ := h6; exact (Array.getElem?_eq_some_iff.1 e).1
   ·exact ih h3 c hc
  | false => rw [h6.1]; simp
 | pair a b iha ihb =>
  rintro O cs x ⟨O1, O2, rfl, h1, h2⟩ b hb
  rcases List.mem_append.1 hb with h | h
  ·exact iha h1 b h
  ·exact ihb h2 b h
 | arr n t ih =>
  rintro O cs x ⟨h1, h2⟩
  exact RepL.memO (fun _ _ _ h => ih h) h2
 | slc o t ih =>
  rintro O cs x h
  rcases h with h | ⟨b, off, cap, O', _, _, _, _, h5, h6⟩
  ·rw [h.1]; simp
  ·cases o with
   | true =>
    intro c hc
    rw [h6.1] at hc
    rcases List.mem_cons.1 hc with rfl | hc
    ·obtain ⟨_, arr, T, ⟨fz, e, _⟩, _⟩ := h6; exact (Array.getElem?_eq_some_iff.1 e).1
    ·exact RepL.memO (fun _ _ _ h => ih h) h5 c hc
   | false => rw [h6.1]; simp

/-! lists of parts -/
theorem RepL.split {α : Type} {R : List Nat → List Value → α → Prop} {sz : Nat} {d : α} : ∀ {l : List α} {O : List Nat} {cs : List Value} {i : Nat}, i < l.length → RepL R sz O cs l →
  ∃ O1 O2 O3, O = O1 ++ (O2 ++ O3) ∧ RepL R sz O1 (cs.take (i * sz)) (l.take i) ∧ R O2 ((cs.drop (i * sz)).take sz) (l.getD i d) ∧ RepL R sz O3 (cs.drop ((i + 1) * sz)) (l.drop (i + 1))
 | [], _, _, _, hi, _ => by simp at hi
 | x :: l, _, cs, 0, _, ⟨O1, O2, e, h1, h2⟩ => ⟨[], O1, O2, by simpa using e, by simp [RepL], by simpa using h1, by simpa using h2⟩
 | x :: l, _, cs, i + 1, hi, ⟨O1, O2, e, h1, h2⟩ => by
  obtain ⟨P1, P2, P3, e', g1, g2, g3⟩ := RepL.split (d := d) (i := i) (by simpa using hi) h2
  refine ⟨O1 ++ P1, P2, P3, by rw [e, e']; simp, ?_, ?_, ?_⟩
  ·refine ⟨O1, P1, rfl, ?_, ?_⟩
   ·rw [List.take_take, Nat.min_eq_left (by rw [Nat.succ_mul]; omega)]; exact h1
   ·rw [List.drop_take, show (i + 1) * sz - sz = i * sz from by rw [Nat.succ_mul]; omega]; exact g1
  ·rw [List.drop_drop, show sz + i * sz = (i + 1) * sz from by rw [Nat.succ_mul]; omega] at g2
   simpa using g2
  ·rw [List.drop_drop, show sz + (i + 1) * sz = (i + 1 + 1) * sz from by rw [Nat.succ_mul (i + 1)]; omega] at g3
   simpa using g3

theorem RepL.join {α : Type} {R : List Nat → List Value → α → Prop} {sz : Nat} (hR : ∀ O cs x, R O cs x → cs.length = sz) {y : α} : ∀ {l : List α} {O1 O2 O3 : List Nat} {cs : List Value} {i : Nat}, i < l.length →
  RepL R sz O1 (cs.take (i * sz)) (l.take i) → R O2 ((cs.drop (i * sz)).take sz) y → RepL R sz O3 (cs.drop ((i + 1) * sz)) (l.drop (i + 1)) →
  RepL R sz (O1 ++ (O2 ++ O3)) cs (l.set i y)
 | [], _, _, _, _, _, hi, _, _, _ => by simp at hi
 | x :: l, O1, O2, O3, cs, 0, _, h1, h2, h3 => by
  simp only [Nat.zero_mul, List.take_zero, RepL] at h1
  rw [h1.1]
  exact ⟨O2, O3, rfl, by simpa using h2, by simpa using h3⟩
 | x :: l, O1, O2, O3, cs, i + 1, hi, ⟨P1, P2, e, h1, h1'⟩, h2, h3 => by
  subst e
  refine ⟨P1, P2 ++ (O2 ++ O3), by simp, ?_, ?_⟩
  ·rw [List.take_take, Nat.min_eq_left (by rw [Nat.succ_mul]; omega)] at h1; exact h1
  ·refine RepL.join hR (by simpa using hi) ?_ ?_ ?_
   ·rw [List.drop_take, show (i + 1) * sz - sz = i * sz from by rw [Nat.succ_mul]; omega] at h1'; exact h1'
   ·rw [List.drop_drop, show sz + i * sz = (i + 1) * sz from by rw [Nat.succ_mul]; omega]; exact h2
   ·rw [List.drop_drop, show sz + (i + 1) * sz = (i + 1 + 1) * sz from by rw [Nat.succ_mul (i + 1)]; omega]
    simpa using h3

theorem RepL.append {α : Type} {R : List Nat → List Value → α → Prop} {sz : Nat} (hR : ∀ O cs x, R O cs x → cs.length = sz) : ∀ {l l' : List α} {O O' : List Nat} {cs cs' : List Value},
  RepL R sz O cs l → RepL R sz O' cs' l' → RepL R sz (O ++ O') (cs ++ cs') (l ++ l')
 | [], _, _, _, _, _, ⟨h1, h2⟩, h => by subst h1; subst h2; simpa using h
 | x :: l, l', O, O', cs, cs', ⟨O1, O2, e, h1, h2⟩, h => by
  have hl := hR _ _ _ h1
  simp only [List.length_take] at hl
  refine ⟨O1, O2 ++ O', by rw [e]; simp, ?_, ?_⟩
  ·rw [List.take_append_of_le_length (by omega)]; exact h1
  ·rw [List.drop_append_of_le_length (by omega)]; exact RepL.append hR h2 h

theorem RepL.det {α : Type} {R R' : List Nat → List Value → α → Prop} {sz : Nat} (hR : ∀ O O' cs x x', R O cs x → R' O' cs x' → O = O') : ∀ {l l' : List α} {O O' : List Nat} {cs : List Value},
  l.length = l'.length → RepL R sz O cs l → RepL R' sz O' cs l' → O = O'
 | [], [], _, _, _, _, ⟨h, _⟩, ⟨h', _⟩ => by rw [h, h']
 | _ :: _, _ :: _, _, _, _, hl, ⟨O1, O2, e, h1, h2⟩, ⟨O1', O2', e', h1', h2'⟩ => by
  rw [e, e', hR _ _ _ _ _ h1 h1', RepL.det hR (by simpa using hl) h2 h2']

theorem Rep.det : ∀ {t : Ty} {O O' : List Nat} {cs : List Value} {x x' : t.den}, Rep H S t O cs x → Rep H S' t O' cs x' → O = O' := by
 intro t
 induction t with
 | int k => intro O O' cs x x' h h'; rw [h.1, h'.1]
 | bool => intro O O' cs x x' h h'; rw [h.1, h'.1]
 | str => intro O O' cs x x' h h'; rw [h.1, h'.1]
 | unit => intro O O' cs x x' h h'; rw [h.1, h'.1]
 | fn f => intro O O' cs x x' h h'; rw [h.1, h'.1]
 | hole t => intro O O' cs x x' h h'; rw [h.1, h'.1]
 | map o k v =>
  rintro O O' cs x x' (⟨_, rfl, rfl⟩ | ⟨l, b, es, ck, _, rfl, _, _, h6⟩) (⟨_, rfl, e⟩ | ⟨l', b', es', ck', _, e, _, _, g6⟩)
  ·rfl
  ·simp at e
  ·simp at e
  ·simp only [List.cons.injEq, Value.map.injEq, Option.some.injEq, and_true] at e
   cases o with
   | true => rw [h6, g6, e]
   | false => rw [h6.1, g6.1]
 | box o g t ih =>
  rintro O O' cs x x' (⟨_, rfl, rfl⟩ | ⟨y, b, off, P, _, rfl, h2, h3, h4⟩) (⟨_, rfl, e⟩ | ⟨y', b', off', P', _, e, g2, g3, g4⟩)
  ·rfl
  ·exact (boxV_ne (by simpa using e.symm)).elim
  ·exact (boxV_ne (by simpa using e)).elim
  have e := boxV_inj (by simpa using e)
  cases e
  cases o with
  | true => rw [h4.1, g4.1, ih h3 g3]
  | false => rw [h4.1, g4.1]
 | pair a b iha ihb =>
  rintro O O' cs x x' ⟨O1, O2, rfl, h1, h2⟩ ⟨O1', O2', rfl, h1', h2'⟩
  rw [iha h1 h1', ihb h2 h2']
 | arr n t ih =>
  rintro O O' cs x x' ⟨h1, h2⟩ ⟨h1', h2'⟩
  exact RepL.det (R := Rep H S t) (R' := Rep H S' t) (fun O O' cs x x' h h' => ih h h') (h1.trans h1'.symm) h2 h2'
 | slc o t ih =>
  rintro O O' cs x x' h h'
  cases o with
  | false =>
   have hO : ∀ {O : List Nat} {x : (Ty.slc false t).den} {S : Nat → Prop}, Rep H S (.slc false t) O cs x → O = [] := by
    rintro O x S (h | ⟨b, off, cap, O', _, _, _, _, _, h6⟩)
    ·exact h.1
    ·exact h6.1
   rw [hO h, hO h']
  | true =>
   rcases h with ⟨h1, ⟨a, c, h2, h3⟩, h4⟩ | ⟨b, off, cap, P, c1, c2, c3, c4, c5, c6, c7⟩
   ·rcases h' with ⟨k1, _⟩ | ⟨b', off', cap', P', d1, d2, d3, d4, d5, d6, d7⟩
    ·rw [h1, k1]
    ·rw [h2] at d1; simp only [List.cons.injEq, Value.slice.injEq, and_true] at d1; have := d3.2 rfl; have := h3 rfl; omega
   ·rcases h' with ⟨h1, ⟨a, c, h2, h3⟩, h4⟩ | ⟨b', off', cap', P', d1, d2, d3, d4, d5, d6, d7⟩
    ·rw [h2] at c1; simp only [List.cons.injEq, Value.slice.injEq, and_true] at c1; have := c3.2 rfl; have := h3 rfl; omega
    ·rw [c1] at d1
     simp only [List.cons.injEq, Value.slice.injEq, Option.some.injEq, Addr.mk.injEq, and_true] at d1
     obtain ⟨⟨rfl, rfl⟩, hl, rfl⟩ := d1
     rw [c6, d6, RepL.det (R := Rep H S t) (R' := Rep H S' t) (fun O O' cs x x' h h' => ih h h') hl c5 (by rw [hl]; exact d5)]

end
end Go.Ex

namespace Go.Ex

inductive Step where
 | fld (i : Nat)
 | idx (i : Int)
 deriving Inhabited

def Ty.er (a b : Ty) : Bool := decide (a.sh = b.sh)

def getP : (t : Ty) → t.den → List Step → Option (Sigma Ty.den)
 | t, x, [] => some ⟨t, x⟩
 | .pair a _, x, .fld 0 :: p => getP a x.1 p
 | .pair _ b, x, .fld (n + 1) :: p => getP b x.2 (.fld n :: p)
 | .arr _ t, x, .idx i :: p => getP t (List.getD x i.toNat t.dflt) p
 | .slc true t, x, .idx i :: p => getP t (List.getD x i.toNat t.dflt) p
 | _, _, _ => none

def okP : (t : Ty) → t.den → List Step → Prop
 | _, _, [] => True
 | .pair a _, x, .fld 0 :: p => okP a x.1 p
 | .pair _ b, x, .fld (n + 1) :: p => okP b x.2 (.fld n :: p)
 | .arr n t, x, .idx i :: p => (0 ≤ i ∧ i < n) ∧ okP t (List.getD x i.toNat t.dflt) p
 | .slc true t, x, .idx i :: p => (0 ≤ i ∧ i < List.length x) ∧ okP t (List.getD x i.toNat t.dflt) p
 | _, _, _ => False

def setP : (t : Ty) → t.den → List Step → (u : Ty) → u.den → Option (Sigma Ty.den)
 | t, _, [], u, y => if u.sh = t.sh then some ⟨u, y⟩ else none
 | .pair a b, x, .fld 0 :: p, u, y => match setP a x.1 p u y with
  | some ⟨t', z⟩ => some ⟨.pair t' b, (z, x.2)⟩
  | none => none
 | .pair a b, x, .fld (n + 1) :: p, u, y => match setP b x.2 (.fld n :: p) u y with
  | some ⟨t', z⟩ => some ⟨.pair a t', (x.1, z)⟩
  | none => none
 | .arr n t, x, .idx i :: p, u, y => match setP t (List.getD x i.toNat t.dflt) p u y with
  | some ⟨t', z⟩ => if h : t' = t then some ⟨.arr n t, List.set x i.toNat (h ▸ z)⟩ else none
  | none => none
 | .slc true t, x, .idx i :: p, u, y => match setP t (List.getD x i.toNat t.dflt) p u y with
  | some ⟨t', z⟩ => if h : t' = t then some ⟨.slc true t, List.set x i.toNat (h ▸ z)⟩ else none
  | none => none
 | _, _, _, _, _ => none

theorem size_sh : ∀ t : Ty, t.sh.size = t.size := by
 intro t
 induction t with
 | pair a b iha ihb => simp only [Ty.sh, Ty.size, iha, ihb]
 | arr n t ih => simp only [Ty.sh, Ty.size, ih]
 | _ => rfl

theorem size_er {u t : Ty} (h : u.sh = t.sh) : u.size = t.size := by rw [← size_sh u, h, size_sh]

def Nav (H : Array Go.Obj) : Ty → List Step → Nat → Nat → Option (Nat × Nat)
 | _, [], b, off => some (b, off)
 | .pair a _, .fld 0 :: p, b, off => Nav H a p b off
 | .pair a c, .fld (n + 1) :: p, b, off => Nav H c (.fld n :: p) b (off + a.size)
 | .arr _ t, .idx i :: p, b, off => Nav H t p b (off + i.toNat * t.size)
 | .slc true t, .idx i :: p, b, off => match (blk H b)[off]? with
  | some (.slice (some a) _ _) => Nav H t p a.block (a.off + i.toNat * t.size)
  | _ => none
 | _, _, _, _ => none

def RepBut (H : Array Go.Obj) (S : Nat → Prop) : (t : Ty) → List Step → Nat → Nat → List Nat → t.den → Prop
 | _, [], _, _, O, _ => O = []
 | .pair a c, .fld 0 :: p, b, off, O, x => ∃ O1 O2, O = O1 ++ O2 ∧ RepBut H S a p b off O1 x.1 ∧ Rep H S c O2 (cellsAt H b (off + a.size) c.size) x.2
 | .pair a c, .fld (n + 1) :: p, b, off, O, x => ∃ O1 O2, O = O1 ++ O2 ∧ Rep H S a O1 (cellsAt H b off a.size) x.1 ∧ RepBut H S c (.fld n :: p) b (off + a.size) O2 x.2
 | .arr n t, .idx i :: p, b, off, O, l => List.length l = n ∧ (0 ≤ i ∧ i < n) ∧ ∃ O1 O2 O3, O = O1 ++ (O2 ++ O3) ∧
   RepL (Rep H S t) t.size O1 (cellsAt H b off (i.toNat * t.size)) (List.take i.toNat l) ∧
   RepBut H S t p b (off + i.toNat * t.size) O2 (List.getD l i.toNat t.dflt) ∧
   RepL (Rep H S t) t.size O3 (cellsAt H b (off + (i.toNat + 1) * t.size) ((n - (i.toNat + 1)) * t.size)) (List.drop (i.toNat + 1) l)
 | .slc true t, .idx i :: p, b, off, O, l => (0 ≤ i ∧ i < List.length l) ∧ ∃ b1 o1 cap O1 O2 O3, O = b1 :: (O1 ++ (O2 ++ O3)) ∧
   (blk H b)[off]? = some (.slice (some ⟨b1, o1, none⟩) (List.length l) cap) ∧ List.length l ≤ cap ∧ CapOk true cap ∧ Free H b1 (o1 + cap * t.size) ∧
   RepL (Rep H S t) t.size O1 (cellsAt H b1 o1 (i.toNat * t.size)) (List.take i.toNat l) ∧
   RepBut H S t p b1 (o1 + i.toNat * t.size) O2 (List.getD l i.toNat t.dflt) ∧
   RepL (Rep H S t) t.size O3 (cellsAt H b1 (o1 + (i.toNat + 1) * t.size) ((List.length l - (i.toNat + 1)) * t.size)) (List.drop (i.toNat + 1) l)
 | _, _, _, _, _, _ => False

section
variable {H H' : Array Go.Obj} {S S' : Nat → Prop}

theorem cellsAt_take (b off n m : Nat) (h : m ≤ n) : (cellsAt H b off n).take m = cellsAt H b off m := by
 simp only [cellsAt, List.take_take, Nat.min_eq_left h]

theorem cellsAt_drop (b off n m : Nat) : (cellsAt H b off n).drop m = cellsAt H b (off + m) (n - m) := by
 simp only [cellsAt, List.drop_take, List.drop_drop]

theorem cellsAt_length (b off n : Nat) (h : off + n ≤ (blk H b).length) : (cellsAt H b off n).length = n := by
 simp only [cellsAt, List.length_take, List.length_drop]; omega

theorem cellsAt_add (b off n m : Nat) : cellsAt H b off (n + m) = cellsAt H b off n ++ cellsAt H b (off + n) m := by
 simp only [cellsAt, List.take_add, List.drop_drop]

theorem cellsAt_one (b off : Nat) (v : Value) : cellsAt H b off 1 = [v] ↔ (blk H b)[off]? = some v := by
 simp only [cellsAt]
 constructor
 ·intro h
  have : ((blk H b).drop off)[0]? = some v := by
   cases hd : (blk H b).drop off with
   | nil => rw [hd] at h; simp at h
   | cons a l => rw [hd] at h; simp at h; simp [h]
  simpa using this
 ·intro h
  obtain ⟨hlt, e⟩ := List.getElem?_eq_some_iff.1 h
  rw [List.drop_eq_getElem_cons hlt]
  simp [e]

theorem Free.blk {b n : Nat} (h : Free H b n) : n ≤ (blk H b).length := by
 obtain ⟨arr, T, ⟨fz, e, _⟩, hn⟩ := h
 simp only [Ex.blk, e]
 simpa using hn

theorem Free.mono {b n m : Nat} (h : Free H b n) (hm : m ≤ n) : Free H b m := by
 obtain ⟨arr, T, e, hn⟩ := h
 exact ⟨arr, T, e, Nat.le_trans hm hn⟩

theorem idx_bound {i : Int} {n sz : Nat} (h : 0 ≤ i ∧ i < n) : i.toNat < n ∧ i.toNat * sz + sz ≤ n * sz ∧ (i.toNat + 1) * sz = i.toNat * sz + sz ∧ (n - (i.toNat + 1)) * sz = n * sz - (i.toNat * sz + sz) := by
 have h1 : i.toNat < n := by omega
 have h2 : (i.toNat + 1) * sz ≤ n * sz := Nat.mul_le_mul_right _ h1
 have h3 : (i.toNat + 1) * sz = i.toNat * sz + sz := Nat.succ_mul _ _
 refine ⟨h1, by omega, h3, ?_⟩
 rw [Nat.sub_mul, h3]

theorem focus : ∀ {t : Ty} {p : List Step} {b off : Nat} {O : List Nat} {x : t.den}, Rep H S t O (cellsAt H b off t.size) x → off + t.size ≤ (blk H b).length → okP t x p →
  ∀ {u : Ty} {y : u.den}, getP t x p = some ⟨u, y⟩ →
  ∃ O1 O2 b' off', O.Perm (O1 ++ O2) ∧ RepBut H S t p b off O1 x ∧ Nav H t p b off = some (b', off') ∧ Rep H S u O2 (cellsAt H b' off' u.size) y ∧
   off' + u.size ≤ (blk H b').length ∧ ((b' = b ∧ off ≤ off' ∧ off' + u.size ≤ off + t.size) ∨ (b' ∈ O1 ∧ Free H b' (off' + u.size))) := by
 intro t
 induction t with
 | pair a c iha ihc =>
  intro p b off O x hR hb ho u y hg
  match p, ho, hg with
  | [], _, hg => simp only [getP, Option.some.injEq] at hg; cases hg; exact ⟨[], O, b, off, by simp, rfl, rfl, hR, hb, .inl ⟨rfl, Nat.le_refl _, Nat.le_refl _⟩⟩
  | .fld 0 :: p, ho, hg =>
   obtain ⟨P1, P2, rfl, h1, h2⟩ := hR
   simp only [Ty.size] at *
   rw [cellsAt_take _ _ _ _ (by omega)] at h1
   rw [cellsAt_drop, Nat.add_sub_cancel_left] at h2
   obtain ⟨O1, O2, b', off', e1, e2, e3, e4, e5, e6⟩ := iha h1 (by omega) ho hg
   refine ⟨O1 ++ P2, O2, b', off', ?_, ⟨O1, P2, rfl, e2, h2⟩, e3, e4, e5, ?_⟩
   ·refine (e1.append_right P2).trans ?_
    rw [List.append_assoc, List.append_assoc]
    exact List.Perm.append_left O1 List.perm_append_comm
   ·rcases e6 with ⟨g1, g2, g3⟩ | ⟨g1, g2⟩
    ·exact .inl ⟨g1, g2, by omega⟩
    ·exact .inr ⟨by simp [g1], g2⟩
  | .fld (n + 1) :: p, ho, hg =>
   obtain ⟨P1, P2, rfl, h1, h2⟩ := hR
   simp only [Ty.size] at *
   rw [cellsAt_take _ _ _ _ (by omega)] at h1
   rw [cellsAt_drop, Nat.add_sub_cancel_left] at h2
   obtain ⟨O1, O2, b', off', e1, e2, e3, e4, e5, e6⟩ := ihc h2 (by omega) ho hg
   refine ⟨P1 ++ O1, O2, b', off', ?_, ⟨P1, O1, rfl, h1, e2⟩, e3, e4, e5, ?_⟩
   ·rw [List.append_assoc]; exact List.Perm.append_left P1 e1
   ·rcases e6 with ⟨g1, g2, g3⟩ | ⟨g1, g2⟩
    ·exact .inl ⟨g1, by omega, by omega⟩
    ·exact .inr ⟨by simp [g1], g2⟩
  | .idx i :: p, ho, _ => simp [okP] at ho
 | arr n t ih =>
  intro p b off O x hR hb ho u y hg
  match p, ho, hg with
  | [], _, hg => simp only [getP, Option.some.injEq] at hg; cases hg; exact ⟨[], O, b, off, by simp, rfl, rfl, hR, hb, .inl ⟨rfl, Nat.le_refl _, Nat.le_refl _⟩⟩
  | .idx i :: p, ho, hg =>
   obtain ⟨hi, ho⟩ := ho
   obtain ⟨hl, hR⟩ := hR
   simp only [Ty.size] at *
   obtain ⟨b1, b2, b3, b4⟩ := idx_bound (sz := t.size) hi
   obtain ⟨P1, P2, P3, rfl, g1, g2, g3⟩ := RepL.split (d := t.dflt) (i := i.toNat) (by rw [hl]; exact b1) hR
   rw [cellsAt_take _ _ _ _ (by omega)] at g1
   rw [cellsAt_drop, cellsAt_take _ _ _ _ (by omega)] at g2
   rw [cellsAt_drop, show n * t.size - (i.toNat + 1) * t.size = (n - (i.toNat + 1)) * t.size from by omega] at g3
   obtain ⟨O1, O2, b', off', e1, e2, e3, e4, e5, e6⟩ := ih g2 (by omega) ho hg
   refine ⟨P1 ++ (O1 ++ P3), O2, b', off', ?_, ⟨hl, hi, P1, O1, P3, rfl, g1, e2, g3⟩, e3, e4, e5, ?_⟩
   ·rw [List.append_assoc]
    refine List.Perm.append_left P1 ?_
    refine (e1.append_right P3).trans ?_
    rw [List.append_assoc, List.append_assoc]
    exact List.Perm.append_left O1 List.perm_append_comm
   ·rcases e6 with ⟨g1, g2, g3⟩ | ⟨g1, g2⟩
    ·exact .inl ⟨g1, by omega, by omega⟩
    ·exact .inr ⟨by simp [g1], g2⟩
  | .fld i :: p, ho, _ => simp [okP] at ho
 | slc o t ih =>
  intro p b off O x hR hb ho u y hg
  match p, ho, hg with
  | [], _, hg => simp only [getP, Option.some.injEq] at hg; cases hg; exact ⟨[], O, b, off, by simp, by cases o <;> rfl, by cases o <;> rfl, hR, hb, .inl ⟨rfl, Nat.le_refl _, Nat.le_refl _⟩⟩
  | .idx i :: p, ho, hg =>
   cases o with
   | false => simp [okP] at ho
   | true =>
    obtain ⟨hi, ho⟩ := ho
    rcases hR with ⟨_, _, hn⟩ | ⟨b1, o1, cap, O', c1, c2, c3, c4, c5, rfl, c6⟩
    ·subst hn; simp at hi; omega
    ·simp only [Ty.size] at *
     have hh := (cellsAt_one b off _).1 c1
     obtain ⟨b1', b2, b3, b4⟩ := idx_bound (sz := t.size) hi
     obtain ⟨P1, P2, P3, rfl, g1, g2, g3⟩ := RepL.split (d := t.dflt) (i := i.toNat) b1' c5
     rw [cellsAt_take _ _ _ _ (by omega)] at g1
     rw [cellsAt_drop, cellsAt_take _ _ _ _ (by omega)] at g2
     rw [cellsAt_drop, show List.length x * t.size - (i.toNat + 1) * t.size = (List.length x - (i.toNat + 1)) * t.size from by omega] at g3
     obtain ⟨O1, O2, b', off', e1, e2, e3, e4, e5, e6⟩ := ih g2 (by omega) ho hg
     have hcap : List.length x * t.size ≤ cap * t.size := Nat.mul_le_mul_right _ c2
     refine ⟨b1 :: (P1 ++ (O1 ++ P3)), O2, b', off', ?_, ⟨hi, b1, o1, cap, P1, O1, P3, rfl, hh, c2, c3, c6, g1, e2, g3⟩, ?_, e4, e5, ?_⟩
     ·rw [List.cons_append]
      refine List.Perm.cons b1 ?_
      rw [List.append_assoc]
      refine List.Perm.append_left P1 ?_
      refine (e1.append_right P3).trans ?_
      rw [List.append_assoc, List.append_assoc]
      exact List.Perm.append_left O1 List.perm_append_comm
     ·simp only [Nav, hh]; exact e3
     ·rcases e6 with ⟨g1, g2, g3⟩ | ⟨g1, g2⟩
      ·subst g1; exact .inr ⟨by simp, c6.mono (by omega)⟩
      ·exact .inr ⟨by simp [g1], g2⟩
  | .fld i :: p, ho, _ => cases o <;> simp [okP] at ho
 | _ =>
  intro p b off O x hR hb ho u y hg
  match p, ho, hg with
  | [], _, hg => simp only [getP, Option.some.injEq] at hg; cases hg; exact ⟨[], O, b, off, by simp, rfl, rfl, hR, hb, .inl ⟨rfl, Nat.le_refl _, Nat.le_refl _⟩⟩
  | .fld i :: p, ho, _ => simp [okP] at ho
  | .idx i :: p, ho, _ => simp [okP] at ho

structure Chg (H H' : Array Go.Obj) (b off n : Nat) : Prop where
 at_ : ∃ arr arr' T, (∃ fz, Lie H b arr T fz ∧ H'[b]? = some (.cells arr' T fz)) ∧ arr'.size = arr.size ∧ ∀ j, (j < off ∨ off + n ≤ j) → arr'.toList[j]? = arr.toList[j]?
 rest : ∀ c, c ≠ b → c < H.size → H'[c]? = H[c]?

theorem Chg.length {b off n : Nat} (h : Chg H H' b off n) (c : Nat) (hc : c < H.size) : (blk H' c).length = (blk H c).length := by
 by_cases e : c = b
 ·subst e
  obtain ⟨arr, arr', T, ⟨fz, ⟨e1, _⟩, e2⟩, e3, _⟩ := h.at_
  simp only [blk, e1, e2]; simpa using e3
 ·rw [blk_congr (h.rest c e hc)]

theorem Chg.cells {b off n : Nat} (h : Chg H H' b off n) {c o m : Nat} (hc : c < H.size) (hr : c = b → o + m ≤ off ∨ off + n ≤ o) : cellsAt H' c o m = cellsAt H c o m := by
 by_cases e : c = b
 ·subst e
  have hr := hr rfl
  obtain ⟨arr, arr', T, ⟨fz, ⟨e1, _⟩, e2⟩, e3, e4⟩ := h.at_
  simp only [cellsAt, blk, e1, e2]
  apply List.ext_getElem?
  intro j
  simp only [List.getElem?_take, List.getElem?_drop]
  split
  ·rw [e4]; omega
  ·rfl
 ·exact cellsAt_congr (h.rest c e hc) _ _

theorem Chg.free {b off n : Nat} (h : Chg H H' b off n) {c m : Nat} (hf : Free H c m) : Free H' c m := by
 obtain ⟨arr, T, ⟨fz, e, ef⟩, hm⟩ := hf
 by_cases hc : c = b
 ·subst hc
  obtain ⟨a1, a2, T', ⟨fz', ⟨e1, _⟩, e2⟩, e3, _⟩ := h.at_
  rw [e1] at e; cases e
  exact ⟨a2, _, ⟨fz, e2, ef.imp id (fun h => by omega)⟩, by omega⟩
 ·have hlt : c < H.size := by
   rcases Nat.lt_or_ge c H.size with h | h
   ·exact h
   ·rw [Array.getElem?_eq_none h] at e; cases e
  exact ⟨arr, T, ⟨fz, (h.rest c hc hlt).trans e, ef⟩, hm⟩

theorem RepBut.range : ∀ {t : Ty} {p : List Step} {b off : Nat} {O : List Nat} {x : t.den}, RepBut H S t p b off O x → ∀ {u : Ty} {y : u.den}, getP t x p = some ⟨u, y⟩ → ∀ {b' off' : Nat},
  Nav H t p b off = some (b', off') → (b' = b ∧ off ≤ off' ∧ off' + u.size ≤ off + t.size) ∨ b' ∈ O := by
 intro t
 induction t with
 | pair a c iha ihc =>
  intro p b off O x hR u y hg b' off' hn
  match p, hR, hg, hn with
  | [], _, hg, hn =>
   simp only [getP, Option.some.injEq] at hg; cases hg
   simp only [Nav, Option.some.injEq, Prod.mk.injEq] at hn
   exact .inl ⟨hn.1.symm, by omega, by omega⟩
  | .fld 0 :: p, ⟨O1, O2, e, h1, h2⟩, hg, hn =>
   simp only [Ty.size]
   rcases iha h1 hg hn with ⟨g1, g2, g3⟩ | g
   ·exact .inl ⟨g1, g2, by omega⟩
   ·exact .inr (by simp [e, g])
  | .fld (n + 1) :: p, ⟨O1, O2, e, h1, h2⟩, hg, hn =>
   simp only [Ty.size]
   rcases ihc h2 hg hn with ⟨g1, g2, g3⟩ | g
   ·exact .inl ⟨g1, by omega, by omega⟩
   ·exact .inr (by simp [e, g])
  | .idx i :: p, hR, _, _ => simp [RepBut] at hR
 | arr n t ih =>
  intro p b off O x hR u y hg b' off' hn
  match p, hR, hg, hn with
  | [], _, hg, hn =>
   simp only [getP, Option.some.injEq] at hg; cases hg
   simp only [Nav, Option.some.injEq, Prod.mk.injEq] at hn
   exact .inl ⟨hn.1.symm, by omega, by omega⟩
  | .idx i :: p, ⟨hl, hi, O1, O2, O3, e, h1, h2, h3⟩, hg, hn =>
   simp only [Ty.size]
   obtain ⟨b1, b2, b3, b4⟩ := idx_bound (sz := t.size) hi
   rcases ih h2 hg hn with ⟨g1, g2, g3⟩ | g
   ·exact .inl ⟨g1, by omega, by omega⟩
   ·exact .inr (by simp [e, g])
  | .fld i :: p, hR, _, _ => simp [RepBut] at hR
 | slc o t ih =>
  intro p b off O x hR u y hg b' off' hn
  match p, hR, hg, hn with
  | [], _, hg, hn =>
   simp only [getP, Option.some.injEq] at hg; cases hg
   have hn : some (b, off) = some (b', off') := by cases o <;> exact hn
   simp only [Option.some.injEq, Prod.mk.injEq] at hn
   exact .inl ⟨hn.1.symm, by omega, by omega⟩
  | .idx i :: p, hR, hg, hn =>
   cases o with
   | false => simp [RepBut] at hR
   | true =>
    obtain ⟨hi, b1, o1, cap, O1, O2, O3, e, e1, e2, e3, e4, e5, e6, e7⟩ := hR
    simp only [Nav, e1] at hn
    rcases ih e6 hg hn with ⟨g1, g2, g3⟩ | g
    ·exact .inr (by rw [g1, e]; simp)
    ·exact .inr (by rw [e]; simp [g])
  | .fld i :: p, hR, _, _ => cases o <;> simp [RepBut] at hR
 | _ =>
  intro p b off O x hR u y hg b' off' hn
  match p, hR, hg, hn with
  | [], _, hg, hn =>
   simp only [getP, Option.some.injEq] at hg; cases hg
   simp only [Nav, Option.some.injEq, Prod.mk.injEq] at hn
   exact .inl ⟨hn.1.symm, by omega, by omega⟩
  | .fld i :: p, hR, _, _ => simp [RepBut] at hR
  | .idx i :: p, hR, _, _ => simp [RepBut] at hR

theorem RepL.chg {t : Ty} {O : List Nat} {b off n o m : Nat} {l : List t.den} {c : Nat} (h : RepL (Rep H S t) t.size O (cellsAt H c o m) l) (hc : Chg H H' b off n)
  (hO : ∀ d ∈ O, d ≠ b ∧ d < H.size) (hS : ∀ d, S d → d ≠ b ∧ d < H.size) (hSS : ∀ d, S d → S' d) (hlt : c < H.size) (hr : c = b → o + m ≤ off ∨ off + n ≤ o) :
  RepL (Rep H' S' t) t.size O (cellsAt H' c o m) l := by
 rw [hc.cells hlt hr]
 refine RepL.mono (L := O) (fun _ h => h) (fun O1 cs x hL hr => ?_) h
 exact hr.stable (fun d hd => by
  rcases hd with hd | hd
  ·exact hc.rest d (hO d (hL d hd)).1 (hO d (hL d hd)).2
  ·exact hc.rest d (hS d hd).1 (hS d hd).2) hSS

theorem Rep.chg {t : Ty} {O : List Nat} {b off n o m : Nat} {x : t.den} {c : Nat} (h : Rep H S t O (cellsAt H c o m) x) (hc : Chg H H' b off n)
  (hO : ∀ d ∈ O, d ≠ b ∧ d < H.size) (hS : ∀ d, S d → d ≠ b ∧ d < H.size) (hSS : ∀ d, S d → S' d) (hlt : c < H.size) (hr : c = b → o + m ≤ off ∨ off + n ≤ o) :
  Rep H' S' t O (cellsAt H' c o m) x := by
 rw [hc.cells hlt hr]
 exact h.stable (fun d hd => by
  rcases hd with hd | hd
  ·exact hc.rest d (hO d hd).1 (hO d hd).2
  ·exact hc.rest d (hS d hd).1 (hS d hd).2) hSS

theorem unfocus : ∀ {t : Ty} {p : List Step} {b off : Nat} {O1 : List Nat} {x : t.den}, RepBut H S t p b off O1 x →
  ∀ {u0 : Ty} {y0 : u0.den}, getP t x p = some ⟨u0, y0⟩ → ∀ {b' off' : Nat}, Nav H t p b off = some (b', off') →
  off + t.size ≤ (blk H b).length → b < H.size → O1.Nodup → b ∉ O1 → (∀ c ∈ O1, ¬ S c ∧ c < H.size) → ¬ S b → (∀ c, S c → c < H.size) → (∀ c, S c → S' c) →
  ∀ {u : Ty} {y : u.den} {O2 : List Nat} {z : Sigma Ty.den}, Chg H H' b' off' u0.size → Rep H' S' u O2 (cellsAt H' b' off' u.size) y → setP t x p u y = some z →
  ∃ O, O.Perm (O1 ++ O2) ∧ Rep H' S' z.1 O (cellsAt H' b off z.1.size) z.2 ∧ z.1.sh = t.sh := by
 intro t
 induction t with
 | pair a c iha ihc =>
  intro p b off O1 x hR u0 y0 hg b' off' hn hb hbs hnd hbO hO1 hSb hS hSS u y O2 z hc hy hz
  match p, hR, hg, hn, hz with
  | [], hR, hg, hn, hz =>
   simp only [setP] at hz
   split at hz
   ·rename_i e
    cases hz
    simp only [Nav, Option.some.injEq, Prod.mk.injEq] at hn
    obtain ⟨rfl, rfl⟩ := hn
    have hR : O1 = [] := hR
    exact ⟨O2, by rw [hR]; simp, hy, e⟩
   ·cases hz
  | .fld 0 :: p, ⟨P1, P2, e, h1, h2⟩, hg, hn, hz =>
   subst e
   simp only [setP] at hz
   split at hz
   ·rename_i t' w hw
    cases hz
    simp only [List.nodup_append, List.mem_append, not_or] at hnd hbO
    simp only [Ty.size] at hb
    obtain ⟨O, g1, g2, g3⟩ := iha h1 hg hn (by omega) hbs hnd.1 hbO.1 (fun c hc => hO1 c (by simp [hc])) hSb hS hSS hc hy hw
    have hrng := RepBut.range h1 hg hn
    have hsz := size_er g3
    refine ⟨O ++ P2, ?_, ⟨O, P2, rfl, ?_, ?_⟩, by simp only [Ty.sh, g3]⟩
    ·refine (g1.append_right P2).trans ?_
     rw [List.append_assoc, List.append_assoc]
     exact List.Perm.append_left P1 List.perm_append_comm
    ·simp only [Ty.size]; rw [cellsAt_take _ _ _ _ (by omega)]; exact g2
    ·simp only [Ty.size]; rw [cellsAt_drop, Nat.add_sub_cancel_left, hsz]
     refine h2.chg hc (fun d hd => ⟨?_, (hO1 d (by simp [hd])).2⟩) (fun d hd => ⟨?_, hS d hd⟩) hSS hbs (fun e => ?_)
     ·rintro rfl
      rcases hrng with ⟨g, _⟩ | g
      ·subst g; exact hbO.2 hd
      ·exact hnd.2.2 _ g _ hd rfl
     ·rintro rfl
      rcases hrng with ⟨g, _⟩ | g
      ·subst g; exact hSb hd
      ·exact (hO1 _ (by simp [g])).1 hd
     ·rcases hrng with ⟨_, g, g'⟩ | g
      ·right; omega
      ·exact absurd (by simp [e, g] : b ∈ P1) hbO.1
   ·cases hz
  | .fld (n + 1) :: p, ⟨P1, P2, e, h1, h2⟩, hg, hn, hz =>
   subst e
   simp only [setP] at hz
   split at hz
   ·rename_i t' w hw
    cases hz
    simp only [List.nodup_append, List.mem_append, not_or] at hnd hbO
    simp only [Ty.size] at hb
    obtain ⟨O, g1, g2, g3⟩ := ihc h2 hg hn (by omega) hbs hnd.2.1 hbO.2 (fun c hc => hO1 c (by simp [hc])) hSb hS hSS hc hy hw
    have hrng := RepBut.range h2 hg hn
    refine ⟨P1 ++ O, ?_, ⟨P1, O, rfl, ?_, ?_⟩, by simp only [Ty.sh, g3]⟩
    ·rw [List.append_assoc]; exact List.Perm.append_left P1 g1
    ·simp only [Ty.size]; rw [cellsAt_take _ _ _ _ (by omega)]
     refine h1.chg hc (fun d hd => ⟨?_, (hO1 d (by simp [hd])).2⟩) (fun d hd => ⟨?_, hS d hd⟩) hSS hbs (fun e => ?_)
     ·rintro rfl
      rcases hrng with ⟨g, _⟩ | g
      ·subst g; exact hbO.1 hd
      ·exact hnd.2.2 _ hd _ g rfl
     ·rintro rfl
      rcases hrng with ⟨g, _⟩ | g
      ·subst g; exact hSb hd
      ·exact (hO1 _ (by simp [g])).1 hd
     ·rcases hrng with ⟨_, g, g'⟩ | g
      ·left; omega
      ·exact absurd (by simp [e, g] : b ∈ P2) hbO.2
    ·simp only [Ty.size]; rw [cellsAt_drop, Nat.add_sub_cancel_left]; exact g2
   ·cases hz
  | .idx i :: p, hR, _, _, _ => simp [RepBut] at hR
 | arr n t ih =>
  intro p b off O1 x hR u0 y0 hg b' off' hn hb hbs hnd hbO hO1 hSb hS hSS u y O2 z hc hy hz
  match p, hR, hg, hn, hz with
  | [], hR, hg, hn, hz =>
   simp only [setP] at hz
   split at hz
   ·rename_i e
    cases hz
    simp only [Nav, Option.some.injEq, Prod.mk.injEq] at hn
    obtain ⟨rfl, rfl⟩ := hn
    have hR : O1 = [] := hR
    exact ⟨O2, by rw [hR]; simp, hy, e⟩
   ·cases hz
  | .idx i :: p, ⟨hl, hi, P1, P2, P3, e, h1, h2, h3⟩, hg, hn, hz =>
   subst e
   simp only [setP] at hz
   split at hz
   ·rename_i t' w hw
    split at hz
    ·rename_i ht; subst ht; cases hz
     simp only [List.nodup_append, List.mem_append, not_or] at hnd hbO
     obtain ⟨b1, b2, b3, b4⟩ := idx_bound (sz := t'.size) hi
     simp only [Ty.size] at hb
     obtain ⟨O, g1, g2, g3⟩ := ih h2 hg hn (by omega) hbs hnd.2.1.1 hbO.2.1 (fun c hc => hO1 c (by simp [hc])) hSb hS hSS hc hy hw
     have hrng := RepBut.range h2 hg hn
     have hne : ∀ d, (d ∈ P1 ∨ d ∈ P3) → d ≠ b' ∧ d < H.size := by
      intro d hd
      refine ⟨?_, (hO1 d (by rcases hd with h | h <;> simp [h])).2⟩
      rintro rfl
      rcases hrng with ⟨g, _⟩ | g
      ·subst g; rcases hd with h | h
       ·exact hbO.1 h
       ·exact hbO.2.2 h
      ·rcases hd with h | h
       ·exact hnd.2.2 _ h _ (.inl g) rfl
       ·exact hnd.2.1.2.2 _ g _ h rfl
     have hSne : ∀ d, S d → d ≠ b' ∧ d < H.size := by
      intro d hd
      refine ⟨?_, hS d hd⟩
      rintro rfl
      rcases hrng with ⟨g, _⟩ | g
      ·subst g; exact hSb hd
      ·exact (hO1 _ (by simp [g])).1 hd
     refine ⟨P1 ++ (O ++ P3), ?_, ⟨by simpa using hl, RepL.join (fun _ _ _ h => Rep.length h) (by rw [hl]; exact b1) ?_ ?_ ?_⟩, rfl⟩
     ·rw [List.append_assoc]
      refine List.Perm.append_left P1 ?_
      refine (g1.append_right P3).trans ?_
      rw [List.append_assoc, List.append_assoc]
      exact List.Perm.append_left P2 List.perm_append_comm
     ·simp only [Ty.size]; rw [cellsAt_take _ _ _ _ (by omega)]
      refine h1.chg hc (fun d hd => hne d (.inl hd)) hSne hSS hbs (fun e => ?_)
      rcases hrng with ⟨_, g, g'⟩ | g
      ·left; omega
      ·exact absurd (by simp [e, g] : b ∈ P2) hbO.2.1
     ·simp only [Ty.size]; rw [cellsAt_drop, cellsAt_take _ _ _ _ (by omega)]; exact g2
     ·simp only [Ty.size]; rw [cellsAt_drop, show n * t'.size - (i.toNat + 1) * t'.size = (n - (i.toNat + 1)) * t'.size from by omega]
      refine h3.chg hc (fun d hd => hne d (.inr hd)) hSne hSS hbs (fun e => ?_)
      rcases hrng with ⟨_, g, g'⟩ | g
      ·right; omega
      ·exact absurd (by simp [e, g] : b ∈ P2) hbO.2.1
    ·cases hz
   ·cases hz
  | .fld i :: p, hR, _, _, _ => simp [RepBut] at hR
 | slc o t ih =>
  intro p b off O1 x hR u0 y0 hg b' off' hn hb hbs hnd hbO hO1 hSb hS hSS u y O2 z hc hy hz
  match p, hR, hg, hn, hz with
  | [], hR, hg, hn, hz =>
   have hz : (if u.sh = (Ty.slc o t).sh then some (⟨u, y⟩ : Sigma Ty.den) else none) = some z := by cases o <;> exact hz
   split at hz
   ·rename_i e
    cases hz
    have hn : some (b, off) = some (b', off') := by cases o <;> exact hn
    simp only [Option.some.injEq, Prod.mk.injEq] at hn
    obtain ⟨rfl, rfl⟩ := hn
    have hR : O1 = [] := by cases o <;> exact hR
    exact ⟨O2, by rw [hR]; simp, hy, e⟩
   ·cases hz
  | .idx i :: p, hR, hg, hn, hz =>
   cases o with
   | false => simp [RepBut] at hR
   | true =>
    obtain ⟨hi, c1, o1, cap, P1, P2, P3, e, e1, e2, e3, e4, e5, e6, e7⟩ := hR
    subst e
    simp only [Nav, e1] at hn
    simp only [setP] at hz
    split at hz
    ·rename_i t' w hw
     split at hz
     ·rename_i ht; subst ht; cases hz
      simp only [List.nodup_append, List.mem_append, List.nodup_cons, List.mem_cons, not_or] at hnd hbO
      obtain ⟨b1, b2, b3, b4⟩ := idx_bound (sz := t'.size) hi
      have hcap : List.length x * t'.size ≤ cap * t'.size := Nat.mul_le_mul_right _ e2
      have hfb := e4.blk
      have hc1 : c1 < H.size := (hO1 c1 (by simp)).2
      obtain ⟨O, g1, g2, g3⟩ := ih e6 hg hn (by omega) hc1 hnd.2.2.1.1 hnd.1.2.1 (fun c hc => hO1 c (by simp [hc])) (hO1 c1 (by simp)).1 hS hSS hc hy hw
      have hrng := RepBut.range e6 hg hn
      have hbb : b ≠ b' := by
       rintro rfl
       rcases hrng with ⟨g, _⟩ | g
       ·exact hbO.1 g
       ·exact hbO.2.2.1 g
      have hne : ∀ d, (d ∈ P1 ∨ d ∈ P3) → d ≠ b' ∧ d < H.size := by
       intro d hd
       refine ⟨?_, (hO1 d (by rcases hd with h | h <;> simp [h])).2⟩
       rintro rfl
       rcases hrng with ⟨g, _⟩ | g
       ·subst g; rcases hd with h | h
        ·exact hnd.1.1 h
        ·exact hnd.1.2.2 h
       ·rcases hd with h | h
        ·exact hnd.2.2.2 _ h _ (.inl g) rfl
        ·exact hnd.2.2.1.2.2 _ g _ h rfl
      have hSne : ∀ d, S d → d ≠ b' ∧ d < H.size := by
       intro d hd
       refine ⟨?_, hS d hd⟩
       rintro rfl
       rcases hrng with ⟨g, _⟩ | g
       ·subst g; exact (hO1 _ (by simp)).1 hd
       ·exact (hO1 _ (by simp [g])).1 hd
      have hhd : cellsAt H' b off 1 = [.slice (some ⟨c1, o1, none⟩) (List.length x) cap] := by
       rw [cellsAt_congr (hc.rest b hbb hbs)]; exact (cellsAt_one b off _).2 e1
      refine ⟨c1 :: (P1 ++ (O ++ P3)), ?_, .inr ⟨c1, o1, cap, P1 ++ (O ++ P3), by simp only [Ty.size, List.length_set]; exact hhd, by simpa using e2, e3, ?_, ?_, rfl, hc.free e4⟩, rfl⟩
      ·rw [List.cons_append]
       refine List.Perm.cons c1 ?_
       rw [List.append_assoc]
       refine List.Perm.append_left P1 ?_
       refine (g1.append_right P3).trans ?_
       rw [List.append_assoc, List.append_assoc]
       exact List.Perm.append_left P2 List.perm_append_comm
      ·rw [hc.length c1 hc1]; simp only [List.length_set]; omega
      ·simp only [List.length_set]
       refine RepL.join (fun _ _ _ h => Rep.length h) b1 ?_ ?_ ?_
       ·rw [cellsAt_take _ _ _ _ (by omega)]
        refine e5.chg hc (fun d hd => hne d (.inl hd)) hSne hSS hc1 (fun e => ?_)
        rcases hrng with ⟨_, g, g'⟩ | g
        ·left; omega
        ·exact absurd (by simp [e, g] : c1 ∈ P2) hnd.1.2.1
       ·rw [cellsAt_drop, cellsAt_take _ _ _ _ (by omega)]; exact g2
       ·rw [cellsAt_drop, show List.length x * t'.size - (i.toNat + 1) * t'.size = (List.length x - (i.toNat + 1)) * t'.size from by omega]
        refine e7.chg hc (fun d hd => hne d (.inr hd)) hSne hSS hc1 (fun e => ?_)
        rcases hrng with ⟨_, g, g'⟩ | g
        ·right; omega
        ·exact absurd (by simp [e, g] : c1 ∈ P2) hnd.1.2.1
     ·cases hz
    ·cases hz
  | .fld i :: p, hR, _, _, _ => cases o <;> simp [RepBut] at hR
 | _ =>
  intro p b off O1 x hR u0 y0 hg b' off' hn hb hbs hnd hbO hO1 hSb hS hSS u y O2 z hc hy hz
  match p, hR, hg, hn, hz with
  | [], hR, hg, hn, hz =>
   simp only [setP] at hz
   split at hz
   ·rename_i e
    cases hz
    simp only [Nav, Option.some.injEq, Prod.mk.injEq] at hn
    obtain ⟨rfl, rfl⟩ := hn
    have hR : O1 = [] := hR
    exact ⟨O2, by rw [hR]; simp, hy, e⟩
   ·cases hz
  | .fld i :: p, hR, _, _, _ => simp [RepBut] at hR
  | .idx i :: p, hR, _, _, _ => simp [RepBut] at hR

end
end Go.Ex

namespace Go.Ex

def kp : List Step → List Step → Bool
 | _, [] => true
 | [], .fld _ :: p => kp [] p
 | [], .idx _ :: _ => false
 | .fld n :: q, .fld m :: p => if n = m then kp q p else true
 | .idx _ :: q, .idx _ :: p => kp q p
 | _, _ => false

def ka : List Step → List Step → Bool
 | .fld n :: q, .fld m :: p => if n = m then ka q p else true
 | .idx _ :: q, .idx _ :: p => ka q p
 | _, _ => false

section
variable {H H' : Array Go.Obj} {S S' : Nat → Prop}

theorem cells_sub {b off n o m : Nat} (h : cellsAt H' b off n = cellsAt H b off n) (h1 : off ≤ o) (h2 : o + m ≤ off + n) : cellsAt H' b o m = cellsAt H b o m := by
 have e : ∀ K : Array Go.Obj, cellsAt K b o m = ((cellsAt K b off n).drop (o - off)).take m := by
  intro K
  rw [cellsAt_drop, cellsAt_take _ _ _ _ (by omega), show off + (o - off) = o from by omega]
 rw [e H', e H, h]

theorem blk_of_cells {b off n : Nat} (h : cellsAt H' b off n = cellsAt H b off n) {j : Nat} (h1 : off ≤ j) (h2 : j < off + n) : (blk H' b)[j]? = (blk H b)[j]? := by
 have e : ∀ K : Array Go.Obj, (blk K b)[j]? = (cellsAt K b off n)[j - off]? := by
  intro K
  simp only [cellsAt, List.getElem?_take, List.getElem?_drop]
  rw [if_pos (by omega), show off + (j - off) = j from by omega]
 rw [e H', e H, h]

theorem getP_some : ∀ {t : Ty} {x : t.den} {p : List Step}, okP t x p → ∃ u y, getP t x p = some ⟨u, y⟩ := by
 intro t
 induction t with
 | pair a c iha ihc =>
  intro x p h
  match p, h with
  | [], _ => exact ⟨_, _, rfl⟩
  | .fld 0 :: p, h => exact iha h
  | .fld (n + 1) :: p, h => exact ihc h
  | .idx i :: p, h => simp [okP] at h
 | arr n t ih =>
  intro x p h
  match p, h with
  | [], _ => exact ⟨_, _, rfl⟩
  | .idx i :: p, h => exact ih h.2
  | .fld i :: p, h => simp [okP] at h
 | slc o t ih =>
  intro x p h
  match p, h with
  | [], _ => cases o <;> exact ⟨_, _, rfl⟩
  | .idx i :: p, h => cases o with
   | true => exact ih h.2
   | false => simp [okP] at h
  | .fld i :: p, h => cases o <;> simp [okP] at h
 | _ =>
  intro x p h
  match p, h with
  | [], _ => exact ⟨_, _, rfl⟩
  | .idx i :: p, h => simp [okP] at h
  | .fld i :: p, h => simp [okP] at h

theorem sh_nav : ∀ {t t' : Ty} {p : List Step} {b off : Nat}, t'.sh = t.sh → kp [] p = true → Nav H' t' p b off = Nav H t p b off := by
 intro t
 induction t with
 | pair a c iha ihc =>
  intro t' p b off h hp
  cases t' <;> simp only [Ty.sh] at h <;> try cases h
  rename_i a' c'
  simp only [Ty.pair.injEq] at h
  match p, hp with
  | [], _ => rfl
  | .fld 0 :: p, hp => exact iha h.1 hp
  | .fld (n + 1) :: p, hp => simp only [Nav, size_er h.1]; exact ihc h.2 (by simpa [kp] using hp)
  | .idx i :: p, hp => simp [kp] at hp
 | slc o t ih =>
  intro t' p b off h hp
  cases t' <;> simp only [Ty.sh] at h <;> try cases h
  ·rename_i o' _
   match p, hp with
   | [], _ => cases o <;> cases o' <;> rfl
   | .fld i :: p, hp => cases o <;> cases o' <;> simp [Nav]
   | .idx i :: p, hp => simp [kp] at hp
  ·match p, hp with
   | [], _ => cases o <;> rfl
   | .fld i :: p, hp => cases o <;> simp [Nav]
   | .idx i :: p, hp => simp [kp] at hp
 | hole t ih =>
  intro t' p b off h hp
  cases t' <;> simp only [Ty.sh] at h <;> try cases h
  ·rename_i o' _
   match p, hp with
   | [], _ => cases o' <;> rfl
   | .fld i :: p, hp => cases o' <;> simp [Nav]
   | .idx i :: p, hp => simp [kp] at hp
  ·match p, hp with
   | [], _ => rfl
   | .fld i :: p, hp => simp [Nav]
   | .idx i :: p, hp => simp [kp] at hp
 | _ =>
  intro t' p b off h hp
  cases t' <;> simp only [Ty.sh] at h <;> try cases h
  all_goals
   match p, hp with
   | [], _ => rfl
   | .fld i :: p, hp => simp [Nav]
   | .idx i :: p, hp => simp [kp] at hp

theorem sh_ok : ∀ {t t' : Ty} {p : List Step} {x : t.den} {y : t'.den}, t'.sh = t.sh → kp [] p = true → okP t x p → okP t' y p := by
 intro t
 induction t with
 | pair a c iha ihc =>
  intro t' p x y h hp ho
  cases t' <;> simp only [Ty.sh] at h <;> try cases h
  rename_i a' c'
  simp only [Ty.pair.injEq] at h
  match p, hp, ho with
  | [], _, _ => trivial
  | .fld 0 :: p, hp, ho => exact iha (t' := a') (y := y.1) h.1 hp ho
  | .fld (n + 1) :: p, hp, ho => exact ihc (t' := c') (y := y.2) h.2 (by simpa [kp] using hp) ho
  | .idx i :: p, hp, _ => simp [kp] at hp
 | slc o t ih =>
  intro t' p x y h hp ho
  match p, hp, ho with
  | [], _, _ => simp [okP]
  | .fld i :: p, hp, ho => cases o <;> simp [okP] at ho
  | .idx i :: p, hp, _ => simp [kp] at hp
 | _ =>
  intro t' p x y h hp ho
  match p, hp, ho with
  | [], _, _ => simp [okP]
  | .fld i :: p, hp, ho => simp [okP] at ho
  | .idx i :: p, hp, _ => simp [kp] at hp

theorem nav_rep : ∀ {t : Ty} {p : List Step} {b off : Nat} {O : List Nat} {x : t.den}, Rep H S t O (cellsAt H b off t.size) x → off + t.size ≤ (blk H b).length → okP t x p →
  cellsAt H' b off t.size = cellsAt H b off t.size → (∀ c ∈ O, H'[c]? = H[c]?) → Nav H' t p b off = Nav H t p b off := by
 intro t
 induction t with
 | pair a c iha ihc =>
  intro p b off O x hR hb ho hc hO
  match p, ho with
  | [], _ => rfl
  | .fld 0 :: p, ho =>
   obtain ⟨P1, P2, rfl, h1, h2⟩ := hR
   simp only [Ty.size] at *
   rw [cellsAt_take _ _ _ _ (by omega)] at h1
   exact iha h1 (by omega) ho (cells_sub hc (by omega) (by omega)) (fun c hc => hO c (by simp [hc]))
  | .fld (n + 1) :: p, ho =>
   obtain ⟨P1, P2, rfl, h1, h2⟩ := hR
   simp only [Ty.size] at *
   rw [cellsAt_drop, Nat.add_sub_cancel_left] at h2
   exact ihc h2 (by omega) ho (cells_sub hc (by omega) (by omega)) (fun c hc => hO c (by simp [hc]))
  | .idx i :: p, ho => simp [okP] at ho
 | arr n t ih =>
  intro p b off O x hR hb ho hc hO
  match p, ho with
  | [], _ => rfl
  | .idx i :: p, ho =>
   obtain ⟨hi, ho⟩ := ho
   obtain ⟨hl, hR⟩ := hR
   simp only [Ty.size] at *
   obtain ⟨b1, b2, b3, b4⟩ := idx_bound (sz := t.size) hi
   obtain ⟨P1, P2, P3, rfl, g1, g2, g3⟩ := RepL.split (d := t.dflt) (i := i.toNat) (by rw [hl]; exact b1) hR
   rw [cellsAt_drop, cellsAt_take _ _ _ _ (by omega)] at g2
   exact ih g2 (by omega) ho (cells_sub hc (by omega) (by omega)) (fun c hc => hO c (by simp [hc]))
  | .fld i :: p, ho => simp [okP] at ho
 | slc o t ih =>
  intro p b off O x hR hb ho hc hO
  match p, ho with
  | [], _ => cases o <;> rfl
  | .idx i :: p, ho =>
   cases o with
   | false => simp [okP] at ho
   | true =>
    obtain ⟨hi, ho⟩ := ho
    rcases hR with ⟨_, _, hn⟩ | ⟨b1, o1, cap, O', c1, c2, c3, c4, c5, rfl, c6⟩
    ·subst hn; simp at hi; omega
    ·simp only [Ty.size] at *
     have hh := (cellsAt_one b off _).1 c1
     have hh' := (cellsAt_one b off _).1 (hc.trans c1)
     obtain ⟨b1', b2, b3, b4⟩ := idx_bound (sz := t.size) hi
     obtain ⟨P1, P2, P3, rfl, g1, g2, g3⟩ := RepL.split (d := t.dflt) (i := i.toNat) b1' c5
     rw [cellsAt_drop, cellsAt_take _ _ _ _ (by omega)] at g2
     have hcap : List.length x * t.size ≤ cap * t.size := Nat.mul_le_mul_right _ c2
     simp only [Nav, hh, hh']
     exact ih g2 (by omega) ho (cellsAt_congr (hO b1 (by simp)) _ _) (fun c hc => hO c (by simp [hc]))
  | .fld i :: p, ho => cases o <;> simp [okP] at ho
 | _ =>
  intro p b off O x hR hb ho hc hO
  match p, ho with
  | [], _ => rfl
  | .fld i :: p, ho => simp [okP] at ho
  | .idx i :: p, ho => simp [okP] at ho

theorem at_rep {t : Ty} {p : List Step} {b off : Nat} {O : List Nat} {x : t.den} (hR : Rep H S t O (cellsAt H b off t.size) x) (hb : off + t.size ≤ (blk H b).length) (ho : okP t x p)
  (hc : cellsAt H' b off t.size = cellsAt H b off t.size) (hO : ∀ c ∈ O, H'[c]? = H[c]?) {u : Ty} {y : u.den} (hg : getP t x p = some ⟨u, y⟩) {b' off' : Nat} (hn : Nav H t p b off = some (b', off')) :
  cellsAt H' b' off' u.size = cellsAt H b' off' u.size := by
 obtain ⟨O1, O2, c1, c2, e1, e2, e3, e4, e5, e6⟩ := focus hR hb ho hg
 rw [hn] at e3; cases e3
 rcases e6 with ⟨rfl, g1, g2⟩ | ⟨g1, _⟩
 ·exact cells_sub hc g1 g2
 ·exact cellsAt_congr (hO _ (e1.mem_iff.2 (by simp [g1]))) _ _

theorem cast_set {t t' : Ty} (h : t' = t) (z : t'.den) (p : List Step) : okP t (h ▸ z : t.den) p ↔ okP t' z p := by subst h; rfl

theorem getD_set {α : Type} (l : List α) (i j : Nat) (v d : α) : (l.set i v).getD j d = if i = j ∧ j < l.length then v else l.getD j d := by
 simp only [List.getD_eq_getElem?_getD, List.getElem?_set]
 by_cases h : i = j
 ·subst h
  by_cases h2 : i < l.length <;> simp [h2]
 ·simp [h]


theorem setP_sh : ∀ {t : Ty} {x : t.den} {p : List Step} {u : Ty} {y : u.den} {z : Sigma Ty.den}, setP t x p u y = some z → z.1.sh = t.sh := by
 intro t
 induction t with
 | pair a c iha ihc =>
  intro x p u y z h
  match p, h with
  | [], h =>
   simp only [setP] at h
   split at h
   ·rename_i e; cases h; exact e
   ·cases h
  | .fld 0 :: p, h =>
   simp only [setP] at h
   split at h
   ·rename_i t' w hw; cases h; simp only [Ty.sh, iha hw]
   ·cases h
  | .fld (n + 1) :: p, h =>
   simp only [setP] at h
   split at h
   ·rename_i t' w hw; cases h; simp only [Ty.sh, ihc hw]
   ·cases h
  | .idx i :: p, h => simp [setP] at h
 | arr n t ih =>
  intro x p u y z h
  match p, h with
  | [], h =>
   simp only [setP] at h
   split at h
   ·rename_i e; cases h; exact e
   ·cases h
  | .idx i :: p, h =>
   simp only [setP] at h
   split at h
   ·split at h
    ·cases h; rfl
    ·cases h
   ·cases h
  | .fld i :: p, h => simp [setP] at h
 | slc o t ih =>
  intro x p u y z h
  match p, h with
  | [], h =>
   have h : (if u.sh = (Ty.slc o t).sh then some (⟨u, y⟩ : Sigma Ty.den) else none) = some z := by cases o <;> exact h
   split at h
   ·rename_i e; cases h; exact e
   ·cases h
  | .idx i :: p, h =>
   cases o with
   | false => simp [setP] at h
   | true =>
    simp only [setP] at h
    split at h
    ·split at h
     ·cases h; rfl
     ·cases h
    ·cases h
  | .fld i :: p, h => cases o <;> simp [setP] at h
 | _ =>
  intro x p u y z h
  match p, h with
  | [], h =>
   simp only [setP] at h
   split at h
   ·rename_i e; cases h; exact e
   ·cases h
  | .idx i :: p, h => simp [setP] at h
  | .fld i :: p, h => simp [setP] at h

theorem nav_keep : ∀ {t : Ty} {q : List Step} {b off : Nat} {O1 : List Nat} {x : t.den}, RepBut H S t q b off O1 x →
  ∀ {u0 : Ty} {y0 : u0.den}, getP t x q = some ⟨u0, y0⟩ → ∀ {b' off' : Nat}, Nav H t q b off = some (b', off') →
  off + t.size ≤ (blk H b).length → b < H.size → O1.Nodup → b ∉ O1 → (∀ c ∈ O1, c < H.size) →
  ∀ {u : Ty} {y : u.den} {z : Sigma Ty.den}, Chg H H' b' off' u0.size → setP t x q u y = some z →
  ∀ {p : List Step}, kp q p = true → okP t x p → Nav H' z.1 p b off = Nav H t p b off ∧ okP z.1 z.2 p := by
 intro t
 induction t with
 | pair a c iha ihc =>
  intro q b off O1 x hR u0 y0 hg b' off' hn hb hbs hnd hbO hO1 u y z hc hz p hk ho
  match q, hR, hg, hn, hz, hk with
  | [], hR, hg, hn, hz, hk =>
   simp only [setP] at hz
   split at hz
   ·rename_i e; cases hz; exact ⟨sh_nav e hk, sh_ok e hk ho⟩
   ·cases hz
  | .fld 0 :: q, ⟨P1, P2, e, h1, h2⟩, hg, hn, hz, hk =>
   subst e
   simp only [setP] at hz
   split at hz
   ·rename_i t' w hw
    cases hz
    simp only [List.nodup_append, List.mem_append, not_or] at hnd hbO
    simp only [Ty.size] at hb
    have hrng := RepBut.range h1 hg hn
    match p, hk, ho with
    | [], _, _ => exact ⟨rfl, trivial⟩
    | .fld 0 :: p, hk, ho =>
     exact iha h1 hg hn (by omega) hbs hnd.1 hbO.1 (fun c hc => hO1 c (by simp [hc])) hc hw (by simpa [kp] using hk) ho
    | .fld (m + 1) :: p, _, ho =>
     have hsz : t'.size = a.size := size_er (setP_sh hw)
     refine ⟨?_, ho⟩
     simp only [Nav, hsz]
     refine nav_rep h2 (by omega) ho ?_ ?_
     ·refine hc.cells hbs (fun e => ?_)
      rcases hrng with ⟨_, g, g'⟩ | g
      ·right; omega
      ·exact absurd (by simp [e, g] : b ∈ P1) hbO.1
     ·intro d hd
      refine hc.rest d ?_ (hO1 d (by simp [hd]))
      rintro rfl
      rcases hrng with ⟨g, _⟩ | g
      ·subst g; exact hbO.2 hd
      ·exact hnd.2.2 _ g _ hd rfl
    | .idx i :: p, hk, _ => simp [kp] at hk
   ·cases hz
  | .fld (n + 1) :: q, ⟨P1, P2, e, h1, h2⟩, hg, hn, hz, hk =>
   subst e
   simp only [setP] at hz
   split at hz
   ·rename_i t' w hw
    cases hz
    simp only [List.nodup_append, List.mem_append, not_or] at hnd hbO
    simp only [Ty.size] at hb
    have hrng := RepBut.range h2 hg hn
    match p, hk, ho with
    | [], _, _ => exact ⟨rfl, trivial⟩
    | .fld 0 :: p, _, ho =>
     refine ⟨?_, ho⟩
     simp only [Nav]
     refine nav_rep h1 (by omega) ho ?_ ?_
     ·refine hc.cells hbs (fun e => ?_)
      rcases hrng with ⟨_, g, g'⟩ | g
      ·left; omega
      ·exact absurd (by simp [e, g] : b ∈ P2) hbO.2
     ·intro d hd
      refine hc.rest d ?_ (hO1 d (by simp [hd]))
      rintro rfl
      rcases hrng with ⟨g, _⟩ | g
      ·subst g; exact hbO.1 hd
      ·exact hnd.2.2 _ hd _ g rfl
    | .fld (m + 1) :: p, hk, ho =>
     exact ihc h2 hg hn (by omega) hbs hnd.2.1 hbO.2 (fun c hc => hO1 c (by simp [hc])) hc hw (by
      simp only [kp, Nat.add_right_cancel_iff] at hk ⊢; exact hk) ho
    | .idx i :: p, hk, _ => simp [kp] at hk
   ·cases hz
  | .idx i :: q, hR, _, _, _, _ => simp [RepBut] at hR
 | arr n t ih =>
  intro q b off O1 x hR u0 y0 hg b' off' hn hb hbs hnd hbO hO1 u y z hc hz p hk ho
  match q, hR, hg, hn, hz, hk with
  | [], hR, hg, hn, hz, hk =>
   simp only [setP] at hz
   split at hz
   ·rename_i e; cases hz; exact ⟨sh_nav e hk, sh_ok e hk ho⟩
   ·cases hz
  | .idx i :: q, ⟨hl, hi, P1, P2, P3, e, h1, h2, h3⟩, hg, hn, hz, hk =>
   subst e
   simp only [setP] at hz
   split at hz
   ·rename_i t' w hw
    split at hz
    ·rename_i ht; subst ht; cases hz
     simp only [List.nodup_append, List.mem_append, not_or] at hnd hbO
     obtain ⟨b1, b2, b3, b4⟩ := idx_bound (sz := t'.size) hi
     simp only [Ty.size] at hb
     have hrng := RepBut.range h2 hg hn
     match p, hk, ho with
     | [], _, _ => exact ⟨rfl, trivial⟩
     | .idx j :: p, hk, ho =>
      obtain ⟨hj, ho⟩ := ho
      obtain ⟨d1, d2, d3, d4⟩ := idx_bound (sz := t'.size) hj
      simp only [Nav, okP]
      by_cases hij : i.toNat = j.toNat
      ·rw [← hij] at ho ⊢
       have := ih h2 hg hn (by omega) hbs hnd.2.1.1 hbO.2.1 (fun c hc => hO1 c (by simp [hc])) hc hw (by simpa [kp] using hk) ho
       refine ⟨this.1, hj, ?_⟩
       rw [getD_set, if_pos ⟨rfl, by rw [hl]; exact b1⟩]
       exact this.2
      ·rw [getD_set, if_neg (by simp [hij])]
       refine ⟨?_, hj, ho⟩
       have hne : ∀ d, (d ∈ P1 ∨ d ∈ P3) → H'[d]? = H[d]? := by
        intro d hd
        refine hc.rest d ?_ (hO1 d (by rcases hd with h | h <;> simp [h]))
        rintro rfl
        rcases hrng with ⟨g, _⟩ | g
        ·subst g; rcases hd with h | h
         ·exact hbO.1 h
         ·exact hbO.2.2 h
        ·rcases hd with h | h
         ·exact hnd.2.2 _ h _ (.inl g) rfl
         ·exact hnd.2.1.2.2 _ g _ h rfl
       rcases Nat.lt_or_gt_of_ne hij with hlt | hgt
       ·-- j above i
        have hd : j.toNat - (i.toNat + 1) < (List.drop (i.toNat + 1) x).length := by simp only [List.length_drop]; omega
        obtain ⟨Q1, Q2, Q3, e, k1, k2, k3⟩ := RepL.split (d := t'.dflt) hd h3
        have e1 : (i.toNat + 1) * t'.size + (j.toNat - (i.toNat + 1)) * t'.size = j.toNat * t'.size := by rw [← Nat.add_mul]; congr 1; omega
        have hm : (j.toNat - (i.toNat + 1)) * t'.size + t'.size ≤ (n - (i.toNat + 1)) * t'.size := by omega
        rw [cellsAt_drop, cellsAt_take _ _ _ _ (by omega), Nat.add_assoc, e1] at k2
        have e2 : (List.drop (i.toNat + 1) x).getD (j.toNat - (i.toNat + 1)) t'.dflt = List.getD x j.toNat t'.dflt := by
         simp only [List.getD_eq_getElem?_getD, List.getElem?_drop]
         rw [show i.toNat + 1 + (j.toNat - (i.toNat + 1)) = j.toNat from by omega]
        rw [e2] at k2
        refine nav_rep k2 (by omega) ho ?_ (fun d hd => hne d (.inr (by rw [e]; simp [hd])))
        refine hc.cells hbs (fun e => ?_)
        rcases hrng with ⟨_, g, g'⟩ | g
        ·right; omega
        ·exact absurd (by simp [e, g] : b ∈ P2) hbO.2.1
       ·have hd : j.toNat < (List.take i.toNat x).length := by simp only [List.length_take]; omega
        obtain ⟨Q1, Q2, Q3, e, k1, k2, k3⟩ := RepL.split (d := t'.dflt) hd h1
        have hm : j.toNat * t'.size + t'.size ≤ i.toNat * t'.size := by
         rw [← Nat.succ_mul]; exact Nat.mul_le_mul_right _ (by omega)
        rw [cellsAt_drop, cellsAt_take _ _ _ _ (by omega)] at k2
        have e2 : (List.take i.toNat x).getD j.toNat t'.dflt = List.getD x j.toNat t'.dflt := by
         simp only [List.getD_eq_getElem?_getD, List.getElem?_take]
         rw [if_pos (by omega)]
        rw [e2] at k2
        refine nav_rep k2 (by omega) ho ?_ (fun d hd => hne d (.inl (by rw [e]; simp [hd])))
        refine hc.cells hbs (fun e => ?_)
        rcases hrng with ⟨_, g, g'⟩ | g
        ·left; omega
        ·exact absurd (by simp [e, g] : b ∈ P2) hbO.2.1
     | .fld i :: p, hk, _ => simp [kp] at hk
    ·cases hz
   ·cases hz
  | .fld i :: q, hR, _, _, _, _ => simp [RepBut] at hR
 | slc o t ih =>
  intro q b off O1 x hR u0 y0 hg b' off' hn hb hbs hnd hbO hO1 u y z hc hz p hk ho
  match q, hR, hg, hn, hz, hk with
  | [], hR, hg, hn, hz, hk =>
   have hz : (if u.sh = (Ty.slc o t).sh then some (⟨u, y⟩ : Sigma Ty.den) else none) = some z := by cases o <;> exact hz
   split at hz
   ·rename_i e; cases hz; exact ⟨sh_nav e hk, sh_ok e hk ho⟩
   ·cases hz
  | .idx i :: q, hR, hg, hn, hz, hk =>
   cases o with
   | false => simp [RepBut] at hR
   | true =>
    obtain ⟨hi, c1, o1, cap, P1, P2, P3, e, e1, e2, e3, e4, e5, e6, e7⟩ := hR
    subst e
    simp only [Nav, e1] at hn
    simp only [setP] at hz
    split at hz
    ·rename_i t' w hw
     split at hz
     ·rename_i ht; subst ht; cases hz
      simp only [List.nodup_append, List.mem_append, List.nodup_cons, List.mem_cons, not_or] at hnd hbO
      obtain ⟨b1, b2, b3, b4⟩ := idx_bound (sz := t'.size) hi
      have hcap : List.length x * t'.size ≤ cap * t'.size := Nat.mul_le_mul_right _ e2
      have hfb := e4.blk
      have hc1 : c1 < H.size := hO1 c1 (by simp)
      have hrng := RepBut.range e6 hg hn
      have hbb : b ≠ b' := by
       rintro rfl
       rcases hrng with ⟨g, _⟩ | g
       ·exact hbO.1 g
       ·exact hbO.2.2.1 g
      have hhd : (blk H' b)[off]? = some (.slice (some ⟨c1, o1, none⟩) (List.length x) cap) := by
       rw [blk_congr (hc.rest b hbb hbs)]; exact e1
      match p, hk, ho with
      | [], _, _ => exact ⟨rfl, trivial⟩
      | .idx j :: p, hk, ho =>
       obtain ⟨hj, ho⟩ := ho
       obtain ⟨d1, d2, d3, d4⟩ := idx_bound (sz := t'.size) hj
       simp only [Nav, okP, e1, hhd, List.length_set]
       by_cases hij : i.toNat = j.toNat
       ·rw [← hij] at ho ⊢
        have := ih e6 hg hn (by omega) hc1 hnd.2.2.1.1 hnd.1.2.1 (fun c hc => hO1 c (by simp [hc])) hc hw (by simpa [kp] using hk) ho
        refine ⟨this.1, hj, ?_⟩
        rw [getD_set, if_pos ⟨rfl, b1⟩]
        exact this.2
       ·rw [getD_set, if_neg (by simp [hij])]
        refine ⟨?_, hj, ho⟩
        have hne : ∀ d, (d ∈ P1 ∨ d ∈ P3) → H'[d]? = H[d]? := by
         intro d hd
         refine hc.rest d ?_ (hO1 d (by rcases hd with h | h <;> simp [h]))
         rintro rfl
         rcases hrng with ⟨g, _⟩ | g
         ·subst g; rcases hd with h | h
          ·exact hnd.1.1 h
          ·exact hnd.1.2.2 h
         ·rcases hd with h | h
          ·exact hnd.2.2.2 _ h _ (.inl g) rfl
          ·exact hnd.2.2.1.2.2 _ g _ h rfl
        rcases Nat.lt_or_gt_of_ne hij with hlt | hgt
        ·have hd : j.toNat - (i.toNat + 1) < (List.drop (i.toNat + 1) x).length := by simp only [List.length_drop]; omega
         obtain ⟨Q1, Q2, Q3, e, k1, k2, k3⟩ := RepL.split (d := t'.dflt) hd e7
         have f1 : (i.toNat + 1) * t'.size + (j.toNat - (i.toNat + 1)) * t'.size = j.toNat * t'.size := by rw [← Nat.add_mul]; congr 1; omega
         have hm : (j.toNat - (i.toNat + 1)) * t'.size + t'.size ≤ (List.length x - (i.toNat + 1)) * t'.size := by omega
         rw [cellsAt_drop, cellsAt_take _ _ _ _ (by omega), Nat.add_assoc, f1] at k2
         have f2 : (List.drop (i.toNat + 1) x).getD (j.toNat - (i.toNat + 1)) t'.dflt = List.getD x j.toNat t'.dflt := by
          simp only [List.getD_eq_getElem?_getD, List.getElem?_drop]
          rw [show i.toNat + 1 + (j.toNat - (i.toNat + 1)) = j.toNat from by omega]
         rw [f2] at k2
         refine nav_rep k2 (by omega) ho ?_ (fun d hd => hne d (.inr (by rw [e]; simp [hd])))
         refine hc.cells hc1 (fun e => ?_)
         rcases hrng with ⟨_, g, g'⟩ | g
         ·right; omega
         ·exact absurd (by simp [e, g] : c1 ∈ P2) hnd.1.2.1
        ·have hd : j.toNat < (List.take i.toNat x).length := by simp only [List.length_take]; omega
         obtain ⟨Q1, Q2, Q3, e, k1, k2, k3⟩ := RepL.split (d := t'.dflt) hd e5
         have hm : j.toNat * t'.size + t'.size ≤ i.toNat * t'.size := by
          rw [← Nat.succ_mul]; exact Nat.mul_le_mul_right _ (by omega)
         rw [cellsAt_drop, cellsAt_take _ _ _ _ (by omega)] at k2
         have f2 : (List.take i.toNat x).getD j.toNat t'.dflt = List.getD x j.toNat t'.dflt := by
          simp only [List.getD_eq_getElem?_getD, List.getElem?_take]
          rw [if_pos (by omega)]
         rw [f2] at k2
         refine nav_rep k2 (by omega) ho ?_ (fun d hd => hne d (.inl (by rw [e]; simp [hd])))
         refine hc.cells hc1 (fun e => ?_)
         rcases hrng with ⟨_, g, g'⟩ | g
         ·left; omega
         ·exact absurd (by simp [e, g] : c1 ∈ P2) hnd.1.2.1
      | .fld i :: p, hk, _ => simp [kp] at hk
     ·cases hz
    ·cases hz
  | .fld i :: q, hR, _, _, _, _ => cases o <;> simp [RepBut] at hR
 | _ =>
  intro q b off O1 x hR u0 y0 hg b' off' hn hb hbs hnd hbO hO1 u y z hc hz p hk ho
  match q, hR, hg, hn, hz, hk with
  | [], hR, hg, hn, hz, hk =>
   simp only [setP] at hz
   split at hz
   ·rename_i e; cases hz; exact ⟨sh_nav e hk, sh_ok e hk ho⟩
   ·cases hz
  | .idx i :: q, hR, _, _, _, _ => simp [RepBut] at hR
  | .fld i :: q, hR, _, _, _, _ => simp [RepBut] at hR
end
end Go.Ex

namespace Go.Ex

def kc : Ty → List Step → List Step → Bool
 | .pair a _, .fld 0 :: q, .fld 0 :: p => kc a q p
 | .pair _ _, .fld 0 :: _, .fld (_ + 1) :: _ => true
 | .pair _ _, .fld (_ + 1) :: _, .fld 0 :: _ => true
 | .pair _ b, .fld (n + 1) :: q, .fld (m + 1) :: p => kc b (.fld n :: q) (.fld m :: p)
 | .arr _ t, .idx _ :: q, .idx _ :: p => kc t q p
 | .slc true t, .idx _ :: q, .idx _ :: p => kc t q p
 | .slc true _, .idx _ :: _, [] => true
 | _, _, _ => false

section
variable {H H' : Array Go.Obj} {S S' : Nat → Prop}

theorem cells_keep : ∀ {t : Ty} {q : List Step} {b off : Nat} {O1 : List Nat} {x : t.den}, RepBut H S t q b off O1 x →
  ∀ {u0 : Ty} {y0 : u0.den}, getP t x q = some ⟨u0, y0⟩ → ∀ {b' off' : Nat}, Nav H t q b off = some (b', off') →
  off + t.size ≤ (blk H b).length → b < H.size → O1.Nodup → b ∉ O1 → (∀ c ∈ O1, c < H.size) →
  ∀ {u : Ty} {y : u.den} {z : Sigma Ty.den}, Chg H H' b' off' u0.size → setP t x q u y = some z →
  ∀ {p : List Step}, kc t q p = true → okP t x p → ∀ {u1 : Ty} {y1 : u1.den}, getP t x p = some ⟨u1, y1⟩ →
  (∃ y2 : u1.den, getP z.1 z.2 p = some ⟨u1, y2⟩) ∧ ∀ b1 o1, Nav H t p b off = some (b1, o1) → cellsAt H' b1 o1 u1.size = cellsAt H b1 o1 u1.size := by
 intro t
 induction t with
 | pair a c iha ihc =>
  intro q b off O1 x hR u0 y0 hg b' off' hn hb hbs hnd hbO hO1 u y z hc hz p hk ho u1 y1 hg1
  match q, hR, hg, hn, hz, hk with
  | [], _, _, _, _, hk => simp [kc] at hk
  | .fld 0 :: q, ⟨P1, P2, e, h1, h2⟩, hg, hn, hz, hk =>
   subst e
   simp only [setP] at hz
   split at hz
   ·rename_i t' w hw
    cases hz
    simp only [List.nodup_append, List.mem_append, not_or] at hnd hbO
    simp only [Ty.size] at hb
    have hrng := RepBut.range h1 hg hn
    match p, hk, ho, hg1 with
    | [], hk, _, _ => simp [kc] at hk
    | .fld 0 :: p, hk, ho, hg1 =>
     exact iha h1 hg hn (by omega) hbs hnd.1 hbO.1 (fun c hc => hO1 c (by simp [hc])) hc hw (by simpa [kc] using hk) ho hg1
    | .fld (m + 1) :: p, _, ho, hg1 =>
     refine ⟨⟨y1, hg1⟩, fun b1 o1 hn1 => ?_⟩
     refine at_rep h2 (by omega) ho ?_ ?_ hg1 hn1
     ·refine hc.cells hbs (fun e => ?_)
      rcases hrng with ⟨_, g, g'⟩ | g
      ·right; omega
      ·exact absurd (by simp [e, g] : b ∈ P1) hbO.1
     ·intro d hd
      refine hc.rest d ?_ (hO1 d (by simp [hd]))
      rintro rfl
      rcases hrng with ⟨g, _⟩ | g
      ·subst g; exact hbO.2 hd
      ·exact hnd.2.2 _ g _ hd rfl
    | .idx i :: p, hk, _, _ => simp [kc] at hk
   ·cases hz
  | .fld (n + 1) :: q, ⟨P1, P2, e, h1, h2⟩, hg, hn, hz, hk =>
   subst e
   simp only [setP] at hz
   split at hz
   ·rename_i t' w hw
    cases hz
    simp only [List.nodup_append, List.mem_append, not_or] at hnd hbO
    simp only [Ty.size] at hb
    have hrng := RepBut.range h2 hg hn
    match p, hk, ho, hg1 with
    | [], hk, _, _ => simp [kc] at hk
    | .fld 0 :: p, _, ho, hg1 =>
     refine ⟨⟨y1, hg1⟩, fun b1 o1 hn1 => ?_⟩
     refine at_rep h1 (by omega) ho ?_ ?_ hg1 hn1
     ·refine hc.cells hbs (fun e => ?_)
      rcases hrng with ⟨_, g, g'⟩ | g
      ·left; omega
      ·exact absurd (by simp [e, g] : b ∈ P2) hbO.2
     ·intro d hd
      refine hc.rest d ?_ (hO1 d (by simp [hd]))
      rintro rfl
      rcases hrng with ⟨g, _⟩ | g
      ·subst g; exact hbO.1 hd
      ·exact hnd.2.2 _ hd _ g rfl
    | .fld (m + 1) :: p, hk, ho, hg1 =>
     exact ihc h2 hg hn (by omega) hbs hnd.2.1 hbO.2 (fun c hc => hO1 c (by simp [hc])) hc hw (by simpa [kc] using hk) ho hg1
    | .idx i :: p, hk, _, _ => simp [kc] at hk
   ·cases hz
  | .idx i :: q, hR, _, _, _, _ => simp [RepBut] at hR
 | arr n t ih =>
  intro q b off O1 x hR u0 y0 hg b' off' hn hb hbs hnd hbO hO1 u y z hc hz p hk ho u1 y1 hg1
  match q, hR, hg, hn, hz, hk with
  | [], _, _, _, _, hk => simp [kc] at hk
  | .idx i :: q, ⟨hl, hi, P1, P2, P3, e, h1, h2, h3⟩, hg, hn, hz, hk =>
   subst e
   simp only [setP] at hz
   split at hz
   ·rename_i t' w hw
    split at hz
    ·rename_i ht; subst ht; cases hz
     simp only [List.nodup_append, List.mem_append, not_or] at hnd hbO
     obtain ⟨b1, b2, b3, b4⟩ := idx_bound (sz := t'.size) hi
     simp only [Ty.size] at hb
     have hrng := RepBut.range h2 hg hn
     match p, hk, ho, hg1 with
     | [], hk, _, _ => simp [kc] at hk
     | .idx j :: p, hk, ho, hg1 =>
      obtain ⟨hj, ho⟩ := ho
      obtain ⟨d1, d2, d3, d4⟩ := idx_bound (sz := t'.size) hj
      simp only [getP] at hg1 ⊢
      simp only [Nav]
      by_cases hij : i.toNat = j.toNat
      ·rw [← hij] at ho hg1 ⊢
       rw [getD_set, if_pos ⟨rfl, by rw [hl]; exact b1⟩]
       exact ih h2 hg hn (by omega) hbs hnd.2.1.1 hbO.2.1 (fun c hc => hO1 c (by simp [hc])) hc hw (by simpa [kc] using hk) ho hg1
      ·rw [getD_set, if_neg (by simp [hij])]
       refine ⟨⟨y1, hg1⟩, fun bb oo hn1 => ?_⟩
       have hne : ∀ d, (d ∈ P1 ∨ d ∈ P3) → H'[d]? = H[d]? := by
        intro d hd
        refine hc.rest d ?_ (hO1 d (by rcases hd with h | h <;> simp [h]))
        rintro rfl
        rcases hrng with ⟨g, _⟩ | g
        ·subst g; rcases hd with h | h
         ·exact hbO.1 h
         ·exact hbO.2.2 h
        ·rcases hd with h | h
         ·exact hnd.2.2 _ h _ (.inl g) rfl
         ·exact hnd.2.1.2.2 _ g _ h rfl
       rcases Nat.lt_or_gt_of_ne hij with hlt | hgt
       ·have hd : j.toNat - (i.toNat + 1) < (List.drop (i.toNat + 1) x).length := by simp only [List.length_drop]; omega
        obtain ⟨Q1, Q2, Q3, e, k1, k2, k3⟩ := RepL.split (d := t'.dflt) hd h3
        have e1 : (i.toNat + 1) * t'.size + (j.toNat - (i.toNat + 1)) * t'.size = j.toNat * t'.size := by rw [← Nat.add_mul]; congr 1; omega
        have hm : (j.toNat - (i.toNat + 1)) * t'.size + t'.size ≤ (n - (i.toNat + 1)) * t'.size := by omega
        rw [cellsAt_drop, cellsAt_take _ _ _ _ (by omega), Nat.add_assoc, e1] at k2
        have e2 : (List.drop (i.toNat + 1) x).getD (j.toNat - (i.toNat + 1)) t'.dflt = List.getD x j.toNat t'.dflt := by
         simp only [List.getD_eq_getElem?_getD, List.getElem?_drop]
         rw [show i.toNat + 1 + (j.toNat - (i.toNat + 1)) = j.toNat from by omega]
        rw [e2] at k2
        refine at_rep k2 (by omega) ho ?_ (fun d hd => hne d (.inr (by rw [e]; simp [hd]))) hg1 hn1
        refine hc.cells hbs (fun e => ?_)
        rcases hrng with ⟨_, g, g'⟩ | g
        ·right; omega
        ·exact absurd (by simp [e, g] : b ∈ P2) hbO.2.1
       ·have hd : j.toNat < (List.take i.toNat x).length := by simp only [List.length_take]; omega
        obtain ⟨Q1, Q2, Q3, e, k1, k2, k3⟩ := RepL.split (d := t'.dflt) hd h1
        have hm : j.toNat * t'.size + t'.size ≤ i.toNat * t'.size := by
         rw [← Nat.succ_mul]; exact Nat.mul_le_mul_right _ (by omega)
        rw [cellsAt_drop, cellsAt_take _ _ _ _ (by omega)] at k2
        have e2 : (List.take i.toNat x).getD j.toNat t'.dflt = List.getD x j.toNat t'.dflt := by
         simp only [List.getD_eq_getElem?_getD, List.getElem?_take]
         rw [if_pos (by omega)]
        rw [e2] at k2
        refine at_rep k2 (by omega) ho ?_ (fun d hd => hne d (.inl (by rw [e]; simp [hd]))) hg1 hn1
        refine hc.cells hbs (fun e => ?_)
        rcases hrng with ⟨_, g, g'⟩ | g
        ·left; omega
        ·exact absurd (by simp [e, g] : b ∈ P2) hbO.2.1
     | .fld i :: p, hk, _, _ => simp [kc] at hk
    ·cases hz
   ·cases hz
  | .fld i :: q, hR, _, _, _, _ => simp [RepBut] at hR
 | slc o t ih =>
  intro q b off O1 x hR u0 y0 hg b' off' hn hb hbs hnd hbO hO1 u y z hc hz p hk ho u1 y1 hg1
  match q, hR, hg, hn, hz, hk with
  | [], _, _, _, _, hk => cases o <;> simp [kc] at hk
  | .idx i :: q, hR, hg, hn, hz, hk =>
   cases o with
   | false => simp [RepBut] at hR
   | true =>
    obtain ⟨hi, c1, o1, cap, P1, P2, P3, e, e1, e2, e3, e4, e5, e6, e7⟩ := hR
    subst e
    simp only [Nav, e1] at hn
    simp only [setP] at hz
    split at hz
    ·rename_i t' w hw
     split at hz
     ·rename_i ht; subst ht; cases hz
      simp only [List.nodup_append, List.mem_append, List.nodup_cons, List.mem_cons, not_or] at hnd hbO
      obtain ⟨b1, b2, b3, b4⟩ := idx_bound (sz := t'.size) hi
      have hcap : List.length x * t'.size ≤ cap * t'.size := Nat.mul_le_mul_right _ e2
      have hfb := e4.blk
      have hc1 : c1 < H.size := hO1 c1 (by simp)
      have hrng := RepBut.range e6 hg hn
      have hbb : b ≠ b' := by
       rintro rfl
       rcases hrng with ⟨g, _⟩ | g
       ·exact hbO.1 g
       ·exact hbO.2.2.1 g
      match p, hk, ho, hg1 with
      | [], _, _, hg1 =>
       simp only [getP, Option.some.injEq] at hg1
       cases hg1
       refine ⟨⟨_, rfl⟩, fun bb oo hn1 => ?_⟩
       simp only [Nav, Option.some.injEq] at hn1
       cases hn1
       exact cellsAt_congr (hc.rest b hbb hbs) _ _
      | .idx j :: p, hk, ho, hg1 =>
       obtain ⟨hj, ho⟩ := ho
       obtain ⟨d1, d2, d3, d4⟩ := idx_bound (sz := t'.size) hj
       simp only [getP] at hg1 ⊢
       simp only [Nav, e1]
       by_cases hij : i.toNat = j.toNat
       ·rw [← hij] at ho hg1 ⊢
        rw [getD_set, if_pos ⟨rfl, b1⟩]
        exact ih e6 hg hn (by omega) hc1 hnd.2.2.1.1 hnd.1.2.1 (fun c hc => hO1 c (by simp [hc])) hc hw (by simpa [kc] using hk) ho hg1
       ·rw [getD_set, if_neg (by simp [hij])]
        refine ⟨⟨y1, hg1⟩, fun bb oo hn1 => ?_⟩
        have hne : ∀ d, (d ∈ P1 ∨ d ∈ P3) → H'[d]? = H[d]? := by
         intro d hd
         refine hc.rest d ?_ (hO1 d (by rcases hd with h | h <;> simp [h]))
         rintro rfl
         rcases hrng with ⟨g, _⟩ | g
         ·subst g; rcases hd with h | h
          ·exact hnd.1.1 h
          ·exact hnd.1.2.2 h
         ·rcases hd with h | h
          ·exact hnd.2.2.2 _ h _ (.inl g) rfl
          ·exact hnd.2.2.1.2.2 _ g _ h rfl
        rcases Nat.lt_or_gt_of_ne hij with hlt | hgt
        ·have hd : j.toNat - (i.toNat + 1) < (List.drop (i.toNat + 1) x).length := by simp only [List.length_drop]; omega
         obtain ⟨Q1, Q2, Q3, e, k1, k2, k3⟩ := RepL.split (d := t'.dflt) hd e7
         have f1 : (i.toNat + 1) * t'.size + (j.toNat - (i.toNat + 1)) * t'.size = j.toNat * t'.size := by rw [← Nat.add_mul]; congr 1; omega
         have hm : (j.toNat - (i.toNat + 1)) * t'.size + t'.size ≤ (List.length x - (i.toNat + 1)) * t'.size := by omega
         rw [cellsAt_drop, cellsAt_take _ _ _ _ (by omega), Nat.add_assoc, f1] at k2
         have f2 : (List.drop (i.toNat + 1) x).getD (j.toNat - (i.toNat + 1)) t'.dflt = List.getD x j.toNat t'.dflt := by
          simp only [List.getD_eq_getElem?_getD, List.getElem?_drop]
          rw [show i.toNat + 1 + (j.toNat - (i.toNat + 1)) = j.toNat from by omega]
         rw [f2] at k2
         refine at_rep k2 (by omega) ho ?_ (fun d hd => hne d (.inr (by rw [e]; simp [hd]))) hg1 hn1
         refine hc.cells hc1 (fun e => ?_)
         rcases hrng with ⟨_, g, g'⟩ | g
         ·right; omega
         ·exact absurd (by simp [e, g] : c1 ∈ P2) hnd.1.2.1
        ·have hd : j.toNat < (List.take i.toNat x).length := by simp only [List.length_take]; omega
         obtain ⟨Q1, Q2, Q3, e, k1, k2, k3⟩ := RepL.split (d := t'.dflt) hd e5
         have hm : j.toNat * t'.size + t'.size ≤ i.toNat * t'.size := by
          rw [← Nat.succ_mul]; exact Nat.mul_le_mul_right _ (by omega)
         rw [cellsAt_drop, cellsAt_take _ _ _ _ (by omega)] at k2
         have f2 : (List.take i.toNat x).getD j.toNat t'.dflt = List.getD x j.toNat t'.dflt := by
          simp only [List.getD_eq_getElem?_getD, List.getElem?_take]
          rw [if_pos (by omega)]
         rw [f2] at k2
         refine at_rep k2 (by omega) ho ?_ (fun d hd => hne d (.inl (by rw [e]; simp [hd]))) hg1 hn1
         refine hc.cells hc1 (fun e => ?_)
         rcases hrng with ⟨_, g, g'⟩ | g
         ·left; omega
         ·exact absurd (by simp [e, g] : c1 ∈ P2) hnd.1.2.1
      | .fld i :: p, hk, _, _ => simp [kc] at hk
     ·cases hz
    ·cases hz
  | .fld i :: q, hR, _, _, _, _ => cases o <;> simp [RepBut] at hR
 | _ =>
  intro q b off O1 x hR u0 y0 hg b' off' hn hb hbs hnd hbO hO1 u y z hc hz p hk ho u1 y1 hg1
  cases q <;> simp [kc] at hk
end
end Go.Ex

namespace Go.Ex

def look {α : Type _} (n : Nat) : List (Nat × α) → Option α
 | [] => none
 | (m, x) :: l => match Nat.beq n m with | true => some x | false => look n l

def put {α : Type _} (n : Nat) (x : α) (l : List (Nat × α)) : List (Nat × α) :=
 match l with
 | [] => [(n, x)]
 | (m, y) :: l => match Nat.beq n m with
  | true => (n, x) :: l
  | false => match Nat.blt n m with
   | true => (n, x) :: (m, y) :: l
   | false => (m, y) :: put n x l

def del {α : Type _} (n : Nat) : List (Nat × α) → List (Nat × α)
 | [] => []
 | (m, y) :: l => match Nat.beq n m with | true => del n l | false => (m, y) :: del n l

/-! ### types against the program's table -/
structure TI where
 ty : Ty
 by_ : Nat

def zc : Ty → List Value
 | .int k => [.int k 0]
 | .bool => [.bool false]
 | .str => [.string ⟨#[]⟩]
 | .unit => []
 | .fn _ => [.nilFunc]
 | .map _ _ _ => [.map none]
 | .box _ g _ => [boxN g]
 | .pair a b => zc a ++ zc b
 | .arr n t => (List.replicate n (zc t)).flatten
 | .slc _ _ | .hole _ => [.slice none 0 0]

def eqS : Value → Value → Bool
 | .int k n, .int k' n' => decide (k = k') && decide (n = n')
 | .bool a, .bool b => a == b
 | .string a, .string b => a.data.size == 0 && b.data.size == 0
 | .slice none a b, .slice none c d => Nat.beq a c && Nat.beq b d
 | .nilFunc, .nilFunc => true
 | .map none, .map none => true
 | .pointer none, .pointer none => true
 | _, _ => false

def eqL : List Value → List Value → Bool
 | [], [] => true
 | a :: l, b :: m => eqS a b && eqL l m
 | _, _ => false

def eqV : Value → Value → Bool
 | .agg a, .agg b => eqL a.toList b.toList
 | a, b => eqS a b

def Ty.al : Ty → Nat
 | .int k => k.bits / 8
 | .bool => 1
 | .str | .slc _ _ | .fn _ | .map _ _ _ | .box _ _ _ | .hole _ => 8
 | .unit => 1
 | .pair a b => Nat.max a.al b.al
 | .arr _ t => t.al

def rup (n a : Nat) : Nat := (n + (a - 1)) / a * a

mutual
def Ty.wb : Ty → Nat
 | .int k => k.bits / 8
 | .bool => 1
 | .str => 16
 | .slc _ _ | .hole _ => 24
 | .fn _ => 8
 | .map _ _ _ => 8
 | .box _ _ _ => 8
 | .unit => 0
 | .pair a b => rup (b.offs (rup 0 a.al + a.wb)) (Nat.max a.al b.al)
 | .arr n t => n * t.wb
def Ty.offs : Ty → Nat → Nat
 | .pair a b, o => b.offs (rup o a.al + a.wb)
 | _, o => o
end

def fieldsOk (ck : TypeId → Ty → Bool) : List Field → Nat → Ty → Bool
 | [], _, .unit => true
 | f :: fs, off, .pair a b => Nat.beq f.offset off && Nat.ble 1 a.size && ck f.type a && f.name != "_" && fieldsOk ck fs (off + a.size) b
 | _, _, _ => false

def tyOk (P : Program) : Nat → TypeId → Ty → Bool
 | 0, _, _ => false
 | n + 1, T, t =>
  (match P.info? T with
  | some i => Nat.beq i.size t.size && Nat.beq i.bytes t.wb && (match i.zero with | some z => eqV z (toV t (zc t)) | none => false)
  | none => false) &&
  match P.underlying T, t with
  | some .bool, .bool => true
  | some (.int k), .int k' => decide (k = k')
  | some .string, .str => true
  | some (.func _ _ _), .fn _ => true
  | some (.map K V), .map _ k v => k.shared && v.shared && tyOk P n K k && tyOk P n V v
  | some (.pointer e), .box _ none t => tyOk P n e t
  | some (.func _ _ _), .box _ (some _) _ => true
  | some (.struct fs), t => fieldsOk (tyOk P n) fs.toList 0 t
  | some (.array m e), .arr m' t => Nat.beq m m' && Nat.ble 1 t.size && tyOk P n e t
  | some (.slice e), .slc _ t => Nat.ble 1 t.size && tyOk P n e t
  | some (.slice e), .hole t => Nat.ble 1 t.size && tyOk P n e t
  | _, _ => false

def tiOk (P : Program) (x : TypeId × TI) : Bool := tyOk P 100 x.1 x.2.ty && Nat.beq (P.bytesOf x.1) x.2.by_

/-! ### abstract values -/
inductive AV where
 | any
 | raw (v : Value)
 | val (t : Ty) (x : t.den)
 | ptr (i : Nat) (p : List Step)
 | rptr (t : Ty) (x : t.den)
 | at_ (i : Nat) (p : List Step)
 | sub (i : Nat) (p : List Step) (lo hi : Int)
 | nil
 | cons (a b : AV)
 | tup (l : AV)
 | clo (f : FuncId) (l : AV)
 | bx (l : AV)

inductive Ent where
 | var (t : Ty) (x : t.den)
 | own (t : Ty) (x : t.den)
 | bag

def Ent.ty : Ent → Ty | .var t _ => t | .own t _ => t | .bag => .unit
def Ent.x : (e : Ent) → e.ty.den | .var _ x => x | .own _ x => x | .bag => ()
def Ent.upd (e : Ent) (r : Sigma Ty.den) : Ent := match e with | .var _ _ => .var r.1 r.2 | .own _ _ => .own r.1 r.2 | .bag => .bag
def Ent.isOwn : Ent → Bool | .own _ _ => true | _ => false
def Ent.kd (e : Ent) : Bool × Ty := (e.isOwn, e.ty)

structure St where
 fr : List (Nat × AV)
 hp : List (Nat × Ent)

def St.get (s : St) (t : Nat) : AV := (look t s.fr).getD .any
def St.obj (s : St) (i : Nat) : Option Ent := look i s.hp

def St.put (s : St) (d : Option Nat) (v : AV) : St :=
 match d with
 | some t => { s with fr := Ex.put t v s.fr }
 | none => s

def AV.ment (i : Nat) : AV → Bool
 | .ptr j _ | .at_ j _ | .sub j _ _ _ => Nat.beq i j
 | .cons a b => a.ment i || b.ment i
 | .tup l | .clo _ l | .bx l => l.ment i
 | _ => false

def AV.map (f : AV → AV) : AV → AV
 | .ptr j p => f (.ptr j p)
 | .at_ j p => f (.at_ j p)
 | .sub j p a b => f (.sub j p a b)
 | .cons a b => .cons (a.map f) (b.map f)
 | .tup l => .tup (l.map f)
 | .clo g l => .clo g (l.map f)
 | .bx l => .bx (l.map f)
 | v => v

def AV.drop (i : Nat) : AV → AV := AV.map fun v => match v.ment i with | true => .any | false => v

def AV.kill1 (i : Nat) (ow : Bool × Ty) (q : List Step) (v : AV) : AV :=
 match v.ment i with
 | false => v
 | true => match v with
  | .ptr j p => match kp q p with | true => .ptr j p | false => .any
  | .at_ j [] => match ow.1, q with
   | true, .idx _ :: _ => .at_ j []
   | _, _ => match kc ow.2 q [] with | true => .at_ j [] | false => .any
  | .at_ j (st :: p) => match kc ow.2 q (st :: p) && kp q (st :: p) with | true => .at_ j (st :: p) | false => .any
  | .sub j [] a b => match ow.1, q with
   | true, .idx _ :: _ => .sub j [] a b
   | _, _ => .any
  | _ => .any

def AV.kill (i : Nat) (ow : Bool × Ty) (q : List Step) : AV → AV := AV.map (AV.kill1 i ow q)

def mapA {α : Type _} (f : α → α) : List (Nat × α) → List (Nat × α)
 | [] => []
 | (n, x) :: l => (n, f x) :: mapA f l

def St.drop (i : Nat) (s : St) : St := { fr := mapA (AV.drop i) s.fr, hp := del i s.hp }
def St.kill (i : Nat) (ow : Bool × Ty) (q : List Step) (s : St) : St := { s with fr := mapA (AV.kill i ow q) s.fr }
def St.drops : List Nat → St → St
 | [], s => s
 | i :: l, s => St.drops l (s.drop i)
def St.putE (s : St) (i : Nat) (e : Ent) : St := { s with hp := Ex.put i e s.hp }

def noMent (i : Nat) : List (Nat × AV) → Bool
 | [] => true
 | (_, v) :: l => !v.ment i && noMent i l

def St.fresh (s : St) (i : Nat) : Bool := (look i s.hp).isNone && noMent i s.fr

/-! ### contracts -/
inductive PK where
 | v (t : Ty)
 | rd (t : Ty)
 | clo (f : FuncId) (ts : List Ty)
 | own (t : Ty)
 | rw (t : Ty)
 | mu (t : Ty)
 | nilS

def DL : List Ty → Type
 | [] => Unit
 | t :: ts => t.den × DL ts

def PK.den : PK → Type
 | .v t => t.den
 | .rd t => t.den
 | .clo _ ts => DL ts
 | .own t => t.den
 | .rw t => t.den
 | .mu t => List t.den
 | .nilS => Unit

def DK : List PK → Type
 | [] => Unit
 | k :: ks => k.den × DK ks

def wts : List PK → List Ty
 | [] => []
 | .rw t :: ks => t :: wts ks
 | .mu t :: ks => .slc true t :: wts ks
 | _ :: ks => wts ks

def DL.app : {a b : List Ty} → DL a → DL b → DL (a ++ b)
 | [], _, _, y => y
 | _ :: _, _, x, y => (x.1, DL.app x.2 y)

structure Ctr where
 ps : List PK
 rs : List Ty
 pre : DK ps → Prop
 fn : DK ps → DL rs
 out : DK ps → DL (wts ps)
 new : Bool := false

structure Env where
 P : Program
 tt : List (TypeId × TI)
 ctr : List (FuncId × Ctr)
 res : List ResultVar
 rs : List Ty
 ps : List PK
 cuts : List (Nat × List (Nat × Option Ty))
 nt : Nat

inductive Tree (rs : List Ty) where
 | need (p : Prop) (t : Tree rs)
 | both (p : Prop) (a b : Tree rs)
 | cut (c : Code) (k : List Item) (s : St)
 | ret (y : DL rs)
 | stuck (why : String)

def Tree.holds {rs : List Ty} (L : Code → List Item → St → Prop) (R : DL rs → Prop) : Tree rs → Prop
 | .need p t => p ∧ (p → t.holds L R)
 | .both p a b => (p → a.holds L R) ∧ b.holds L R
 | .cut c k s => L c k s
 | .ret y => R y
 | .stuck _ => False

inductive OR where
 | fail (why : String)
 | ok (v : AV) (s : St)
 | okN (p : Prop) (v : AV) (s : St)

theorem den_sh : ∀ t : Ty, t.sh.den = t.den := by
 intro t
 induction t with
 | pair a b iha ihb => simp only [Ty.sh, Ty.den, iha, ihb]
 | arr n t ih => simp only [Ty.sh, Ty.den, ih]
 | slc o t ih => simp only [Ty.sh, Ty.den, ih]
 | hole t ih => simp only [Ty.sh, Ty.den, ih]
 | box o g t ih => simp only [Ty.sh, Ty.den, ih]
 | _ => rfl

theorem den_shH : ∀ t : Ty, t.shH.den = t.den := by
 intro t
 induction t with
 | pair a b iha ihb => simp only [Ty.shH, Ty.den, iha, ihb]
 | slc o t ih => simp only [Ty.shH, Ty.den, den_sh]
 | arr n t ih => simp only [Ty.shH, Ty.den, den_sh]
 | box o g t ih => simp only [Ty.shH, Ty.den, den_sh]
 | _ => rfl

theorem den_er {u t : Ty} (h : u.sh = t.sh) : u.den = t.den := by rw [← den_sh u, h, den_sh]

def AV.as (t : Ty) : AV → Option t.den
 | .val u x => if h : u = t then some (h ▸ x) else none
 | .raw (.slice none 0 0) => match t with
  | .slc _ _ => some []
  | _ => none
 | _ => none

def St.part (s : St) (i : Nat) (p : List Step) : Option (Sigma Ty.den) :=
 match s.obj i with
 | some e => getP e.ty e.x p
 | none => none

def lendP (t : Ty) (r : Option (Sigma Ty.den)) : Option t.den :=
 match r with
 | some ⟨u, y⟩ => match u.okH with
  | true => if h : u.shH = t then some (cast ((den_shH u).symm.trans (congrArg Ty.den h)) y) else none
  | false => none
 | none => none

def St.lend (s : St) (t : Ty) (i : Nat) (p : List Step) : Option t.den := lendP t (s.part i p)

def cut2 {α : Type} (lo hi : Int) (l : List α) : List α := (l.drop lo.toNat).take (hi - lo).toNat

def St.view (s : St) (i : Nat) (p : List Step) (lo hi : Int) : Option (Sigma fun t : Ty => List t.den) :=
 match s.part i p with
 | some ⟨.slc _ t, l⟩ => some ⟨t, cut2 lo hi l⟩
 | some ⟨.arr _ t, l⟩ => some ⟨t, cut2 lo hi l⟩
 | _ => none

def AV.asV (s : St) (t : Ty) : AV → Option t.den
 | .at_ i p => s.lend t i p
 | .sub i p lo hi => match s.view i p lo hi with
  | some ⟨u, l⟩ => lendP t (some ⟨.slc true u, l⟩)
  | none => none
 | .val u x => if h : u = t then some (h ▸ x) else lendP t (some ⟨u, x⟩)
 | v => v.as t

def AV.asR (s : St) (t : Ty) : AV → Option t.den
 | .ptr i p => s.lend t i p
 | .rptr u x => if h : u = t then some (h ▸ x) else none
 | .bx (.ptr i p) => match t with
  | .box false none u => (match s.lend u i p with
   | some x => some (some x)
   | none => none)
  | _ => none
 | _ => none

def AV.asRL (s : St) : (ts : List Ty) → AV → Option (DL ts)
 | [], .nil => some ()
 | t :: ts, .cons a b => match a.asR s t, AV.asRL s ts b with
  | some x, some y => some (x, y)
  | _, _ => none
 | _, _ => none

def castD {u t : Ty} (h : u = t) (x : u.den) : t.den := h ▸ x

def AV.give (s : St) : AV → Option (Sigma Ty.den × List Nat)
 | .val t x => some (⟨t, x⟩, [])
 | .at_ i [] => match s.obj i with
  | some (.own t x) => some (⟨t, x⟩, [i])
  | _ => none
 | .sub i [] lo hi => match s.obj i with
  | some (.own (.slc true t) x) => some (⟨.slc true t, cut2 lo hi x⟩, [i])
  | _ => none
 | _ => none

def AV.giveV (s : St) (v : AV) : Option (Sigma Ty.den × List Nat) :=
 match v with
 | .at_ i [] => match s.obj i with
  | some (.var t x) => some (⟨t, x⟩, [i])
  | _ => (AV.at_ i []).give s
 | .clo f .nil => some (⟨.fn f, true⟩, [])
 | v => v.give s

def AV.asK (s : St) (k : PK) (v : AV) : Option (k.den × List Nat × List Nat) :=
 match k with
 | .v t => match v.asV s t with | some x => some (x, [], []) | none => none
 | .rd t => match v.asR s t with | some x => some (x, [], []) | none => none
 | .clo f ts => match v with
  | .clo g l => match Nat.beq f g with
   | true => match AV.asRL s ts l with | some x => some (x, [], []) | none => none
   | false => none
  | _ => none
 | .nilS => match v with
  | .raw (.slice none 0 0) => some ((), [], [])
  | _ => none
 | .own t => match v with
  | .raw (.slice none 0 0) => match v.as t with | some x => some (x, [], []) | none => none
  | v => match v.giveV s with
   | some (⟨u, x⟩, l) => if h : u = t then some (castD h x, l, []) else none
   | none => none
 | .rw t => match v with
  | .ptr i [] => match s.obj i with
   | some (.var u x) => if h : u = t then some (castD h x, [], [i]) else none
   | _ => none
  | _ => none
 | .mu t => match v with
  | .at_ i [] => match s.obj i with
   | some (.own u x) => if h : u = .slc true t then some (castD h x, [], [i]) else none
   | _ => none
  | _ => none

def AV.asKs (s : St) : (ks : List PK) → AV → Option (DK ks × List Nat × List Nat)
 | [], .nil => some ((), [], [])
 | k :: ks, .cons a b => match a.asK s k, AV.asKs s ks b with
  | some (x, g, m), some (y, g', m') => some ((x, y), g ++ g', m ++ m')
  | _, _ => none
 | _, _ => none

def AV.lent : AV → List Nat
 | .at_ i _ | .ptr i _ | .sub i _ _ _ => [i]
 | .cons a b => a.lent ++ b.lent
 | .tup l | .clo _ l | .bx l => l.lent
 | _ => []

def Ty.noSh : Ty → Bool
 | .pair a b => a.noSh && b.noSh
 | .arr _ t => t.noSh
 | .slc o t => o && t.noSh
 | .map o k v => o && k.noSh && v.noSh
 | .box o _ t => o && t.noSh
 | _ => true

def AV.app : AV → AV → AV
 | .cons a b, l => .cons a (b.app l)
 | _, l => l

def rid (d j : Nat) : Nat := d + 1000 * (j + 1)

def layE (t : Ty) (x : t.den) (i : Nat) : Ent × AV :=
 match t, x with
 | .box true none u, some y => (.var u y, .ptr i [])
 | .box true (some f) u, some y => (.var u y, .clo f (.cons (.ptr i []) .nil))
 | t, x => (.own t x, .at_ i [])

def layRes : (ts : List Ty) → DL ts → Nat → Nat → List (Nat × Ent) → Option (AV × List (Nat × Ent))
 | [], _, _, _, hp => some (.nil, hp)
 | t :: ts, x, d, j, hp =>
  match t.shared with
  | true => match layRes ts x.2 d (j + 1) hp with
   | some (l, hp') => some (.cons (.val t x.1) l, hp')
   | none => none
  | false => match look (rid d j) hp with
   | some _ => none
   | none => match layRes ts x.2 d (j + 1) (Ex.put (rid d j) (layE t x.1 (rid d j)).1 hp) with
    | some (l, hp') => some (.cons (layE t x.1 (rid d j)).2 l, hp')
    | none => none

def AV.one : AV → AV
 | .cons a .nil => a
 | l => .tup l

def noMents (d : Nat) : Nat → List (Nat × AV) → Bool
 | 0, _ => true
 | j + 1, fr => noMent (rid d j) fr && noMents d j fr

def noDup : List Nat → Bool
 | [] => true
 | a :: l => !l.contains a && noDup l

def disj : List Nat → List Nat → Bool
 | [], _ => true
 | a :: l, m => !m.contains a && disj l m

def nonesR (d : Nat) : Nat → List (Nat × Ent) → Bool
 | 0, _ => true
 | j + 1, hp => (look (rid d j) hp).isNone && nonesR d j hp

def pinned (i : Nat) : Bool := Nat.ble 2000000 i

def flds : List Step → Bool
 | [] => true
 | .fld _ :: p => flds p
 | .idx _ :: _ => false

def AV.killR1 (i : Nat) (ow : Bool) (v : AV) : AV :=
 match v.ment i with
 | false => v
 | true => match v with
  | .ptr j p => match flds p with | true => .ptr j p | false => .any
  | .at_ j [] => match ow with | true => .at_ j [] | false => .any
  | .sub j [] a b => match ow with | true => .sub j [] a b | false => .any
  | _ => .any

def St.killR (i : Nat) (ow : Bool) (s : St) : St := { s with fr := mapA (AV.map (AV.killR1 i ow)) s.fr }

def wr (ks : List PK) (y : DL (wts ks)) (m : List Nat) (s : St) : Option St :=
 match ks, y, m with
 | [], _, [] => some s
 | .rw t :: ks, y, [i] => match wts ks with
  | [] => some ((s.killR i false).putE i (.var t y.1))
  | _ => none
 | .mu t :: ks, y, [i] => match wts ks with
  | [] => some ((s.killR i true).putE i (.own (.slc true t) y.1))
  | _ => none
 | .v _ :: ks, y, m => wr ks y m s
 | .rd _ :: ks, y, m => wr ks y m s
 | .clo _ _ :: ks, y, m => wr ks y m s
 | .own _ :: ks, y, m => wr ks y m s
 | .nilS :: ks, y, m => wr ks y m s
 | _, _, _ => none

def callA (E : Env) (f : FuncId) (args : AV) (dst : Option Nat) (s : St) : OR :=
 match look f E.ctr with
 | none => .fail "call: no contract"
 | some c => match AV.asKs s c.ps args with
  | none => .fail "call: arguments"
  | some (x, g, m) => match noDup (g ++ m) && disj (g ++ m) (loose c.ps args) && (g.all fun i => !pinned i) && (((c.rs.all Ty.noSh || c.new) && (wts c.ps).all Ty.noSh) || (match loose c.ps args with | [] => true | _ => false)) && (noMents (dst.getD 0) c.rs.length s.fr && nonesR (dst.getD 0) c.rs.length s.hp) with
   | false => .fail "call: objects"
   | true => match wr c.ps (c.out x) m (St.drops g s) with
    | none => .fail "call: writing"
    | some s => match noMents (dst.getD 0) c.rs.length s.fr with
     | false => .fail "call: names"
     | true => match layRes c.rs (c.fn x) (dst.getD 0) 0 s.hp with
      | some (l, hp) => .okN (c.pre x) l.one { s with hp := hp }
      | none => .fail "call: results"
where
 loose : List PK → AV → List Nat
  | .own _ :: ks, .cons _ b => loose ks b
  | .rw _ :: ks, .cons _ b => loose ks b
  | .mu _ :: ks, .cons _ b => loose ks b
  | _ :: ks, .cons a b => a.lent ++ loose ks b
  | _, _ => []

/-! ### operations -/
def ofConst : Value → AV
 | .int k n => if k.min ≤ n ∧ n ≤ k.max then .val (.int k) n else .raw (.int k n)
 | .bool b => .val .bool b
 | .string s => if s.data.size ≤ maxLen then .val .str s.data.toList else .raw (.string s)
 | v => .raw v

def St.ev (s : St) : Operand → AV
 | .tmp t => s.get t
 | .const v => ofConst v
 | .global _ => .any
 | .func f => .clo f .nil

def St.evs (s : St) : List Operand → AV
 | [] => .nil
 | x :: l => .cons (s.ev x) (s.evs l)

def bAnd (k : IntKind) (x y : Int) : Int := k.wrap (BitVec.ofInt k.bits x &&& BitVec.ofInt k.bits y).toNat
def bOr (k : IntKind) (x y : Int) : Int := k.wrap (BitVec.ofInt k.bits x ||| BitVec.ofInt k.bits y).toNat
def bXor (k : IntKind) (x y : Int) : Int := k.wrap (BitVec.ofInt k.bits x ^^^ BitVec.ofInt k.bits y).toNat
def bAndNot (k : IntKind) (x y : Int) : Int := k.wrap (BitVec.ofInt k.bits x &&& ~~~(BitVec.ofInt k.bits y)).toNat

def arith (k : IntKind) (r : Int) (s : St) : OR :=
 match k with
 | .i64 => .okN (inK .i64 r) (.val (.int .i64) r) s
 | k => .ok (.val (.int k) (k.wrap r)) s

def binI (op : BinOp) (k : IntKind) (a : Int) (k' : IntKind) (b : Int) (s : St) : OR :=
 match op with
 | .shl => .okN (0 ≤ b) (.val (.int k) (k.wrap (a * 2 ^ (min b.toNat k.bits)))) s
 | .shr => .okN (0 ≤ b) (.val (.int k) (a / 2 ^ (min b.toNat k.bits))) s
 | op =>
  if k = k' then
   match op with
   | .add => arith k (a + b) s
   | .sub => arith k (a - b) s
   | .mul => arith k (a * b) s
   | .quo => .okN (0 < b) (.val (.int k) (Int.tdiv a b)) s
   | .rem => .okN (0 < b) (.val (.int k) (Int.tmod a b)) s
   | .and => .ok (.val (.int k) (bAnd k a b)) s
   | .or => .ok (.val (.int k) (bOr k a b)) s
   | .xor => .ok (.val (.int k) (bXor k a b)) s
   | .andNot => .ok (.val (.int k) (bAndNot k a b)) s
   | .eql => .ok (.val .bool (decide (a = b))) s
   | .neq => .ok (.val .bool (decide (a ≠ b))) s
   | .lss => .ok (.val .bool (decide (a < b))) s
   | .leq => .ok (.val .bool (decide (a ≤ b))) s
   | .gtr => .ok (.val .bool (decide (b < a))) s
   | .geq => .ok (.val .bool (decide (b ≤ a))) s
   | _ => .fail "binop int"
  else .fail "binop kinds"

def binS (op : BinOp) (a b : List UInt8) (s : St) : OR :=
 match op with
 | .eql => .ok (.val .bool (decide (a = b))) s
 | .neq => .ok (.val .bool (decide (a ≠ b))) s
 | .add => .okN (a.length + b.length ≤ maxLen) (.val .str (a ++ b)) s
 | _ => .fail "binop string"

def chk (E : Env) (T : TypeId) (u : Ty) : Bool :=
 match look T E.tt with
 | some i => decide (i.ty.sh = u.sh)
 | none => false

def Ty.eqable : Ty → Bool
 | .int _ | .bool | .str | .unit => true
 | .pair a b => a.eqable && b.eqable
 | .arr _ t => t.eqable
 | _ => false

def eqD : (t : Ty) → t.den → t.den → Bool
 | .int _, x, y => decide ((x : Int) = y)
 | .bool, x, y => (x : Bool) == y
 | .str, x, y => decide ((x : List UInt8) = y)
 | .unit, _, _ => true
 | .fn _, _, _ => false
 | .map _ _ _, _, _ => false
 | .box _ _ _, _, _ => false
 | .hole _, _, _ => false
 | .pair a b, x, y => eqD a x.1 y.1 && eqD b x.2 y.2
 | .arr _ t, x, y => eqDL (eqD t) x y
 | .slc _ _, _, _ => false
where eqDL {α : Type} (f : α → α → Bool) : List α → List α → Bool
 | [], [] => true
 | x :: l, y :: m => f x y && eqDL f l m
 | _, _ => false

def binA (E : Env) (T : TypeId) (op : BinOp) (x y : AV) (s : St) : OR :=
 match x, y with
 | .val (.int k) a, .val (.int k') b => binI op k a k' b s
 | .val .bool a, .val .bool b =>
  match chk E T .bool, op with
  | true, .eql => .ok (.val .bool (a == b)) s
  | true, .neq => .ok (.val .bool (a != b)) s
  | _, _ => .fail "binop bool"
 | .val .str a, .val .str b => binS op a b s
 | _, _ => .fail "binop"

def Ty.ht : Ty → Nat
 | .pair a b => max (a.ht + 1) b.ht
 | .arr _ t => t.ht + 1
 | _ => 0

def eqFs (ck : TypeId → Ty → Bool) : List Field → Ty → Bool
 | [], .unit => true
 | f :: fs, .pair a b => ck f.type a && eqFs ck fs b
 | _, _ => false

def eqOk (P : Program) : Nat → TypeId → Ty → Bool
 | 0, _, _ => false
 | n + 1, T, t => match P.underlying T, t with
  | some (.struct fs), t => !P.stoodInHeld T && eqFs (eqOk P n) fs.toList t
  | some (.array _ e), .arr _ t => eqOk P n e t
  | some .bool, .bool => true
  | some (.int _), .int _ => true
  | some .string, .str => true
  | _, _ => false

def eqA (E : Env) (T : TypeId) (op : BinOp) (t : Ty) (x : t.den) (u : Ty) (y : u.den) (s : St) : OR :=
 if h : u = t then
  (match t.agg && chk E T t && eqOk E.P 100 T t && !(E.P.eqGuardType E.P.depth T) && Nat.blt t.ht 100, op with
  | true, .eql => .ok (.val .bool (eqD t x (h ▸ y))) s
  | true, .neq => .ok (.val .bool (!(eqD t x (h ▸ y)))) s
  | _, _ => .fail "eq")
 else .fail "eq: types"

def binE (E : Env) (T : TypeId) (op : BinOp) (x y : AV) (s : St) : OR :=
 match x, y with
 | .val (.pair p q) a, .val u b => eqA E T op (.pair p q) a u b s
 | .val (.arr n q) a, .val u b => eqA E T op (.arr n q) a u b s
 | x, y => binA E T op x y s

def unA (op : UnOp) (x : AV) (s : St) : OR :=
 match op, x with
 | .not, .val .bool b => .ok (.val .bool (!b)) s
 | .neg, .val (.int k) a => arith k (0 - a) s
 | .xor, .val (.int k) a => .ok (.val (.int k) (bXor k (if k.signed then -1 else k.max) a)) s
 | _, _ => .fail "unop"

def partPath (t : Ty) (i : Nat) : List Step :=
 match t with
 | .arr _ _ => [.idx i]
 | _ => [.fld i]

def buildL (s : St) : Sigma Ty.den → List (Nat × Operand) → Option (Sigma Ty.den × List Nat)
 | r, [] => some (r, [])
 | ⟨t, x⟩, (i, v) :: parts =>
  match getP t x (partPath t i) with
  | none => none
  | some ⟨u0, _⟩ => match s.ev v with
   | .raw (.slice none 0 0) => (match u0 with
    | .slc o u' => (match setP t x (partPath t i) (.slc o u') ([] : List u'.den) with
     | some r => buildL s r parts
     | none => none)
    | _ => none)
   | v => (match v.giveV s with
    | some (⟨u, z⟩, g) => (match setP t x (partPath t i) u z with
     | some r => (match buildL s r parts with
      | some (r, g') => some (r, g ++ g')
      | none => none)
     | none => none)
    | none => none)

def bslL (s : St) (n : Nat) (t : Ty) (parts : List (Nat × Operand)) : Option (Sigma Ty.den × List Nat) :=
 match buildL s ⟨.arr n t, (Ty.arr n t).dflt⟩ parts with
 | some r => some r
 | none => buildL s ⟨.arr n t.sh, (Ty.arr n t.sh).dflt⟩ parts

def St.lay (s : St) (d : Nat) (g : List Nat) (t : Ty) (x : t.den) : OR :=
 match noDup g && (g.all fun i => !pinned i) && s.fresh d with
 | false => .fail "lay: objects"
 | true => match (St.drops g s).fresh d with
  | true => .ok (.at_ d []) ((St.drops g s).putE d (.own t x))
  | false => .fail "lay: name"

def OR.need (p : Prop) : OR → OR
 | .ok v s => .okN p v s
 | r => r

def OR.also (p : Prop) : OR → OR
 | .ok v s => .okN (p ∧ True) v s
 | .okN q v s => .okN (p ∧ q) v s
 | .fail y => .fail y

def inArr (t : Ty) (i : Nat) : Bool :=
 match t with
 | .arr n _ => Nat.blt i n
 | _ => true

def loadA (E : Env) (T : TypeId) (a : AV) (s : St) : OR :=
 match a with
 | .rptr t x => match chk E T t with | true => .ok (.val t x) s | false => .fail "load: type"
 | .bx l => match look T E.tt with
  | some ⟨.box _ none _, _⟩ => .ok l s
  | _ => .fail "load: pointer"
 | .ptr i p => match s.part i p with
  | some ⟨u, y⟩ => (match chk E T u with
   | true => (match u.shared with | true => .ok (.val u y) s | false => .ok (.at_ i p) s)
   | false => .fail "load: type")
  | none => .fail "load: path"
 | _ => .fail "load"

def Ty.holed : Ty → Ty
 | .pair a b => .pair a.holed b.holed
 | .slc o t => match o with
  | true => .hole t
  | false => .slc false t
 | t => t
def holeV : (t : Ty) → t.den → t.holed.den
 | .int _, x => x
 | .bool, x => x
 | .str, x => x
 | .unit, x => x
 | .fn _, x => x
 | .map _ _ _, x => x
 | .box _ _ _, x => x
 | .pair a b, x => (holeV a x.1, holeV b x.2)
 | .arr _ _, x => x
 | .slc true _, _ => []
 | .slc false _, x => x
 | .hole _, x => x

def storeA (E : Env) (T : TypeId) (i : Nat) (p : List Step) (x : AV) (s : St) : OR :=
 match s.obj i with
 | none => .fail "store: object"
 | some e => match getP e.ty e.x p with
  | none => .fail "store: path"
  | some ⟨u, y⟩ => match chk E T u with
   | false => .fail "store: type"
   | true => match x with
    | .raw (.slice none 0 0) => (match u with
     | .slc o u' => (match setP e.ty e.x p (.slc o u') ([] : List u'.den) with
      | some r => .ok (.raw undef) ((s.kill i e.kd p).putE i (e.upd r))
      | none => .fail "store: nil")
     | _ => .fail "store: nil of what")
    | .sub j q lo hi => (match u, y with
     | .slc true u', (y : List u'.den) => (match setP e.ty e.x p (.slc true u') (cut2 lo hi y) with
      | some r => (match Nat.beq i j with
       | true => .okN (q = p ∧ True) (.raw undef) ((s.kill i e.kd p).putE i (e.upd r))
       | false => .fail "store: a view of another")
      | none => .fail "store: view")
     | _, _ => .fail "store: view of what")
    | x => (match x.giveV s with
     | some (⟨u', z⟩, g) => (match setP e.ty e.x p u' z with
      | some r => (match !g.contains i && noDup g && g.all fun i => !pinned i with
       | true => .ok (.raw undef) (((St.drops g s).kill i e.kd p).putE i (e.upd r))
       | false => .fail "store: itself")
      | none => .fail "store: value")
     | none => (match x with
      | .at_ j q => (match s.part j q with
       | some ⟨u', y'⟩ => (match setP e.ty e.x p u'.holed (holeV u' y') with
        | some r => (match u'.holed.shared && !u'.shared && !Nat.beq i j with
         | true => .ok (.raw undef) ((s.kill i e.kd p).putE i (e.upd r))
         | false => .fail "store: what")
        | none => .fail "store: value")
       | none => .fail "store: what")
      | _ => .fail "store: what"))

def AV.els (s : St) : AV → Option (Sigma fun t : Ty => List t.den)
 | .val (.slc _ t) l => some ⟨t, l⟩
 | .at_ i p => match s.part i p with
  | some ⟨.slc _ t, l⟩ => some ⟨t, l⟩
  | _ => none
 | .sub i p lo hi => s.view i p lo hi
 | _ => none

def AV.app1 (s : St) (t0 : Ty) : AV → Option (Sigma (fun t : Ty => List t.den) × List Nat)
 | .raw (.slice none 0 0) => some (⟨t0, []⟩, [])
 | .val .str y => some (⟨.int .u8, (List.map (fun b : UInt8 => (b.toNat : Int)) y : List Int)⟩, [])
 | v => match v.els s with
  | none => none
  | some ⟨t, l⟩ => match t.shared with
   | true => some (⟨t, l⟩, [])
   | false => match v.give s with
    | some (⟨.slc true u, m⟩, g) => some (⟨u, m⟩, g)
    | _ => none

def castL {t u : Ty} (h : t = u) (l : List t.den) : List u.den := h ▸ l

def appendA (E : Env) (T : TypeId) (x y : AV) (dst : Option Nat) (s : St) : OR :=
 match look T E.tt, dst with
 | some ⟨.slc _ t0, _⟩, some d => match y.app1 s t0 with
  | none => .fail "append: what"
  | some (⟨t, m⟩, g) =>
   let own (l : List t0.den) (f : List Nat) : OR :=
    if h : t = t0 then (s.lay d (f ++ g) (.slc true t0) (l ++ castL h m)).need ((l.length + m.length : Nat) ≤ 140737488355328 ∧ (l.length + m.length : Nat) * (t0.wb : Nat) ≤ 140737488355328)
    else .fail "append: type"
   match x with
   | .raw (.slice none 0 0) => own [] []
   | .val (.slc true u) _ => (match chk E T (.slc true u) with | true => own [] [] | false => .fail "append: type")
   | x => match x.give s with
    | some (⟨.slc true u, l⟩, f) => if h : u = t0 then own (castL h l) f else .fail "append: type"
    | _ => .fail "append: to what"
 | _, _ => .fail "append"

def appendZ (E : Env) (T : TypeId) (x y : AV) (dst : Option Nat) (s : St) : OR :=
 match look T E.tt, dst, x, y with
 | some ⟨.slc true t0, _⟩, some d, .raw (.slice none 0 0), .val (.int _) n =>
  (s.lay d [] (.slc true t0) (List.replicate n.toNat t0.dflt)).need (0 ≤ n ∧ n ≤ 140737488355328 ∧ n * (t0.wb : Nat) ≤ 140737488355328)
 | _, _, _, _ => .fail "append: zeros"

def AV.same2 : AV → AV → Bool
 | .sub i _ _ _, .sub j _ _ _ => Nat.beq i j
 | _, _ => false

/-! ### maps -/
def posOf {α β : Type} (f : α → α → Bool) (a : α) : List (α × β) → Nat → Option (Nat × β)
 | [], _ => none
 | (x, y) :: l, i => match f a x with | true => some (i, y) | false => posOf f a l (i + 1)
def mget {α β : Type} (f : α → α → Bool) (a : α) (l : List (α × β)) : Option β := (posOf f a l 0).map (·.2)
def mput {α β : Type} (f : α → α → Bool) (a : α) (y : β) (l : List (α × β)) : List (α × β) :=
 match posOf f a l 0 with
 | some (i, _) => l.set i (a, y)
 | none => l ++ [(a, y)]

def Ty.key : Ty → Bool
 | .int _ | .bool | .str => true
 | .arr _ (.int _) => true
 | _ => false

def mapTy (E : Env) (T : TypeId) (k v : Ty) : Bool :=
 match look T E.tt, E.P.underlying T with
 | some ⟨.map _ k' v', _⟩, some (.map K _) => decide (k' = k) && decide (v' = v) && k.key && eqOk E.P 100 K k
 | _, _ => false

def AV.mp (s : St) : AV → Option (Sigma fun q : Ty × Ty => Option (List (q.1.den × q.2.den)))
 | .val (.map _ k v) m => some ⟨(k, v), m⟩
 | .at_ i p => match s.part i p with
  | some ⟨.map _ k v, m⟩ => some ⟨(k, v), m⟩
  | _ => none
 | _ => none

def lookupA (E : Env) (T : TypeId) (x i : AV) (ok : Bool) (s : St) : OR :=
 match x.mp s, i with
 | some ⟨(k, v), m⟩, .val u a =>
  if h : u = k then
   (match mapTy E T k v with
   | true => match ok with
    | true => .ok (.tup (.cons (.val v ((mget (eqD k) (castD h a) (m.getD [])).getD v.dflt)) (.cons (.val .bool (mget (eqD k) (castD h a) (m.getD [])).isSome) .nil))) s
    | false => .ok (.val v ((mget (eqD k) (castD h a) (m.getD [])).getD v.dflt)) s
   | false => .fail "lookup: type")
  else .fail "lookup: key"
 | _, _ => .fail "lookup"

def updA (E : Env) (T : TypeId) (x i z : AV) (s : St) : OR :=
 match x, i, z with
 | .at_ j [], .val u a, .val u' y => (match s.obj j with
  | some (.own (.map true k v) (some l)) =>
   if h : u = k then
    if h' : u' = v then
     (match mapTy E T k v with
     | true => .ok (.raw undef) ((s.killR j true).putE j (.own (.map true k v) (some (mput (eqD k) (castD h a) (castD h' y) l))))
     | false => .fail "update: type")
    else .fail "update: value"
   else .fail "update: key"
  | _ => .fail "update: of what")
 | _, _, _ => .fail "update"

/-! ### copy, clear -/
def fillB (e : Ent) (p : List Step) (r : Sigma Ty.den) : Bool :=
 match e with
 | .var t _ => decide (r.1 = t)
 | .own (.slc true t) _ => decide (r.1 = .slc true t) && (match p with
  | [] => true
  | .idx _ :: _ => true
  | _ => false)
 | _ => false

def fillA (s : St) (i : Nat) (p : List Step) (lo : Nat) (t : Ty) (m : List t.den) : Option St :=
 match s.obj i with
 | some e => (match getP e.ty e.x p with
  | some ⟨.slc true u, l⟩ =>
   if h : t = u then
    (match setP e.ty e.x p (.slc true u) (List.take lo l ++ castL h m ++ List.drop (lo + m.length) l) with
    | some r => (match t.shared && fillB e p r with
     | true => some ((s.killR i e.isOwn).putE i (e.upd r))
     | false => none)
    | none => none)
   else none
  | _ => none)
 | none => none

def AV.dstP (s : St) : AV → Option (Nat × List Step × Int × Int)
 | .at_ i p => match s.part i p with
  | some ⟨.slc true _, l⟩ => some (i, p, 0, (List.length l : Int))
  | _ => none
 | .sub i p lo hi => match s.part i p with
  | some ⟨.slc true _, _⟩ => some (i, p, lo, hi)
  | _ => none
 | _ => none

def copyA (E : Env) (T : TypeId) (x y : AV) (s : St) : OR :=
 match x.dstP s, y.els s with
 | some (i, p, lo, hi), some ⟨t, m⟩ => (match fillA s i p lo.toNat t (List.take (hi - lo).toNat m), chk E T (.slc true t) with
  | some s', true => .ok (.val (.int .i64) ((List.take (hi - lo).toNat m).length : Int)) s'
  | _, _ => .fail "copy")
 | _, _ => .fail "copy: what"

def clearA (E : Env) (T : TypeId) (x : AV) (s : St) : OR :=
 match x.dstP s, look T E.tt with
 | some (i, p, lo, hi), some ⟨.slc _ t, _⟩ => (match fillA s i p lo.toNat t (List.replicate (hi - lo).toNat t.dflt) with
  | some s' => .ok (.raw (.tuple #[])) s'
  | none => .fail "clear")
 | _, _ => .fail "clear: what"

def appendI (E : Env) (T : TypeId) (x y : AV) (s : St) : OR :=
 match x, look T E.tt with
 | .sub i [] lo hi, some ⟨.slc _ t0, _⟩ => (match y.app1 s t0, s.obj i with
  | some (⟨t, m⟩, []), some (.own (.slc true u) l) => (match fillA s i [] hi.toNat t m, chk E T (.slc true t), decide (t = u) with
   | some s', true, true => .okN (hi + (List.length m : Int) ≤ (List.length l : Int)) (.sub i [] lo (hi + (List.length m : Int))) s'
   | _, _, _ => .fail "append: in place")
  | _, _ => .fail "append: in place")
 | _, _ => .fail "append: in place"

def bnd (s : St) (d : Int) : Option Operand → Option Int
 | none => some d
 | some x => match s.ev x with
  | .val (.int _) n => some n
  | _ => none

def sliceA (E : Env) (T : TypeId) (x : AV) (lo hi max : Option Operand) (s : St) : OR :=
 match bnd s 0 lo with
 | none => .fail "slice: low"
 | some a =>
 match x with
 | .val .str y => (match bnd s (List.length y : Int) hi, max with
  | some b, none => (match chk E T .str with | true => .okN (0 ≤ a ∧ a ≤ b ∧ b ≤ (List.length y : Int)) (.val .str (cut2 a b y)) s | false => .fail "slice: type")
  | _, _ => .fail "slice: bounds")
 | .val (.slc false t) y => (match bnd s (List.length y : Int) hi, max with
  | some b, none => (match chk E T (.slc false t) with | true => .okN (0 ≤ a ∧ a ≤ b ∧ b ≤ (List.length y : Int)) (.val (.slc false t) (cut2 a b y)) s | false => .fail "slice: type")
  | some b, some _ => (match chk E T (.slc false t) && hi.isSome, bnd s 0 max with
   | true, some c => .okN (a = 0 ∧ b = 0 ∧ c = 0) (.val (.slc true t) ([] : List t.den)) s
   | _, _ => .fail "slice: type")
  | _, _ => .fail "slice: bounds")
 | .raw (.slice none 0 0) => (match bnd s 0 hi, max, look T E.tt with
  | some b, none, some ⟨.slc _ _, _⟩ => .okN (a = 0 ∧ b = 0) (.raw (.slice none 0 0)) s
  | _, _, _ => .fail "slice: nil")
 | .at_ i p => (match s.part i p with
  | some ⟨.slc true t, y⟩ => (match bnd s (List.length y : Int) hi, max with
   | some b, none => (match chk E T (.slc true t) with | true => .okN (0 ≤ a ∧ a ≤ b ∧ b ≤ (List.length y : Int)) (.sub i p a b) s | false => .fail "slice: type")
   | some b, some _ => (match chk E T (.slc true t) && hi.isSome, bnd s 0 max with
    | true, some c => (match lo.isSome with
     | false => .okN (a = 0 ∧ b = 0 ∧ c = 0) (.val (.slc true t) ([] : List t.den)) s
     | true => .okN (0 ≤ a ∧ a ≤ b ∧ b ≤ c ∧ c ≤ (List.length y : Int)) .any s)
    | _, _ => .fail "slice: type")
   | _, _ => .fail "slice: bounds")
  | _ => .fail "slice: of what")
 | .sub i p a0 b0 => (match s.part i p with
  | some ⟨.slc true t, y⟩ => (match bnd s (b0 - a0) hi, max with
   | some b, none => (match chk E T (.slc true t) with | true => .okN (0 ≤ a ∧ a ≤ b ∧ a0 + b ≤ (List.length y : Int)) (.sub i p (a0 + a) (a0 + b)) s | false => .fail "slice: type")
   | _, _ => .fail "slice: bounds")
  | some ⟨.arr _ t, _⟩ => (match bnd s (b0 - a0) hi, max with
   | some b, none => (match chk E T (.slc true t) with | true => .okN (0 ≤ a ∧ a ≤ b ∧ b ≤ b0 - a0) (.sub i p (a0 + a) (a0 + b)) s | false => .fail "slice: type")
   | _, _ => .fail "slice: bounds")
  | _ => .fail "slice: view")
 | .ptr i p => (match s.part i p with
  | some ⟨.arr n t, _⟩ => (match bnd s (n : Int) hi, max with
   | some b, none => (match chkP E T (.arr n t) && Nat.ble n 1000000 with | true => .okN (0 ≤ a ∧ a ≤ b ∧ b ≤ (n : Int)) (.sub i p a b) s | false => .fail "slice: type")
   | _, _ => .fail "slice: bounds")
  | _ => .fail "slice: of what")
 | _ => .fail "slice"
where
 chkP (E : Env) (T : TypeId) (u : Ty) : Bool :=
  match E.P.underlying T with
  | some (.pointer A) => chk E A u
  | some (.array _ _) => chk E T u
  | _ => false

def foldI (s : St) (k : IntKind) (f : Int → Int → Int) : Int → List Operand → OR
 | a, [] => .ok (.val (.int k) a) s
 | a, x :: l => match s.ev x with
  | .val (.int k') b => if k = k' then foldI s k f (f a b) l else .fail "max"
  | _ => .fail "max"

def aop (E : Env) (o : Oper) (s : St) : OR :=
 match o.op with
 | .move x => .ok (s.ev x) s
 | .assign x => .ok (s.ev x) s
 | .alloc T => match look T E.tt, o.dst with
  | some t, some d => (match s.fresh d with
   | true => .ok (.ptr d []) (s.putE d (.var t.ty t.ty.dflt))
   | false => .fail "alloc: name")
  | _, _ => .fail "alloc"
 | .box T x => match look T E.tt, o.dst with
  | some t, some d => (match s.fresh d with
   | true => (match (s.ev x).giveV s with
    | some (⟨u, y⟩, g) => if u.sh = t.ty.sh then (match noDup g && !g.contains d && g.all fun i => !pinned i with
     | true => .ok (.ptr d []) ((St.drops g s).putE d (.var u y))
     | false => .fail "box: objects") else .fail "box: value"
    | none => (match s.ev x, t.ty with
     | .raw (.slice none 0 0), .slc o u => .ok (.ptr d []) (s.putE d (.var (.slc o u) ([] : List u.den)))
     | .ptr i p, .box _ none _ => .ok (.bx (.ptr i p)) s
     | _, _ => .fail "box: what"))
   | false => .fail "box: name")
  | _, _ => .fail "box"
 | .build T parts => match look T E.tt with
  | some t => (match t.ty.agg && parts.toList.all (fun q => inArr t.ty q.1) with
   | true => (match buildL s ⟨t.ty, t.ty.dflt⟩ parts.toList, o.dst with
    | some (⟨u, y⟩, []), _ => .ok (.val u y) s
    | some (⟨u, y⟩, g), some d => s.lay d g u y
    | _, _ => .fail "build: parts")
   | false => .fail "build: index")
  | none => .fail "build"
 | .buildSlice T n parts => match look T E.tt, o.dst with
  | some ⟨.slc true t, _⟩, some d => (match s.fresh d && parts.toList.all (fun q => Nat.blt q.1 n) && Nat.ble (n * t.size) 16777216 with
   | true => (match bslL s n t parts.toList with
    | some (⟨.arr _ t', l⟩, g) => s.lay d g (.slc true t') l
    | _ => .fail "buildSlice: parts")
   | false => .fail "buildSlice: name")
  | _, _ => .fail "buildSlice"
 | .load T a => loadA E T (s.ev a) s
 | .store T a x => match s.ev a with
  | .ptr i p => storeA E T i p (s.ev x) s
  | _ => .fail "store"
 | .nilCheck x => match s.ev x with
  | .ptr i p => .ok (.ptr i p) s
  | .rptr t y => .ok (.rptr t y) s
  | .val (.box false none t) y => .okN ((y : Option t.den).isSome = true) (.rptr t (Option.getD (y : Option t.den) t.dflt)) s
  | .val (.box false (some f) t) y => .okN ((y : Option t.den).isSome = true) (.val (.box false (some f) t) y) s
  | .clo f l => .ok (.clo f l) s
  | .val (.fn f) b => .okN ((b : Bool) = true) (.val (.fn f) b) s
  | _ => .fail "nilCheck"
 | .fieldAddr T x n => match s.ev x with
  | .ptr i p => (match s.part i p with
   | some ⟨u, z⟩ => (match chk E T u, getP u z [.fld n] with
    | true, some _ => .ok (.ptr i (p ++ [.fld n])) s
    | _, _ => .fail "fieldAddr: type")
   | none => .fail "fieldAddr: path")
  | .rptr t y => match chk E T t, getP t y [.fld n] with
   | true, some ⟨u, z⟩ => .ok (.rptr u z) s
   | _, _ => .fail "fieldAddr"
  | .val (.box false none t) y => match chk E T t, getP t (Option.getD (y : Option t.den) t.dflt) [.fld n] with
   | true, some ⟨u, z⟩ => .okN ((y : Option t.den).isSome = true) (.rptr u z) s
   | _, _ => .fail "fieldAddr"
  | _ => .fail "fieldAddr"
 | .indexAddr T x i => match s.ev x, s.ev i with
  | .ptr d p, .val (.int _) n => (match s.part d p with
   | some ⟨.arr m u, _⟩ => (match chk E T (.arr m u) with
    | true => .okN (0 ≤ n ∧ n < m) (.ptr d (p ++ [.idx n])) s
    | false => .fail "indexAddr: type")
   | _ => .fail "indexAddr: type")
  | .rptr (.arr m t) y, .val (.int _) n => (match chk E T (.arr m t) with
   | true => .okN (0 ≤ n ∧ n < m) (.rptr t (List.getD y (Int.toNat n) t.dflt)) s
   | false => .fail "indexAddr: type")
  | .val (.slc false t) y, .val (.int _) n => (match chk E T (.slc false t) with
   | true => .okN (0 ≤ n ∧ n < List.length y) (.rptr t (List.getD y (Int.toNat n) t.dflt)) s
   | false => .fail "indexAddr: type")
  | .at_ d p, .val (.int _) n => (match s.part d p with
   | some ⟨.slc true u, z⟩ => (match chk E T (.slc true u) with
    | true => .okN (0 ≤ n ∧ n < List.length z) (.ptr d (p ++ [.idx n])) s
    | false => .fail "indexAddr: type")
   | _ => .fail "indexAddr: type")
  | .sub d p lo hi, .val (.int _) n => (match s.view d p lo hi with
   | some ⟨u, _⟩ => (match chk E T (.slc true u) with
    | true => .okN (0 ≤ n ∧ n < hi - lo) (.ptr d (p ++ [.idx (lo + n)])) s
    | false => .fail "indexAddr: type")
   | none => .fail "indexAddr: view")
  | _, _ => .fail "indexAddr"
 | .field T x n => match s.ev x with
  | .val t y => (match chk E T t, getP t y [.fld n] with
   | true, some ⟨u, z⟩ => .ok (.val u z) s
   | _, _ => .fail "field")
  | .at_ i p => (match s.part i p with
   | some ⟨t, y⟩ => (match chk E T t, getP t y [.fld n] with
    | true, some ⟨u, z⟩ => (match u.shared with | true => .ok (.val u z) s | false => .ok (.at_ i (p ++ [.fld n])) s)
    | _, _ => .fail "field")
   | none => .fail "field: part")
  | _ => .fail "field"
 | .index T x i => match s.ev x, s.ev i with
  | .val .str y, .val (.int _) n => (match chk E T .str with
   | true => .okN (0 ≤ n ∧ n < List.length y) (.val (.int .u8) ((List.getD y (Int.toNat n) 0).toNat : Int)) s
   | false => .fail "index: type")
  | .val (.arr m t) y, .val (.int _) n => (match chk E T (.arr m t) with
   | true => .okN (0 ≤ n ∧ n < m) (.val t (List.getD y (Int.toNat n) t.dflt)) s
   | false => .fail "index: type")
  | .at_ i p, .val (.int _) n => (match s.part i p with
   | some ⟨.arr m t, y⟩ => (match chk E T (.arr m t) with
    | true => (match t.shared with
     | true => .okN (0 ≤ n ∧ n < m) (.val t (List.getD y (Int.toNat n) t.dflt)) s
     | false => .okN (0 ≤ n ∧ n < m) (.at_ i (p ++ [.idx n])) s)
    | false => .fail "index: type")
   | _ => .fail "index: of what")
  | _, _ => .fail "index"
 | .binOp op T x y _ => binE E T op (s.ev x) (s.ev y) s
 | .unOp op _ x => unA op (s.ev x) s
 | .convert T' T x => match s.ev x, look T' E.tt, look T E.tt with
  | .val (.int _) n, some ⟨.int _, _⟩, some ⟨.int k, _⟩ => .ok (.val (.int k) (k.wrap n)) s
  | .val .str y, some ⟨.str, _⟩, some ⟨.slc true (.int .u8), _⟩ => (match o.dst with
   | some d => s.lay d [] (.slc true (.int .u8)) (List.map (fun b : UInt8 => (b.toNat : Int)) y : List Int)
   | none => .fail "convert")
  | v, some ⟨.slc true (.int .u8), _⟩, some ⟨.str, _⟩ => (match v.els s with
   | some ⟨.int .u8, l⟩ => .ok (.val .str (List.map (fun n : Int => UInt8.ofNat n.toNat) l)) s
   | _ => match v with
    | .raw (.slice none 0 0) => .ok (.val .str []) s
    | _ => .fail "convert: bytes")
  | _, _, _ => .fail "convert"
 | .extract x i => match s.ev x with
  | .tup l => match nth i l with
   | some v => .ok v s
   | none => .fail "extract"
  | _ => .fail "extract"
 | .makeSlice T x y => match look T E.tt, o.dst, s.ev x, s.ev y with
  | some ⟨.slc true t, _⟩, some d, .val (.int _) n, .val (.int _) m => (s.lay d [] (.slc true t) (List.replicate n.toNat t.dflt)).need (0 ≤ n ∧ n ≤ m ∧ m ≤ 140737488355328 ∧ m * (t.wb : Nat) ≤ 140737488355328)
  | _, _, _, _ => .fail "makeSlice"
 | .slice T x lo hi max => sliceA E T (s.ev x) lo hi max s
 | .makeMap T r => match r, look T E.tt, o.dst with
  | none, some ⟨.map true k v, _⟩, some d => s.lay d [] (.map true k v) (some ([] : List (k.den × v.den)))
  | _, _, _ => .fail "makeMap"
 | .lookup T x i ok => lookupA E T (s.ev x) (s.ev i) ok s
 | .mapUpdate T m i x => updA E T (s.ev m) (s.ev i) (s.ev x) s
 | .makeFunc (.func f) first caps => match first.toList with
  | [] => .ok (.clo f (s.evs caps.toList)) s
  | _ => .fail "makeFunc"
 | .call c => match c.callee with
  | .value f => match s.ev f with
   | .clo f caps => callA E f ((s.evs c.args.toList).app caps) o.dst s
   | .val (.fn f) b => (callA E f ((s.evs c.args.toList).app .nil) o.dst s).also ((b : Bool) = true)
   | .val (.box false (some f) t) y => (callA E f ((s.evs c.args.toList).app (.cons (.rptr t (Option.getD (y : Option t.den) t.dflt)) .nil)) o.dst s).also ((y : Option t.den).isSome = true)
   | _ => .fail "call of what"
  | .builtin .len => match c.args.toList, c.argTypes.toList with
   | [x], [T] => (match s.ev x with
    | .val (.slc q u) y => (match chk E T (.slc q u) with | true => .ok (.val (.int .i64) (List.length y : Int)) s | false => .fail "len")
    | .val .str y => (match chk E T .str with | true => .ok (.val (.int .i64) (List.length y : Int)) s | false => .fail "len")
    | .val (.arr n u) _ => (match chk E T (.arr n u) with | true => (if (n : Int) ≤ 9223372036854775807 then .ok (.val (.int .i64) (n : Int)) s else .fail "len") | false => .fail "len")
    | .at_ d p => (match s.part d p with
     | some ⟨.slc q u, z⟩ => (match chk E T (.slc q u) with | true => .ok (.val (.int .i64) (List.length z : Int)) s | false => .fail "len")
     | _ => .fail "len")
    | .sub d p lo hi => (match s.view d p lo hi with
     | some ⟨u, _⟩ => (match chk E T (.slc true u) with | true => .ok (.val (.int .i64) (hi - lo)) s | false => .fail "len")
     | none => .fail "len")
    | .raw (.slice none 0 0) => (match look T E.tt with | some ⟨.slc _ _, _⟩ => .ok (.val (.int .i64) 0) s | _ => .fail "len")
    | _ => .fail "len")
   | _, _ => .fail "len"
  | .builtin .cap => match c.args.toList, c.argTypes.toList with
   | [x], [T] => (match s.ev x, look T E.tt with
    | .raw (.slice none 0 0), some ⟨.slc _ _, _⟩ => .ok (.val (.int .i64) 0) s
    | _, _ => .fail "cap")
   | _, _ => .fail "cap"
  | .builtin .append => match c.args.toList, c.argTypes.toList with
   | [x, y], [T, U] => (match look U E.tt with
    | some ⟨.slc _ _, _⟩ => (match (s.ev x).same2 (s.ev y) with
     | true => appendI E T (s.ev x) (s.ev y) s
     | false => appendA E T (s.ev x) (s.ev y) o.dst s)
    | some ⟨.str, _⟩ => appendA E T (s.ev x) (s.ev y) o.dst s
    | some ⟨.int _, _⟩ => appendZ E T (s.ev x) (s.ev y) o.dst s
    | _ => .fail "append: of what type")
   | _, _ => .fail "append"
  | .builtin .max => match c.args.toList with
   | x :: l => (match s.ev x with
    | .val (.int k) a => foldI s k (fun a b => if a < b then b else a) a l
    | _ => .fail "max")
   | _ => .fail "max"
  | .builtin .min => match c.args.toList with
   | x :: l => (match s.ev x with
    | .val (.int k) a => foldI s k (fun a b => if b < a then b else a) a l
    | _ => .fail "min")
   | _ => .fail "min"
  | .builtin .copy => match c.args.toList, c.argTypes.toList with
   | [x, y], [T, _] => copyA E T (s.ev x) (s.ev y) s
   | _, _ => .fail "copy"
  | .builtin .clear => match c.args.toList, c.argTypes.toList with
   | [x], [T] => clearA E T (s.ev x) s
   | _, _ => .fail "clear"
  | _ => .fail "builtin"
 | _ => .fail "op"
where nth : Nat → AV → Option AV
 | 0, .cons a _ => some a
 | n + 1, .cons _ b => nth n b
 | _, _ => none

def guardSlot (ops : Array Oper) (j : Nat) : Option Nat := (ops[j]?).bind (·.dst)

def dstOk (n : Nat) : Option Nat → Bool
 | some d => Nat.blt d n
 | none => true

def runOp (E : Env) (o : Oper) (s : St) (k : St → Tree (E.rs ++ wts E.ps)) : Tree (E.rs ++ wts E.ps) :=
 match dstOk E.nt o.dst with
 | false => .stuck "slot"
 | true =>
 match o.op with
 | .pick c a b => match s.ev c with
  | .val .bool g => cond g (k (s.put o.dst (s.ev a))) (k (s.put o.dst (s.ev b)))
  | _ => .stuck "pick"
 | _ => match aop E o s with
  | .fail why => .stuck why
  | .ok v s' => k (s'.put o.dst v)
  | .okN p v s' => .need p (k (s'.put o.dst v))

def placeA (E : Env) (ops : Array Oper) (o : Oper) (s : St) (k : St → Tree (E.rs ++ wts E.ps)) : Tree (E.rs ++ wts E.ps) :=
 match o.guard with
 | none => runOp E o s k
 | some (j, want) => match guardSlot ops j with
  | none => .stuck "guard"
  | some g => match s.get g with
   | .raw (.tuple _) => match dstOk E.nt o.dst with
    | true => k (s.put o.dst (.raw undef))
    | false => .stuck "slot"
   | .val .bool b => match dstOk E.nt o.dst with
    | false => .stuck "slot"
    | true => cond b
     (match want with
      | true => runOp E o (s.put (some g) (.val .bool true)) k
      | false => k ((s.put (some g) (.val .bool true)).put o.dst (.raw undef)))
     (match want with
      | false => runOp E o (s.put (some g) (.val .bool false)) k
      | true => k ((s.put (some g) (.val .bool false)).put o.dst (.raw undef)))
   | _ => .stuck "guard value"

def regA (E : Env) (ops : Array Oper) : List Oper → St → (St → Tree (E.rs ++ wts E.ps)) → Tree (E.rs ++ wts E.ps)
 | [], s, k => k s
 | o :: rest, s, k => placeA E ops o s fun s' => regA E ops rest s' k

def brA (E : Env) (s : St) (o : Oper) : Option (Prop × AV × AV) :=
 match o.op with
 | .binOp op T x y _ => match op with
  | .eql => (match s.ev y, look T E.tt with
   | .raw (.slice none 0 0), some ⟨.slc _ _, _⟩ => (match (s.ev x).els s with
    | some r => some (r.2 = [], .val .bool true, .val .bool false)
    | none => none)
   | _, _ => none)
  | .neq => (match s.ev y, look T E.tt with
   | .raw (.slice none 0 0), some ⟨.slc _ _, _⟩ => (match (s.ev x).els s with
    | some r => some (r.2 = [], .val .bool false, .val .bool true)
    | none => none)
   | _, _ => none)
  | _ => none
 | _ => none

/-! ### append to a place: the append, the address again, the store, as one step -/
def isAddr : Op → Bool
 | .fieldAddr _ _ _ => true
 | .indexAddr _ _ _ => true
 | .nilCheck _ => true
 | _ => false

def opTmps (o : Oper) : List Nat := o.op.operands.toList.filterMap fun | .tmp t => some t | _ => none

def stayB (e : Ent) (p : List Step) (r : Sigma Ty.den) : Bool :=
 match e with
 | .var t _ => decide (r.1 = t)
 | .own (.slc true t) _ => (match p with
  | .idx _ :: _ => decide (r.1 = .slc true t)
  | _ => false)
 | _ => false

def appS (E : Env) (T U T2 : TypeId) (x y ad : AV) (d : Nat) (s : St) : Option (Prop × St) :=
 match x, ad, look T E.tt, look U E.tt with
 | .at_ i p, .ptr j q, some ⟨.slc _ t0, _⟩, some ⟨u1, _⟩ => (match s.obj i, Nat.beq i j && (match u1 with | .slc _ _ => true | .str => true | _ => false) with
  | some e, true => (match getP e.ty e.x p with
   | some ⟨.slc true u, l⟩ => (match y.app1 s t0 with
    | some (⟨t, m⟩, g) =>
     if hu : u = t0 then
      if ht : t = t0 then
       (match setP e.ty e.x p (.slc true t0) (castL hu l ++ castL ht m) with
        | some r => (match chk E T2 (.slc true t0) && stayB e p r && !g.contains i && noDup g && g.all (fun i => !pinned i) with
         | true => some (q = p ∧ (l.length + m.length : Nat) ≤ 140737488355328 ∧ (l.length + m.length : Nat) * (t0.wb : Nat) ≤ 140737488355328,
          ((St.drops g (s.put (some d) .any)).kill i e.kd p).putE i (e.upd r))
         | false => none)
        | none => none)
      else none
     else none
    | none => none)
   | _ => none)
  | _, _ => none)
 | _, _, _, _ => none

def fuseGo (E : Env) (T U : TypeId) (x y : Operand) (d : Nat) : List Oper → St → Option (Prop × St × Nat)
 | [], _ => none
 | o :: rest, s => match o.guard, dstOk E.nt o.dst with
  | none, true => (match isAddr o.op with
   | true => (match o.dst with
    | some d1 => (match !Nat.beq d1 d && !(opTmps o).contains d && (match x with | .tmp t => !Nat.beq t d1 | _ => true) && (match y with | .tmp t => !Nat.beq t d1 | _ => true), (match aop E o s with | .fail _ => none | .ok v _ => some (True, v) | .okN p v _ => some (p, v)) with
     | true, some (p, v) => (match fuseGo E T U x y d rest (s.put (some d1) v) with
      | some (p2, s2, n) => some (p ∧ p2, s2, n + 1)
      | none => none)
     | _, _ => none)
    | none => none)
   | false => (match o.op with
    | .store T2 ad (.tmp d') => (match Nat.beq d' d && (match ad with | .tmp t => !Nat.beq t d | _ => true) with
     | true => (match appS E T U T2 (s.ev x) (s.ev y) (s.ev ad) d s with
      | some (p, s2) => some (p, s2.put o.dst (.raw undef), 1)
      | none => none)
     | false => none)
    | _ => none))
  | _, _ => none

def fuseA (E : Env) (o : Oper) (rest : List Oper) (s : St) : Option (Prop × St × Nat) :=
 match o.guard, o.dst, dstOk E.nt o.dst, o.op with
 | none, some d, true, .call c => (match c.callee, c.args.toList, c.argTypes.toList with
  | .builtin .append, [x, y], [T, U] => (match s.ev x with
   | .at_ i p => (match (AV.at_ i p).give s with
    | some _ => none
    | none => fuseGo E T U x y d rest s)
   | _ => none)
  | _, _, _ => none)
 | _, _, _, _ => none

def argsH (s : St) (ks : List PK) (i : Nat) (e : Ent) (p : List Step) (t : Ty) (ys : List Operand) : Option (DK ks × List Nat × List Nat) :=
 match (callA.loose ks (s.evs ys)).contains i with
 | false => AV.asKs s ks (s.evs ys)
 | true => match e with
  | .var u x => (match setP u x p (.hole t) ([] : List t.den) with
   | some r => AV.asKs ((s.kill i (Ent.var u x).kd p).putE i (.var r.1 r.2)) ks (((s.kill i (Ent.var u x).kd p).putE i (.var r.1 r.2)).evs ys)
   | none => none)
  | _ => none

def callS (E : Env) (T2 : TypeId) (g : FuncId) (x : AV) (ys : List Operand) (ad : AV) (d : Nat) (s : St) : Option (Prop × St) :=
 match look g E.ctr, x, ad with
 | some ⟨.own (.slc true t) :: ks, [.slc true t'], pre, fn, _, _⟩, .at_ i p, .ptr j q => (match s.obj i, Nat.beq i j && (match wts ks with | [] => true | _ => false) && (Ty.slc true t').noSh && chk E T2 (.slc true t) with
  | some e, true => (match getP e.ty e.x p, argsH s ks i e p t ys with
   | some ⟨u, l⟩, some (y, [], []) =>
    if h : u = .slc true t then
     (match setP e.ty e.x p (.slc true t') (fn (castD h l, y)).1 with
     | some r => (match chk E T2 (.slc true t') && stayB e p r with
      | true => some (q = p ∧ pre (castD h l, y), ((s.put (some d) .any).killR i e.isOwn).putE i (e.upd r))
      | false => none)
     | none => none)
    else none
   | _, _ => none)
  | _, _ => none)
 | _, _, _ => none

def fuseGoC (E : Env) (g : FuncId) (x : Operand) (ys : List Operand) (d : Nat) : List Oper → St → Option (Prop × St × Nat)
 | [], _ => none
 | o :: rest, s => match o.guard, dstOk E.nt o.dst with
  | none, true => (match isAddr o.op with
   | true => (match o.dst with
    | some d1 => (match !Nat.beq d1 d && !(opTmps o).contains d && (x :: ys).all (fun z => match z with | .tmp t => !Nat.beq t d1 | _ => true), (match aop E o s with | .fail _ => none | .ok v _ => some (True, v) | .okN p v _ => some (p, v)) with
     | true, some (p, v) => (match fuseGoC E g x ys d rest (s.put (some d1) v) with
      | some (p2, s2, n) => some (p ∧ p2, s2, n + 1)
      | none => none)
     | _, _ => none)
    | none => none)
   | false => (match o.op with
    | .store T2 ad (.tmp d') => (match Nat.beq d' d && (match ad with | .tmp t => !Nat.beq t d | _ => true) with
     | true => (match callS E T2 g (s.ev x) ys (s.ev ad) d s with
      | some (p, s2) => some (p, s2.put o.dst (.raw undef), 1)
      | none => none)
     | false => none)
    | _ => none))
  | _, _ => none

def fuseC (E : Env) (o : Oper) (rest : List Oper) (s : St) : Option (Prop × St × Nat) :=
 match o.guard, o.dst, dstOk E.nt o.dst, o.op with
 | none, some d, true, .call c => (match c.callee, c.args.toList with
  | .value (.func g), x :: ys => (match s.ev x with
   | .at_ i p => (match (AV.at_ i p).give s with
    | some _ => none
    | none => fuseGoC E g x ys d rest s)
   | _ => none)
  | _, _ => none)
 | _, _, _, _ => none

def callM (E : Env) (o : Oper) (s : St) : Option (Prop × St) :=
 match o.guard, dstOk E.nt o.dst, o.op with
 | none, true, .call c => (match c.callee, c.args.toList with
  | .value (.func g), x :: ys => (match look g E.ctr, s.ev x with
   | some ⟨.mu t :: ks, [], pre, _, out, _⟩, .at_ i (st :: p) => (match s.obj i, (match wts ks with | [] => true | _ => false) && (Ty.slc true t).noSh with
    | some e, true => (match getP e.ty e.x (st :: p), argsH s ks i e (st :: p) t ys with
     | some ⟨u, l⟩, some (y, [], []) =>
      if h : u = .slc true t then
       (match setP e.ty e.x (st :: p) (.slc true t) (out (castD h l, y)).1 with
       | some r => (match stayB e (st :: p) r && !e.isOwn with
        | true => some (pre (castD h l, y), ((s.killR i e.isOwn).putE i (e.upd r)).put o.dst (.tup .nil))
        | false => none)
       | none => none)
      else none
     | _, _ => none)
    | _, _ => none)
   | _, _ => none)
  | _, _ => none)
 | _, _, _ => none

def PK.takes : PK → Bool
 | .own _ | .rw _ | .mu _ => true
 | _ => false

def demV : (u t : Ty) → u.den → Option t.den
 | .pair a b, .pair c d, y => (match demV a c y.1, demV b d y.2 with
  | some x1, some x2 => some (x1, x2)
  | _, _ => none)
 | u, t, y => if h : u = t then some (castD h y) else if h : u.sh = t then (match u.noH with
  | true => some (cast ((den_sh u).symm.trans (congrArg Ty.den h)) y)
  | false => none) else none

def AV.keep1 (i : Nat) (v : AV) : AV :=
 match v.ment i with
 | false => v
 | true => match v with
  | .ptr j [] => .ptr j []
  | _ => .any

def St.keepP (i : Nat) (s : St) : St := { s with fr := mapA (AV.map (AV.keep1 i)) s.fr }

def demA (E : Env) (o : Oper) (s : St) : Option St :=
 match E.ps.any PK.takes, o.op with
 | false, .call c => (match c.callee, c.args.toList with
  | .value (.func g), x :: _ => (match look g E.ctr, s.ev x with
   | some ⟨.rw t :: _, _, _, _, _, _⟩, .ptr i [] => (match s.obj i with
    | some (.var u y) => (match decide (u = t) with
     | true => none
     | false => (match demV u t y with
      | some z => some ((s.keepP i).putE i (.var t z))
      | none => none))
    | _ => none)
   | _, _ => none)
  | _, _ => none)
 | _, _ => none

def regF (E : Env) (ops : Array Oper) : Nat → List Oper → St → (St → Tree (E.rs ++ wts E.ps)) → Tree (E.rs ++ wts E.ps)
 | _, [], s, k => k s
 | n + 1, _ :: rest, s, k => regF E ops n rest s k
 | 0, o :: rest, s0, k => let s := (demA E o s0).getD s0
  match fuseA E o rest s with
  | some (p, s', n) => .need p (regF E ops n rest s' k)
  | none => match fuseC E o rest s with
  | some (p, s', n) => .need p (regF E ops n rest s' k)
  | none => match callM E o s with
  | some (p, s') => .need p (regF E ops 0 rest s' k)
  | none => match o.guard, dstOk E.nt o.dst, brA E s o with
   | none, true, some (p, v1, v2) => .both p (regF E ops 0 rest (s.put o.dst v1) k) (regF E ops 0 rest (s.put o.dst v2) k)
   | _, _, _ => placeA E ops o s fun s' => regF E ops 0 rest s' k

/-! ### regions whose order is drawn -/
def OR.get : OR → Option (Prop × AV × St)
 | .fail _ => none
 | .ok v s => some (True, v, s)
 | .okN p v s => some (p, v, s)

def runR (E : Env) (o : Oper) (s : St) : Option (Prop × St) :=
 match dstOk E.nt o.dst with
 | false => none
 | true =>
 match o.op with
 | .pick c a b => match s.ev c with
  | .val .bool g => some (True, s.put o.dst (match g with | true => s.ev a | false => s.ev b))
  | _ => none
 | _ => match (aop E o s).get with
  | none => none
  | some (p, v, s') => some (p, s'.put o.dst v)

def placeR (E : Env) (ops : Array Oper) (o : Oper) (s : St) : Option (Prop × St) :=
 match o.guard with
 | none => runR E o s
 | some (j, want) => match guardSlot ops j with
  | none => none
  | some g => match s.get g with
   | .raw (.tuple _) => match dstOk E.nt o.dst with
    | true => some (True, s.put o.dst (.raw undef))
    | false => none
   | .val .bool b => match dstOk E.nt o.dst with
    | false => none
    | true => match b == want with
     | true => runR E o (s.put (some g) (.val .bool b))
     | false => some (True, (s.put (some g) (.val .bool b)).put o.dst (.raw undef))
   | _ => none

def looks (ops : Array Oper) (o : Oper) : List Nat :=
 (o.op.operands.toList.filterMap fun | .tmp t => some t | _ => none) ++
 (match o.guard with
 | some (g, _) => (guardSlot ops g).toList
 | none => [])

def apartB (ops : Array Oper) (x y : Oper) : Bool :=
 (match x.dst with
 | some d => !(looks ops y).contains d && (match y.dst with | some e => !(Nat.beq d e) | none => true)
 | none => true) &&
 (match y.dst with
 | some d => !(looks ops x).contains d
 | none => true)

def indep (ops : Array Oper) (x y : Oper) : Bool := apartB ops x y && !(Nat.beq ((x.dst.getD 0) % 1000) ((y.dst.getD 0) % 1000))

def takes (E : Env) (o : Oper) (s : St) : List Nat :=
 match o.op with
 | .store _ a x => (s.ev a).lent ++ (s.ev x).lent
 | .box _ x => (s.ev x).lent
 | .build _ parts => (s.evs (parts.toList.map (·.2))).lent
 | .buildSlice _ _ parts => (s.evs (parts.toList.map (·.2))).lent
 | .mapUpdate _ m _ _ => (s.ev m).lent
 | .call c => (match c.callee with
  | .value f => (match s.ev f with
   | .clo g caps => (match look g E.ctr with
    | some c' => (match c'.ps.any PK.takes with
     | false => []
     | true => ((s.evs c.args.toList).app caps).lent)
    | none => [])
   | .val (.fn g) _ => (match look g E.ctr with
    | some c' => (match c'.ps.any PK.takes with
     | false => []
     | true => ((s.evs c.args.toList).app .nil).lent)
    | none => [])
   | .val (.box false (some g) t) y => (match look g E.ctr with
    | some c' => (match c'.ps.any PK.takes with
     | false => []
     | true => ((s.evs c.args.toList).app (.cons (.rptr t (Option.getD (y : Option t.den) t.dflt)) .nil)).lent)
    | none => [])
   | _ => [])
  | .builtin .append => (s.evs c.args.toList).lent
  | .builtin .copy => (s.evs c.args.toList).lent
  | .builtin .clear => (s.evs c.args.toList).lent
  | _ => [])
 | _ => []

structure Met where
 i : Nat
 o : Oper
 s : St
 T : List Nat

def vwB (o : Oper) (v : AV) : AV :=
 match o.guard, o.op with
 | none, .extract _ j => (match v with
  | .tup l => (match aop.nth j l with
   | some v => .tup (.cons v .nil)
   | none => .any)
  | _ => .any)
 | _, _ => v

def pairB (ops : Array Oper) (e : Met) (y : Oper) (Ty : List Nat) : Bool :=
 (match e.T with
  | [] => true
  | T => ((looks ops y).all fun m => T.all fun i => !(vwB y (e.s.get m)).ment i) && T.all fun i => !(Nat.beq (i % 1000) ((y.dst.getD 0) % 1000))) &&
 (match Ty with
  | [] => true
  | T => (looks ops e.o).all fun m => T.all fun i => !(vwB e.o (e.s.get m)).ment i)

def masksGo : List Oper → List Nat → List Nat
 | [], acc => acc
 | o :: l, acc => masksGo l (acc ++ [o.after.toList.foldl (fun m e => match Region.binds .any e with | true => Nat.lor (Nat.lor m (2 ^ e.on)) (acc.getD e.on 0) | false => m) 0])

def depOk (_ : List Nat) (o : Oper) (_ i : Nat) : Bool :=
 o.after.toList.all fun e => !Region.binds .any e || Nat.blt e.on i

def maskOk (M : List Nat) (o : Oper) (m n : Nat) : Bool :=
 (List.range n).all fun j => !(m.testBit j) || o.after.toList.any fun e => Region.binds .any e && (Nat.beq e.on j || (M.getD e.on 0).testBit j)

def drawOk (ops : Array Oper) : Bool :=
 let M := masksGo ops.toList []
 let L := ops.toList
 let n := L.length
 (List.range n).all fun i => match L[i]? with
  | none => false
  | some o => depOk M o (M.getD i 0) i && maskOk M o (M.getD i 0) n &&
   (List.range i).all fun j => match L[j]? with
    | none => false
    | some x => (M.getD i 0).testBit j || indep ops x o

def AV.clean : AV → Bool
 | .ptr _ _ | .at_ _ _ | .sub _ _ _ _ => false
 | .cons a b => a.clean && b.clean
 | .tup l | .clo _ l | .bx l => l.clean
 | _ => true

def uniqB {α : Type _} : List (Nat × α) → Bool
 | [] => true
 | (n, _) :: l => (match l with
  | [] => true
  | (m, _) :: _ => Nat.blt n m) && uniqB l

def distinctB : List Nat → Bool
 | [] => true
 | a :: l => !l.contains a && distinctB l

def dsts (ops : List Oper) : List Nat := ops.filterMap (·.dst)

def entryOk (ops : Array Oper) (s : St) : Bool :=
 uniqB s.fr && distinctB (dsts ops.toList) && (dsts ops.toList.dropLast).all fun d => (s.get d).clean

def firstRegion : Code → Nat
 | .region id _ _ => id
 | .seq a _ => firstRegion a
 | .block _ c => firstRegion c
 | .loop c => firstRegion c
 | .cond _ a _ => firstRegion a
 | _ => 0

structure PendA where
 k : Nat
 x : Operand
 y : Operand
 T : TypeId
 U : TypeId
 d : Nat

def appAt (E : Env) (o : Oper) (s : St) (i : Nat) : Option PendA :=
 match o.guard, o.dst, dstOk E.nt o.dst, o.op with
 | none, some d, true, .call c => (match c.callee, c.args.toList, c.argTypes.toList with
  | .builtin .append, [x, y], [T, U] => (match s.ev x with
   | .at_ j p => (match (AV.at_ j p).give s with
    | some _ => none
    | none => some ⟨i, x, y, T, U, d⟩)
   | _ => none)
  | _, _, _ => none)
 | _, _, _, _ => none

def isSt (o : Oper) : Bool := match o.guard, o.op with | none, .store _ _ _ => true | _, _ => false

def quiet (o : Oper) : Bool :=
 o.guard.isNone && (match o.op with
  | .move _ => true
  | .load _ _ => true
  | .fieldAddr _ _ _ => true
  | .indexAddr _ _ _ => true
  | .nilCheck _ => true
  | _ => false)

def notIn (d : Option Nat) (L : List Nat) : Bool :=
 match d with
 | some e => !L.contains e
 | none => true

def pendOk (ops : Array Oper) (M : List Nat) (k n : Nat) : Bool :=
 Nat.beq (n + 1) ops.size && Nat.blt k n && (match ops[k]? with
  | some ok => (List.range n).all fun j => (M.getD n 0).testBit j && (Nat.beq j k || (match ops[j]? with
   | some o => notIn o.dst ok.dst.toList && ((M.getD k 0).testBit j || ((quiet o || isSt o) && notIn o.dst (looks ops ok)))
   | none => false))
  | none => false)

def lateSt (ops : Array Oper) (q : PendA) (n j : Nat) (o : Oper) (s : St) : Bool :=
 match o.op with
 | .store _ ad x => (match s.ev ad, s.ev x with
  | .ptr j0 _, .val _ _ => !(s.ev q.x).ment j0 && !(s.ev q.y).ment j0
  | _, _ => false) && o.guard.isNone && o.dst.isNone && (List.range n).all fun j' => Nat.ble j' j || (match ops[j']? with
   | some o' => notIn o'.dst (looks ops o)
   | none => true)
 | _ => false

def lateOk (ops : Array Oper) (M : List Nat) (q : PendA) (n : Nat) (s : St) : Bool :=
 (List.range n).all fun j => Nat.beq j q.k || (match ops[j]? with
  | some o => (M.getD q.k 0).testBit j || quiet o || lateSt ops q n j o s
  | none => true)

def finA (E : Env) (ops : Array Oper) (M : List Nat) (q : PendA) (i : Nat) (o : Oper) (s : St) : Option (Prop × St) :=
 match o.guard, o.op with
 | none, .store T2 ad (.tmp d') => (match Nat.beq d' q.d && (match ad with | .tmp t => !Nat.beq t q.d | _ => true) && pendOk ops M q.k i && lateOk ops M q i s && dstOk E.nt o.dst with
  | true => (match appS E q.T q.U T2 (s.ev q.x) (s.ev q.y) (s.ev ad) q.d s with
   | some (p, s2) => some (p, s2.put o.dst (.raw undef))
   | none => none)
  | false => none)
 | _, _ => none

def regP (E : Env) (ops : Array Oper) (M : List Nat) (q : PendA) : Nat → List Oper → St → List Met → (St → Tree (E.rs ++ wts E.ps)) → Tree (E.rs ++ wts E.ps)
 | _, [], _, _, _ => .stuck "draw: pending"
 | i, [o], s, _, k => (match finA E ops M q i o s with
  | some (p, s2) => .need p (k s2)
  | none => .stuck "draw: append")
 | i, o :: o2 :: rest, s, acc, k =>
  match acc.all fun e => (M.getD i 0).testBit e.i || pairB ops e o (takes E o s) with
  | false => .stuck "draw: objects"
  | true => placeA E ops o s fun s' => regP E ops M q (i + 1) (o2 :: rest) s' (⟨i, o, s, takes E o s⟩ :: acc) k

def regD (E : Env) (ops : Array Oper) (M : List Nat) : Nat → List Oper → St → List Met → (St → Tree (E.rs ++ wts E.ps)) → Tree (E.rs ++ wts E.ps)
 | _, [], s, _, k => k s
 | i, o :: rest, s, acc, k =>
  match appAt E o s i with
  | some q => regP E ops M q (i + 1) rest s acc k
  | none => match acc.all fun e => (M.getD i 0).testBit e.i || pairB ops e o (takes E o s) with
   | false => .stuck "draw: objects"
   | true => placeA E ops o s fun s' => regD E ops M (i + 1) rest s' (⟨i, o, s, takes E o s⟩ :: acc) k

def Ty.noIx : Ty → Bool
 | .int _ | .bool | .str | .unit => true
 | .pair a b => a.noIx && b.noIx
 | _ => false

def plainSt (o : Oper) (s : St) : Bool :=
 match o.guard, o.op with
 | none, .store _ a x => (match s.ev a, s.ev x with
  | .ptr _ _, .val t _ => t.noIx
  | _, _ => false)
 | _, _ => false

def addrOp (o : Oper) : Bool :=
 match o.guard, o.op with
 | none, .indexAddr _ _ _ => true
 | none, .fieldAddr _ _ _ => true
 | _, _ => false

def addrSt (o : Oper) (s : St) : Bool :=
 match o.guard, o.op with
 | none, .indexAddr _ a i => (match s.ev a, s.ev i with
  | .at_ _ _, .val (.int _) _ => true
  | _, _ => false)
 | none, .fieldAddr _ a _ => (match s.ev a with
  | .ptr _ _ => true
  | _ => false)
 | _, _ => false

def stAt (o : Oper) (s : St) : Option (Nat × (Bool × Ty) × List Step) :=
 match plainSt o s, o.op with
 | true, .store _ a _ => (match s.ev a with
  | .ptr j q => (look j s.hp).map fun e => (j, e.kd, q)
  | _ => none)
 | _, _ => none

def tyP : Ty → List Step → Option Ty
 | t, [] => some t
 | .pair a _, .fld 0 :: p => tyP a p
 | .pair _ b, .fld (n + 1) :: p => tyP b (.fld n :: p)
 | .arr _ t, .idx _ :: p => tyP t p
 | .slc true t, .idx _ :: p => tyP t p
 | _, _ => none

def keepV (j : Nat) (kd : Bool × Ty) (q : List Step) (v : AV) : Bool :=
 match v with
 | .ptr i p => !Nat.beq j i || kp q p
 | .at_ i p => !Nat.beq j i || (match AV.kill1 j kd q (.at_ i p) with | .at_ _ _ => true | _ => false)
 | .val _ _ => true
 | _ => false

def hpk (s : St) (i : Nat) : Option (Bool × Ty) := (look i s.hp).map Ent.kd

def keepX (o : Oper) (s : St) (j : Nat) (kd : Bool × Ty) (q : List Step) : Bool :=
 match o.guard, o.op with
 | none, .move a => keepV j kd q (s.ev a)
 | none, .fieldAddr _ a n => (match s.ev a with
  | .ptr i p => keepV j kd q (.ptr i p) && keepV j kd q (.ptr i (p ++ [.fld n]))
  | _ => false)
 | none, .load _ a => (match s.ev a with
  | .ptr i p => keepV j kd q (.ptr i p) && keepV j kd q (.at_ i p) && (match hpk s i with
   | some k => (match tyP k.2 p with
    | some u => !u.shared
    | none => false)
   | none => false)
  | _ => false)
 | _, _ => false

def keepB (e : Met) (y : Oper) (s : St) : Bool :=
 match stAt y s with
 | some (j, kd, q) => keepX e.o e.s j kd q
 | none => false

def isKp (o : Oper) : Bool := match o.guard, o.op with | none, .move _ => true | none, .fieldAddr _ _ _ => true | none, .load _ _ => true | _, _ => false
def isAp (o : Oper) : Bool := match o.op with
 | .call c => (match c.callee with | .builtin .append => true | _ => false)
 | _ => false

def adOf (ops : Array Oper) : List Nat := ops.toList.filterMap fun o => match addrOp o with | true => o.dst | false => none

def pairC (ops : Array Oper) (e : Met) (y : Oper) (Ty : List Nat) (s : St) : Bool :=
 (pairB ops e y Ty && (match e.T with | [] => true | _ => (looks ops y).all fun m => !(adOf ops).contains m)) || (plainSt e.o e.s && addrSt y s) || keepB e y s

def modeB (ops : Array Oper) (M : List Nat) : Bool :=
 ((List.range ops.size).any fun i => match ops[i]? with
  | some o => addrOp o && (List.range i).any fun j => !(M.getD i 0).testBit j && (match ops[j]? with
   | some x => isSt x
   | none => false)
  | none => false) ||
 (!(ops.toList.any isAp) && Nat.blt 1 (ops.toList.filter isSt).length && (List.range ops.size).any fun i => match ops[i]? with
  | some o => isSt o && (List.range i).any fun j => !(M.getD i 0).testBit j && (match ops[j]? with
   | some x => isKp x
   | none => false)
  | none => false)

def regB (E : Env) (ops : Array Oper) (M : List Nat) : Nat → List Oper → St → List Met → (St → Tree (E.rs ++ wts E.ps)) → Tree (E.rs ++ wts E.ps)
 | _, [], s, _, k => k s
 | i, o :: rest, s, acc, k =>
  match acc.all fun e => (M.getD i 0).testBit e.i || pairC ops e o (takes E o s) s with
  | false => .stuck "draw: addresses"
  | true => placeA E ops o s fun s' => regB E ops M (i + 1) rest s' (⟨i, o, s, takes E o s⟩ :: acc) k

def forgetA : List Oper → St → St
 | [], s => s
 | o :: l, s => match o.op with
  | .call c => (match c.callee, o.dst with
   | .builtin .append, some d => forgetA l { s with fr := Ex.put d .any s.fr }
   | _, _ => forgetA l s)
  | _ => forgetA l s

def usedIn (i : Nat) (s : St) : List Nat → Bool
 | [] => false
 | t :: l => (s.get t).ment i || usedIn i s l

def dropAll (live : List Nat) (s0 : St) : List (Nat × Ent) → St → St
 | [], s => s
 | (i, _) :: l, s => match pinned i || usedIn i s0 live with
  | true => dropAll live s0 l s
  | false => dropAll live s0 l (s.drop i)

def AV.ren (i j : Nat) : AV → AV := AV.map fun v =>
 match v.ment i with
 | false => v
 | true => match v with
  | .ptr _ p => .ptr j p
  | .at_ _ p => .at_ j p
  | .sub _ p a b => .sub j p a b
  | _ => .any

def settle (m : Nat) (t : Ty) (s : St) : St :=
 match s.get m with
 | .raw (.slice none 0 0) => (match t, s.fresh (1000000 + m) with
  | .slc true u, true => { s.putE (1000000 + m) (.own (.slc true u) ([] : List u.den)) with fr := Ex.put m (.at_ (1000000 + m) []) s.fr }
  | _, _ => s)
 | .at_ i [] => (match s.obj i with
  | some (.own u x) => (match pinned i || !s.fresh (1000000 + m) with
   | true => s
   | false => { fr := mapA (AV.ren i (1000000 + m)) s.fr, hp := Ex.put (1000000 + m) (.own u x) (del i s.hp) })
  | _ => s)
 | .sub i [] lo hi => (match (AV.sub i [] lo hi).give s with
  | some (⟨u, x⟩, _) => (match pinned i || !(s.drop i).fresh (1000000 + m) with
   | true => s
   | false => { (s.drop i).putE (1000000 + m) (.own u x) with fr := Ex.put m (.at_ (1000000 + m) []) (s.drop i).fr })
  | none => s)
 | .val u x => (match decide (u = t) && s.fresh (1000000 + m) with
  | true => { s.putE (1000000 + m) (.own u x) with fr := Ex.put m (.at_ (1000000 + m) []) s.fr }
  | false => s)
 | _ => s

def settles : List (Nat × Option Ty) → St → St
 | [], s => s
 | (_, none) :: l, s => settles l s
 | (m, some t) :: l, s => settles l (settle m t s)

def canon (live : List (Nat × Option Ty)) (s : St) : St :=
 let ts := live.map (·.1)
 let s := dropAll ts s s.hp s
 let s := settles live s
 let s := dropAll ts s s.hp s
 { fr := ts.map fun t => (t, s.get t), hp := s.hp }

def demCut (E : Env) : List (Nat × Option Ty) → St → St
 | [], s => s
 | (m, some t) :: l, s => demCut E l (match E.ps.any PK.takes, s.get m with
  | false, .ptr i [] => (match s.obj i with
   | some (.var u y) => (match decide (u = t) with
    | true => s
    | false => (match demV u t y with
     | some z => (s.keepP i).putE i (.var t z)
     | none => s))
   | _ => s)
  | _, _ => s)
 | (_, none) :: l, s => demCut E l s

def St.cutAt (E : Env) (c : Code) (s : St) : St := canon ((look (firstRegion c) E.cuts).getD []) (demCut E ((look (firstRegion c) E.cuts).getD []) s)

def resA (E : Env) (s : St) : List ResultVar → Option AV
 | [] => some .nil
 | .tmp t :: l => match resA E s l with | some v => some (.cons (s.get t) v) | none => none
 | .cell a T :: l => match s.get a with
  | .ptr i p => (match s.part i p with
   | some ⟨u, y⟩ => (match chk E T u with
    | true => (match resA E s l with
     | some v => (match u.shared with | true => some (.cons (.val u y) v) | false => some (.cons (.at_ i p) v))
     | none => none)
    | false => none)
   | none => none)
  | _ => none

def retOne (s : St) (t : Ty) (used : List Nat) (a : AV) : Option (t.den × List Nat) :=
 match a with
 | .at_ i [] => (match used.contains i || pinned i with
  | true => none
  | false => match s.obj i with
   | some (.var u x) => if h : u = t then some (castD h x, i :: used) else none
   | some (.own u x) => if h : u = t then some (castD h x, i :: used) else none
   | _ => none)
 | .sub i [] lo hi => (match used.contains i || pinned i with
  | true => none
  | false => match (AV.sub i [] lo hi).give s with
   | some (⟨u, x⟩, _) => if h : u = t then some (castD h x, i :: used) else none
   | none => none)
 | .ptr i [] => (match used.contains i || pinned i with
  | true => none
  | false => match s.obj i with
   | some (.var u x) => if h : Ty.box true none u = t then some (castD h (some x), i :: used) else none
   | _ => none)
 | .clo f (.cons (.ptr i []) .nil) => (match used.contains i || pinned i with
  | true => none
  | false => match s.obj i with
   | some (.var u x) => if h : Ty.box true (some f) u = t then some (castD h (some x), i :: used) else none
   | _ => none)
 | a => match a.as t with
  | some x => some (x, used)
  | none => none

def retA (s : St) : (rs : List Ty) → List Nat → AV → Option (DL rs)
 | [], _, .nil => some ()
 | t :: ts, used, .cons a b => match retOne s t used a with
  | some (x, used') => match retA s ts used' b with
   | some y => some (x, y)
   | none => none
  | none => none
 | _, _, _ => none

def outA (s : St) : (ks : List PK) → Nat → Option (DL (wts ks))
 | [], _ => some ()
 | .rw t :: ks, j => match s.obj (2000000 + j), outA s ks (j + 1) with
  | some (.var u x), some y => if h : u = t then some (castD h x, y) else none
  | _, _ => none
 | .mu t :: ks, j => match s.obj (2000000 + j), outA s ks (j + 1) with
  | some (.own u x), some y => if h : u = .slc true t then some (castD h x, y) else none
  | _, _ => none
 | .v _ :: ks, j => outA s ks (j + 1)
 | .rd _ :: ks, j => outA s ks (j + 1)
 | .clo _ _ :: ks, j => outA s ks (j + 1)
 | .own _ :: ks, j => outA s ks (j + 1)
 | .nilS :: ks, j => outA s ks (j + 1)

def finish (E : Env) (s : St) : Tree (E.rs ++ wts E.ps) :=
 match resA E s E.res with
 | none => .stuck "result"
 | some l => match retA s E.rs [] l, outA s E.ps 0 with
  | some y, some z => .ret (DL.app y z)
  | _, _ => .stuck "result: type"

def exec (E : Env) : Nat → List Item → St → Tree (E.rs ++ wts E.ps)
 | 0, _, _ => .stuck "fuel"
 | n + 1, k, s =>
  match k with
  | [] => finish E s
  | .inBlock _ :: k => exec E n k s
  | .inLoop c :: k => .cut c k (s.cutAt E c)
  | .code c :: k =>
   match c with
   | .skip => exec E n k s
   | .seq a b => exec E n (.code a :: .code b :: k) s
   | .cond c a b => match s.ev c with
    | .val .bool g => cond g (exec E n (.code a :: k) s) (exec E n (.code b :: k) s)
    | _ => .stuck "cond"
   | .block id c => exec E n (.code c :: .inBlock id :: k) s
   | .loop c => .cut c k (s.cutAt E c)
   | .exit id => match exitTo id k with
    | some k' => exec E n k' s
    | none => .stuck "exit"
   | .ret => finish E s
   | .region _ ops draw => match draw with
    | false => regF E ops 0 ops.toList s fun s' => exec E n k s'
    | true => match drawOk ops && entryOk ops (forgetA ops.toList s) && E.P.follows .mixedOrders with
     | true => match modeB ops (masksGo ops.toList []) with
      | true => regB E ops (masksGo ops.toList []) 0 ops.toList (forgetA ops.toList s) [] fun s' => exec E n k s'
      | false => regD E ops (masksGo ops.toList []) 0 ops.toList (forgetA ops.toList s) [] fun s' => exec E n k s'
     | false => .stuck "draw"
   | _ => .stuck "code"
  | _ :: _ => .stuck "item"

def cutsOf : Code → List Item → List (Nat × (Code × List Item))
 | .seq a b, k => cutsOf a (.code b :: k) ++ cutsOf b k
 | .cond _ a b, k => cutsOf a k ++ cutsOf b k
 | .block id c, k => cutsOf c (.inBlock id :: k)
 | .loop c, k => (firstRegion c, (c, k)) :: cutsOf c (.inLoop c :: k)
 | _, _ => []

def loopAt (c : Code) (r : Nat) : Code × List Item := (look r (cutsOf c [])).getD (.skip, [])

def argsFr : (ks : List PK) → DK ks → Nat → List (Nat × AV)
 | [], _, _ => []
 | .v t :: ks, x, i => (i, .val t x.1) :: argsFr ks x.2 (i + 1)
 | .rd t :: ks, x, i => (i, .rptr t x.1) :: argsFr ks x.2 (i + 1)
 | .clo f ts :: ks, x, i => (i, .clo f (rdA ts x.1)) :: argsFr ks x.2 (i + 1)
 | .own _ :: ks, x, i => (i, .at_ (1500000 + i) []) :: argsFr ks x.2 (i + 1)
 | .rw _ :: ks, x, i => (i, .ptr (2000000 + i) []) :: argsFr ks x.2 (i + 1)
 | .mu _ :: ks, x, i => (i, .at_ (2000000 + i) []) :: argsFr ks x.2 (i + 1)
 | .nilS :: ks, x, i => (i, .raw (.slice none 0 0)) :: argsFr ks x.2 (i + 1)
where rdA : (ts : List Ty) → DL ts → AV
 | [], _ => .nil
 | t :: ts, x => .cons (.rptr t x.1) (rdA ts x.2)

def argsHp : (ks : List PK) → DK ks → Nat → List (Nat × Ent)
 | [], _, _ => []
 | .own t :: ks, x, i => Ex.put (1500000 + i) (.own t x.1) (argsHp ks x.2 (i + 1))
 | .rw t :: ks, x, i => Ex.put (2000000 + i) (.var t x.1) (argsHp ks x.2 (i + 1))
 | .mu t :: ks, x, i => Ex.put (2000000 + i) (.own (.slc true t) x.1) (argsHp ks x.2 (i + 1))
 | .v _ :: ks, x, i => argsHp ks x.2 (i + 1)
 | .rd _ :: ks, x, i => argsHp ks x.2 (i + 1)
 | .clo _ _ :: ks, x, i => argsHp ks x.2 (i + 1)
 | .nilS :: ks, x, i => argsHp ks x.2 (i + 1)

def initSt (ks : List PK) (x : DK ks) : St := { fr := argsFr ks x 0, hp := argsHp ks x 0 }

end Go.Ex
