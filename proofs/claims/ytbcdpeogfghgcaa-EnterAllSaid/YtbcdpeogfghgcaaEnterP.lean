/- Mutual exclusion by requests and answers (Ricart, Agrawala): what holds at the doors, in plain terms. -/
import Derived.Test.YtbcdpeogfghgcaaEnterC
import Derived.Test.YtbcdpeogfghgcaaOverC
namespace Go.Proofs.Ytbcdpeogfghgcaa
open Go.Ex
def upd (f : Nat → DoorD) (p : Nat) (d : DoorD) : Nat → DoorD := fun q => if q = p then d else f q
theorem upd_same {f : Nat → DoorD} {p : Nat} {d : DoorD} : upd f p d p = d := if_pos rfl
theorem upd_ne {f : Nat → DoorD} {p q : Nat} {d : DoorD} (h : q ≠ p) : upd f p d q = f q := if_neg h
/-- a request of p to q on its way -/
def isRq (p q : Nat) (w : WordD) : Bool := decide (w.1 = (p : Int) ∧ w.2.1 = (q : Int) ∧ w.2.2.1 ≠ 0)
/-- an answer of q to p on its way -/
def isRp (q p : Nat) (w : WordD) : Bool := decide (w.1 = (q : Int) ∧ w.2.1 = (p : Int) ∧ w.2.2.1 = 0)
def rq (ws : List WordD) (p q : Nat) : Nat := ws.countP (isRq p q)
def rp (ws : List WordD) (q p : Nat) : Nat := ws.countP (isRp q p)
def lt (f : Nat → DoorD) (q p : Nat) : Nat := (f q).2.2.2.2.1.count (p : Int)
def ys (f : Nat → DoorD) (p q : Nat) : Nat := (bit (f p).2.2.1 q).toNat
def bef (f : Nat → DoorD) (p q : Nat) : Prop := (f p).2.1 < (f q).2.1 ∨ ((f p).2.1 = (f q).2.1 ∧ p < q)
structure IV (n : Nat) (f : Nat → DoorD) (ws : List WordD) : Prop where
  c : ∀ p, p < n → (0 ≤ (f p).1 ∧ (f p).1 ≤ 16777215) ∧ (0 ≤ (f p).2.1 ∧ (f p).2.1 ≤ (f p).1)
  l : ws.length ≤ 100
  w : ∀ w ∈ ws, (0 ≤ w.1 ∧ w.1 < (n : Int)) ∧ (0 ≤ w.2.1 ∧ w.2.1 < (n : Int)) ∧ (0 ≤ w.2.2.1 ∧ w.2.2.1 ≤ 16777215) ∧ w.1 ≠ w.2.1 ∧ (w.2.2.1 ≠ 0 → w.2.2.1 = (f w.1.toNat).2.1)
  N : ∀ p q, p < n → q < n → p ≠ q → rq ws p q + rp ws q p + lt f q p + ys f p q = if 0 < (f p).2.1 then 1 else 0
  lr : ∀ q, q < n → ∀ x ∈ (f q).2.2.2.2.1, ∃ p : Nat, x = (p : Int) ∧ p < n ∧ p ≠ q ∧ 0 < (f q).2.1 ∧ bef f q p
  st : ∀ p q, p < n → q < n → p ≠ q → 0 < (f p).2.1 → rq ws p q = 0 → (f p).2.1 ≤ (f q).1
  gr : ∀ p q, p < n → q < n → p ≠ q → rp ws q p + ys f p q ≠ 0 → 0 < (f q).2.1 → bef f p q
  y : ∀ p, p < n → (0 ≤ (f p).2.2.1 ∧ (f p).2.2.1 ≤ 255) ∧ ∀ q, bit (f p).2.2.1 q = true → q < n ∧ q ≠ p
  i : ∀ p, p < n → ((f p).2.2.2.1 = true ↔ 0 < (f p).2.1 ∧ ∀ q, q < n → q ≠ p → bit (f p).2.2.1 q = true)
variable {n p : Nat} {f : Nat → DoorD} {ws : List WordD}
theorem rq_app (a b : List WordD) (p q : Nat) : rq (a ++ b) p q = rq a p q + rq b p q := List.countP_append
theorem rp_app (a b : List WordD) (p q : Nat) : rp (a ++ b) p q = rp a p q + rp b p q := List.countP_append
theorem rq_cons (w : WordD) (b : List WordD) (p q : Nat) : rq (w :: b) p q = rq b p q + if w.1 = (p : Int) ∧ w.2.1 = (q : Int) ∧ w.2.2.1 ≠ 0 then 1 else 0 := by
  rw [rq, List.countP_cons]; simp only [isRq, decide_eq_true_eq]; rfl
theorem rp_cons (w : WordD) (b : List WordD) (p q : Nat) : rp (w :: b) p q = rp b p q + if w.1 = (p : Int) ∧ w.2.1 = (q : Int) ∧ w.2.2.1 = 0 then 1 else 0 := by
  rw [rp, List.countP_cons]; simp only [isRp, decide_eq_true_eq]; rfl
theorem rq_nil (p q : Nat) : rq [] p q = 0 := rfl
theorem rp_nil (p q : Nat) : rp [] p q = 0 := rfl
theorem reqs_rq {c : Int} (hc : c ≠ 0) (a b : Nat) : ∀ m, rq (reqs p c m) a b = if a = p ∧ b < m ∧ b ≠ p then 1 else 0
  | 0 => by simp [reqs, rq_nil]
  | m + 1 => by
    rw [reqs, rq_app, reqs_rq hc a b m]
    by_cases e : (m : Int) ≠ p
    · rw [if_pos e, rq_cons, rq_nil]
      show _ + (0 + if ((p : Int) = a ∧ (m : Int) = b ∧ c ≠ 0) then 1 else 0) = _
      split <;> split <;> split <;> omega
    · rw [if_neg e, rq_nil, Nat.add_zero]
      split <;> split <;> omega
theorem reqs_mem {c : Int} {w : WordD} : ∀ {m : Nat}, w ∈ reqs (p : Int) c m → ∃ q : Nat, q < m ∧ q ≠ p ∧ w = ((p : Int), (q : Int), c, ())
  | 0, h => by simp [reqs] at h
  | m + 1, h => by
    rw [reqs, List.mem_append] at h
    rcases h with h | h
    · obtain ⟨q, h1, h2⟩ := reqs_mem h
      exact ⟨q, by omega, h2⟩
    · split at h
      · rename_i e
        rw [List.mem_singleton] at h
        exact ⟨m, by omega, by omega, h⟩
      · cases h
theorem reqs_rp {c : Int} (hc : c ≠ 0) (a b m : Nat) : rp (reqs p c m) a b = 0 := by
  rw [rp, List.countP_eq_zero]
  intro w hw
  obtain ⟨q, _, _, rfl⟩ := reqs_mem hw
  simp [isRp, hc]
theorem reqs_length {c : Int} : ∀ {m : Nat}, (reqs p c m).length = m - if p < m then 1 else 0
  | 0 => by simp [reqs]
  | m + 1 => by
    rw [reqs, List.length_append, reqs_length]
    by_cases e : (m : Int) ≠ p
    · rw [if_pos e, List.length_singleton]
      by_cases h : p < m
      · rw [if_pos h, if_pos (by omega)]; omega
      · rw [if_neg h, if_neg (by omega)]; omega
    · rw [if_neg e, if_neg (by omega), if_pos (by omega)]; rfl
theorem IV.y0 (h : IV n f ws) (hp : p < n) (hw : (f p).2.1 = 0) (q : Nat) : bit (f p).2.2.1 q = false := by
  cases hb : bit (f p).2.2.1 q with
  | false => rfl
  | true =>
    obtain ⟨hq, hne⟩ := (h.y p hp).2 q hb
    have := h.N p q hp hq (fun e => hne e.symm)
    rw [if_neg (by omega)] at this
    have h9 : ys f p q = 1 := by rw [ys, hb]; rfl
    omega
theorem IV.l0 (h : IV n f ws) (hp : p < n) (hw : (f p).2.1 = 0) : (f p).2.2.2.2.1 = [] := by
  cases hl : (f p).2.2.2.2.1 with
  | nil => rfl
  | cons x l =>
    obtain ⟨q, _, _, _, h9, _⟩ := h.lr p hp x (by rw [hl]; exact List.mem_cons_self)
    omega
theorem IV.wish (h : IV n f ws) (hp : p < n) (hw : (f p).2.1 = 0) (hc : (f p).1 ≠ 16777215) (hl : ws.length + n ≤ 101) {bl : Bool} (hb : bl = decide ((n : Int) = 1)) {u : Unit} :
    IV n (upd f p ((f p).1 + 1, (f p).1 + 1, (f p).2.2.1, bl, (f p).2.2.2.2.1, u)) (ws ++ reqs p ((f p).1 + 1) n) := by
  have hcp := h.c p hp
  have hy0 := h.y0 hp hw
  have hl0 := h.l0 hp hw
  have hc1 : (f p).1 + 1 ≠ 0 := by omega
  have e1 : ∀ a b, rq (ws ++ reqs p ((f p).1 + 1) n) a b = rq ws a b + if a = p ∧ b < n ∧ b ≠ p then 1 else 0 := fun a b => by rw [rq_app, reqs_rq hc1]
  have e2 : ∀ a b, rp (ws ++ reqs p ((f p).1 + 1) n) a b = rp ws a b := fun a b => by rw [rp_app, reqs_rp hc1, Nat.add_zero]
  have e3 : ∀ a b, lt (upd f p ((f p).1 + 1, (f p).1 + 1, (f p).2.2.1, bl, (f p).2.2.2.2.1, u)) a b = lt f a b := fun a b => by
    by_cases e : a = p
    · subst e; rw [lt, upd_same]; rfl
    · rw [lt, upd_ne e]; rfl
  have e4 : ∀ a b, ys (upd f p ((f p).1 + 1, (f p).1 + 1, (f p).2.2.1, bl, (f p).2.2.2.2.1, u)) a b = ys f a b := fun a b => by
    by_cases e : a = p
    · subst e; rw [ys, upd_same]; rfl
    · rw [ys, upd_ne e]; rfl
  have yp : ∀ q, ys f p q = 0 := fun q => by rw [ys, hy0]; rfl
  constructor
  · intro q hq
    by_cases e : q = p
    · subst e; rw [upd_same]; show (0 ≤ (f q).1 + 1 ∧ (f q).1 + 1 ≤ 16777215) ∧ (0 ≤ (f q).1 + 1 ∧ (f q).1 + 1 ≤ (f q).1 + 1); omega
    · rw [upd_ne e]; exact h.c q hq
  · rw [List.length_append, reqs_length, if_pos hp]; omega
  · intro w hw'
    rcases List.mem_append.1 hw' with hm | hm
    · obtain ⟨a1, a2, a3, a4, a5⟩ := h.w w hm
      refine ⟨a1, a2, a3, a4, fun h9 => ?_⟩
      have a5 := a5 h9
      by_cases e : w.1.toNat = p
      · rw [e, hw] at a5; omega
      · rw [upd_ne e]; exact a5
    · obtain ⟨q, hq, hne, rfl⟩ := reqs_mem hm
      refine ⟨⟨by show (0 : Int) ≤ p; omega, by show (p : Int) < n; omega⟩, ⟨by show (0 : Int) ≤ q; omega, by show (q : Int) < n; omega⟩, ⟨by show 0 ≤ (f p).1 + 1; omega, by show (f p).1 + 1 ≤ 16777215; omega⟩, by show (p : Int) ≠ q; omega, fun _ => ?_⟩
      show (f p).1 + 1 = (upd f p _ ((p : Int).toNat)).2.1
      rw [show (p : Int).toNat = p by omega, upd_same]
  · intro a b ha hb' hab
    rw [e1, e2, e3, e4]
    have := h.N a b ha hb' hab
    by_cases e : a = p
    · subst e
      rw [if_neg (by omega)] at this
      rw [upd_same, if_pos ⟨rfl, hb', fun h => hab h.symm⟩, if_pos (by show 0 < (f a).1 + 1; omega)]
      omega
    · rw [if_neg (fun h => e h.1), upd_ne e]; exact this
  · intro q hq x hx
    by_cases e : q = p
    · subst e
      rw [upd_same] at hx
      have hx : x ∈ (f q).2.2.2.2.1 := hx
      rw [hl0] at hx; cases hx
    · rw [upd_ne e] at hx
      obtain ⟨a, h1, h2, h3, h4, h5⟩ := h.lr q hq x hx
      refine ⟨a, h1, h2, h3, by rw [upd_ne e]; exact h4, ?_⟩
      rw [bef, upd_ne e]
      by_cases e' : a = p
      · exfalso
        subst e'
        have := h.N a q h2 hq h3
        rw [if_neg (by omega)] at this
        have h9 : 0 < lt f q a := List.count_pos_iff.2 (by rw [← h1]; exact hx)
        omega
      · rw [upd_ne e']; exact h5
  · intro a b ha hb' hab h0 hr
    rw [e1] at hr
    by_cases e : a = p
    · subst e
      rw [if_pos ⟨rfl, hb', fun h => hab h.symm⟩] at hr; omega
    · rw [if_neg (fun h => e h.1)] at hr
      rw [upd_ne e] at h0 ⊢
      have := h.st a b ha hb' hab h0 (by omega)
      by_cases e' : b = p
      · subst e'; rw [upd_same]; show _ ≤ (f b).1 + 1; omega
      · rw [upd_ne e']; exact this
  · intro a b ha hb' hab hs h0
    rw [e2, e4] at hs
    by_cases e : a = p
    · subst e
      exfalso
      have := h.N a b ha hb' hab
      rw [if_neg (by omega)] at this
      omega
    · by_cases e' : b = p
      · subst e'
        rw [bef, upd_ne e, upd_same]
        have h1 := h.N a b ha hb' hab
        by_cases hz : 0 < (f a).2.1
        · rw [if_pos hz] at h1
          have := h.st a b ha hb' hab hz (by omega)
          left; show (f a).2.1 < (f b).1 + 1; omega
        · rw [if_neg hz] at h1; omega
      · rw [upd_ne e'] at h0
        rw [bef, upd_ne e, upd_ne e']
        exact h.gr a b ha hb' hab hs h0
  · intro q hq
    by_cases e : q = p
    · subst e; rw [upd_same]; exact h.y q hq
    · rw [upd_ne e]; exact h.y q hq
  · intro q hq
    by_cases e : q = p
    · subst e; rw [upd_same]
      show bl = true ↔ 0 < (f q).1 + 1 ∧ ∀ r, r < n → r ≠ q → bit (f q).2.2.1 r = true
      rw [hb, decide_eq_true_eq]
      constructor
      · intro h1; exact ⟨by omega, fun r hr hne => by omega⟩
      · rintro ⟨-, h2⟩
        have : ∀ r, r < n → r = q := fun r hr => Decidable.byContradiction fun hne => by
          have := h2 r hr hne
          rw [hy0] at this; cases this
        by_cases h0 : n = 1
        · omega
        · have a0 := this 0 (by omega); have a1 := this 1 (by omega); omega
    · rw [upd_ne e]; exact h.i q hq
theorem sh1_bit (hp : p < 6) (i : Nat) : bit (sh1 (p : Int)) i = decide (p = i) := by
  have : sh1 (p : Int) = ((2 ^ p : Nat) : Int) := by
    match p, hp with
    | 0, _ => decide +kernel
    | 1, _ => decide +kernel
    | 2, _ => decide +kernel
    | 3, _ => decide +kernel
    | 4, _ => decide +kernel
    | 5, _ => decide +kernel
  rw [this, bit, Int.toNat_natCast, Nat.testBit_two_pow]
theorem sh1_in (p : Int) : inK .u8 (sh1 p) := wrap_in _ _
theorem low_bit (hn : n ≤ 6) (i : Nat) : bit (IntKind.wrap .u8 (sh1 (n : Int) - 1)) i = decide (i < n) := by
  have : IntKind.wrap .u8 (sh1 (n : Int) - 1) = ((2 ^ n - 1 : Nat) : Int) := by
    match n, hn with
    | 0, _ => decide +kernel
    | 1, _ => decide +kernel
    | 2, _ => decide +kernel
    | 3, _ => decide +kernel
    | 4, _ => decide +kernel
    | 5, _ => decide +kernel
    | 6, _ => decide +kernel
  rw [this, bit, Int.toNat_natCast, Nat.testBit_two_pow_sub_one]
theorem others_bit (hn : n ≤ 6) (hp : p < n) (i : Nat) : bit (others n p) i = decide (i < n ∧ i ≠ p) := by
  rw [others, bit_andNot u8s (wrap_in _ _) (sh1_in _), low_bit hn, sh1_bit (by omega)]
  by_cases h : i < n <;> by_cases e : p = i <;> simp [h, e] <;> omega
theorem others_in (n p : Int) : inK .u8 (others n p) := andNot_in
/-- the bits are all, if the numbers are the same -/
theorem others_iff {y : Int} (hn : n ≤ 6) (hp : p < n) (hy : 0 ≤ y) (h : ∀ q, bit y q = true → q < n ∧ q ≠ p) : y = others n p ↔ ∀ q, q < n → q ≠ p → bit y q = true := by
  constructor
  · rintro rfl q hq hne
    rw [others_bit hn hp]; exact decide_eq_true ⟨hq, hne⟩
  · intro h1
    refine bits_ext hy (others_in _ _).1 fun q => ?_
    rw [others_bit hn hp]
    by_cases e : q < n ∧ q ≠ p
    · rw [h1 q e.1 e.2, decide_eq_true e]
    · rw [decide_eq_false e]
      cases hb : bit y q with
      | false => rfl
      | true => exact absurd (h q hb) e
theorem IV.reply {A B : List WordD} {x y : Nat} {u u2 : Unit} {bl : Bool} (hn : n ≤ 6) (h : IV n f (A ++ ((x : Int), (y : Int), 0, u) :: B)) (hx : x < n) (hy : y < n) (hxy : x ≠ y)
    (hb : bl = decide (bOr .u8 (f y).2.2.1 (sh1 x) = others n y)) :
    0 < (f y).2.1 ∧ IV n (upd f y ((f y).1, (f y).2.1, bOr .u8 (f y).2.2.1 (sh1 x), bl, (f y).2.2.2.2.1, u2)) (A ++ B) := by
  generalize hD : ((f y).1, (f y).2.1, bOr .u8 (f y).2.2.1 (sh1 x), bl, (f y).2.2.2.2.1, u2) = D
  have d1 : D.1 = (f y).1 := by rw [← hD]
  have d2 : D.2.1 = (f y).2.1 := by rw [← hD]
  have d3 : D.2.2.1 = bOr .u8 (f y).2.2.1 (sh1 x) := by rw [← hD]
  have d4 : D.2.2.2.1 = bl := by rw [← hD]
  have d5 : D.2.2.2.2.1 = (f y).2.2.2.2.1 := by rw [← hD]
  have e1 : ∀ a b, rq (A ++ ((x : Int), (y : Int), 0, u) :: B) a b = rq (A ++ B) a b := fun a b => by rw [rq_app, rq_app, rq_cons, if_neg (fun h => h.2.2 rfl)]; omega
  have e2 : ∀ a b, rp (A ++ ((x : Int), (y : Int), 0, u) :: B) a b = rp (A ++ B) a b + if a = x ∧ b = y then 1 else 0 := fun a b => by
    rw [rp_app, rp_app, rp_cons]
    show _ + (_ + if ((x : Int) = a ∧ (y : Int) = b ∧ (0 : Int) = 0) then 1 else 0) = _
    split <;> split <;> omega
  have hby : ∀ i, bit D.2.2.1 i = (bit (f y).2.2.1 i || decide (x = i)) := fun i => by
    rw [d3, bit_or u8s (h.y y hy).1 (sh1_in _), sh1_bit (by omega)]
  have fw : ∀ a, (upd f y D a).2.1 = (f a).2.1 := fun a => by
    by_cases e : a = y
    · subst e; rw [upd_same, d2]
    · rw [upd_ne e]
  have fc : ∀ a, (upd f y D a).1 = (f a).1 := fun a => by
    by_cases e : a = y
    · subst e; rw [upd_same, d1]
    · rw [upd_ne e]
  have fl : ∀ a, (upd f y D a).2.2.2.2.1 = (f a).2.2.2.2.1 := fun a => by
    by_cases e : a = y
    · subst e; rw [upd_same, d5]
    · rw [upd_ne e]
  have e3 : ∀ a b, lt (upd f y D) a b = lt f a b := fun a b => by rw [lt, fl]; rfl
  have fb : ∀ a b, bef (upd f y D) a b ↔ bef f a b := fun a b => by rw [bef, fw, fw]; rfl
  have h0 := h.N y x hy hx (fun e => hxy e.symm)
  rw [e2, if_pos ⟨rfl, rfl⟩] at h0
  have hw : 0 < (f y).2.1 := by
    by_cases hz : 0 < (f y).2.1
    · exact hz
    · rw [if_neg hz] at h0; omega
  rw [if_pos hw] at h0
  have hb0 : bit (f y).2.2.1 x = false := by
    cases hb : bit (f y).2.2.1 x with
    | false => rfl
    | true => have : ys f y x = 1 := by rw [ys, hb]; rfl
              omega
  have e4 : ∀ a b, ys (upd f y D) a b = ys f a b + if a = y ∧ b = x then 1 else 0 := fun a b => by
    by_cases e : a = y
    · subst e
      rw [ys, upd_same, hby, ys]
      by_cases e' : x = b
      · subst e'; rw [hb0, if_pos ⟨rfl, rfl⟩]; simp
      · rw [decide_eq_false e', Bool.or_false, if_neg (fun h => e' h.2.symm)]; rfl
    · rw [ys, upd_ne e, if_neg (fun h => e h.1)]; rfl
  have yq : ∀ q, bit D.2.2.1 q = true → q < n ∧ q ≠ y := fun q hq => by
    rw [hby, Bool.or_eq_true, decide_eq_true_eq] at hq
    rcases hq with hq | rfl
    · exact (h.y y hy).2 q hq
    · exact ⟨hx, hxy⟩
  refine ⟨hw, ?_⟩
  constructor
  · intro q hq
    rw [fc, fw]; exact h.c q hq
  · have := h.l
    rw [List.length_append, List.length_cons] at this
    rw [List.length_append]; omega
  · intro w hw'
    rw [fw]
    exact h.w w (by rcases List.mem_append.1 hw' with hm | hm; exact List.mem_append_left _ hm; exact List.mem_append_right _ (List.mem_cons_of_mem _ hm))
  · intro a b ha hb' hab
    rw [fw, e3, e4]
    have := h.N a b ha hb' hab
    rw [e1, e2] at this
    rw [← this]
    split <;> split <;> omega
  · intro q hq z hz
    rw [fl] at hz
    obtain ⟨a, h1, h2, h3, h4, h5⟩ := h.lr q hq z hz
    exact ⟨a, h1, h2, h3, by rw [fw]; exact h4, (fb _ _).2 h5⟩
  · intro a b ha hb' hab h0 hr
    rw [fw] at h0; rw [fw, fc]
    exact h.st a b ha hb' hab h0 (by rw [e1]; exact hr)
  · intro a b ha hb' hab hs h0
    rw [fw] at h0; rw [fb]
    refine h.gr a b ha hb' hab ?_ h0
    rw [e4] at hs; rw [e2]
    split at hs <;> split <;> omega
  · intro q hq
    by_cases e : q = y
    · subst e; rw [upd_same]
      exact ⟨by rw [d3]; exact or_in, yq⟩
    · rw [upd_ne e]; exact h.y q hq
  · intro q hq
    by_cases e : q = y
    · subst e
      rw [upd_same, d4, d2, hb, decide_eq_true_eq, ← d3, others_iff hn hq (by rw [d3]; exact or_in.1) yq]
      exact ⟨fun h => ⟨hw, h⟩, fun h => h.2⟩
    · rw [upd_ne e]; exact h.i q hq
theorem rq_mid {A B : List WordD} {x y : Nat} {z : Int} {u : Unit} (hz : z ≠ 0) (a b : Nat) : rq (A ++ ((x : Int), (y : Int), z, u) :: B) a b = rq (A ++ B) a b + if a = x ∧ b = y then 1 else 0 := by
  rw [rq_app, rq_app, rq_cons]
  show _ + (_ + if ((x : Int) = a ∧ (y : Int) = b ∧ z ≠ 0) then 1 else 0) = _
  split <;> split <;> omega
theorem rp_mid {A B : List WordD} {x y : Nat} {z : Int} {u : Unit} (hz : z ≠ 0) (a b : Nat) : rp (A ++ ((x : Int), (y : Int), z, u) :: B) a b = rp (A ++ B) a b := by
  rw [rp_app, rp_app, rp_cons, if_neg (fun h => hz h.2.2)]; omega
theorem mem_mid {α : Type} {A B : List α} {w x : α} (h : w ∈ A ++ B) : w ∈ A ++ x :: B := by
  rcases List.mem_append.1 h with hm | hm
  · exact List.mem_append_left _ hm
  · exact List.mem_append_right _ (List.mem_cons_of_mem _ hm)
/-- what a request on its way says -/
theorem IV.asked {A B : List WordD} {x y : Nat} {z : Int} {u : Unit} (h : IV n f (A ++ ((x : Int), (y : Int), z, u) :: B)) (hx : x < n) (hy : y < n) (hxy : x ≠ y) (hz : z ≠ 0) :
    z = (f x).2.1 ∧ 0 < (f x).2.1 ∧ rq (A ++ B) x y = 0 ∧ rp (A ++ B) y x = 0 ∧ lt f y x = 0 ∧ ys f x y = 0 := by
  obtain ⟨-, -, h3, -, h5⟩ := h.w (x, y, z, u) (List.mem_append_right _ List.mem_cons_self)
  have h5 : z = (f x).2.1 := by have := h5 hz; simpa using this
  have h3 : 0 ≤ z ∧ z ≤ 16777215 := h3
  have h0 := h.N x y hx hy hxy
  rw [rq_mid hz, rp_mid hz, if_pos ⟨rfl, rfl⟩, if_pos (by omega)] at h0
  exact ⟨h5, by omega, by omega, by omega, by omega, by omega⟩
theorem IV.defer {A B : List WordD} {x y : Nat} {z : Int} {u u2 : Unit} (h : IV n f (A ++ ((x : Int), (y : Int), z, u) :: B)) (hx : x < n) (hy : y < n) (hxy : x ≠ y) (hz : z ≠ 0)
    (hw : (f y).2.2.2.1 = true ∨ (0 < (f y).2.1 ∧ ((f y).2.1 < z ∨ ((f y).2.1 = z ∧ y < x)))) :
    IV n (upd f y (if (f y).1 < z then z else (f y).1, (f y).2.1, (f y).2.2.1, (f y).2.2.2.1, (f y).2.2.2.2.1 ++ [(x : Int)], u2)) (A ++ B) := by
  obtain ⟨hzx, hwx, q1, q2, q3, q4⟩ := h.asked hx hy hxy hz
  generalize hD : (if (f y).1 < z then z else (f y).1, (f y).2.1, (f y).2.2.1, (f y).2.2.2.1, (f y).2.2.2.2.1 ++ [(x : Int)], u2) = D
  have hzc := h.c x hx
  have d1 : (f y).1 ≤ D.1 ∧ z ≤ D.1 ∧ D.1 ≤ 16777215 := by
    have := h.c y hy
    rw [← hD]; show (f y).1 ≤ (if (f y).1 < z then z else (f y).1) ∧ z ≤ (if (f y).1 < z then z else (f y).1) ∧ (if (f y).1 < z then z else (f y).1) ≤ 16777215; split <;> omega
  have d2 : D.2.1 = (f y).2.1 := by rw [← hD]
  have d3 : D.2.2.1 = (f y).2.2.1 := by rw [← hD]
  have d4 : D.2.2.2.1 = (f y).2.2.2.1 := by rw [← hD]
  have d5 : D.2.2.2.2.1 = (f y).2.2.2.2.1 ++ [(x : Int)] := by rw [← hD]
  have fw : ∀ a, (upd f y D a).2.1 = (f a).2.1 := fun a => by
    by_cases e : a = y
    · subst e; rw [upd_same, d2]
    · rw [upd_ne e]
  have fy : ∀ a, (upd f y D a).2.2.1 = (f a).2.2.1 := fun a => by
    by_cases e : a = y
    · subst e; rw [upd_same, d3]
    · rw [upd_ne e]
  have fi : ∀ a, (upd f y D a).2.2.2.1 = (f a).2.2.2.1 := fun a => by
    by_cases e : a = y
    · subst e; rw [upd_same, d4]
    · rw [upd_ne e]
  have e3 : ∀ a b, lt (upd f y D) a b = lt f a b + if a = y ∧ b = x then 1 else 0 := fun a b => by
    by_cases e : a = y
    · subst e
      rw [lt, upd_same, d5, List.count_append, List.count_singleton]
      rw [show lt f a b = (f a).2.2.2.2.1.count (b : Int) from rfl]
      congr 1
      by_cases e' : b = x
      · subst e'; simp
      · rw [if_neg (by simp; omega), if_neg (fun h => e' h.2)]
    · rw [lt, upd_ne e, if_neg (fun h => e h.1)]; rfl
  have e4 : ∀ a b, ys (upd f y D) a b = ys f a b := fun a b => by rw [ys, fy]; rfl
  have fb : ∀ a b, bef (upd f y D) a b ↔ bef f a b := fun a b => by rw [bef, fw, fw]; rfl
  have hwy : 0 < (f y).2.1 ∧ bef f y x := by
    rcases hw with hw | ⟨h1, h2⟩
    · obtain ⟨h1, h2⟩ := (h.i y hy).1 hw
      refine ⟨h1, h.gr y x hy hx (fun e => hxy e.symm) ?_ hwx⟩
      have : ys f y x = 1 := by rw [ys, h2 x hx hxy]; rfl
      omega
    · exact ⟨h1, by rw [bef, ← hzx]; exact h2⟩
  constructor
  · intro q hq
    rw [fw]
    by_cases e : q = y
    · subst e; rw [upd_same]
      have := h.c q hq
      omega
    · rw [upd_ne e]; exact h.c q hq
  · have := h.l
    rw [List.length_append, List.length_cons] at this
    rw [List.length_append]; omega
  · intro w hw'
    rw [fw]
    exact h.w w (mem_mid hw')
  · intro a b ha hb' hab
    rw [fw, e3, e4]
    have := h.N a b ha hb' hab
    rw [rq_mid hz, rp_mid hz] at this
    rw [← this]
    split <;> split <;> omega
  · intro q hq z' hz'
    by_cases e : q = y
    · subst e
      rw [upd_same, d5, List.mem_append, List.mem_singleton] at hz'
      rcases hz' with hz' | rfl
      · obtain ⟨a, h1, h2, h3, h4, h5⟩ := h.lr q hq z' hz'
        exact ⟨a, h1, h2, h3, by rw [fw]; exact h4, (fb _ _).2 h5⟩
      · exact ⟨x, rfl, hx, hxy, by rw [fw]; exact hwy.1, (fb _ _).2 hwy.2⟩
    · rw [upd_ne e] at hz'
      obtain ⟨a, h1, h2, h3, h4, h5⟩ := h.lr q hq z' hz'
      exact ⟨a, h1, h2, h3, by rw [fw]; exact h4, (fb _ _).2 h5⟩
  · intro a b ha hb' hab h0 hr
    rw [fw] at h0; rw [fw]
    by_cases e : b = y
    · subst e; rw [upd_same]
      by_cases e' : a = x
      · subst e'; omega
      · have := h.st a b ha hb' hab h0 (by rw [rq_mid hz, if_neg (fun h => e' h.1)]; omega)
        omega
    · rw [upd_ne e]
      exact h.st a b ha hb' hab h0 (by rw [rq_mid hz, if_neg (fun h => e h.2)]; omega)
  · intro a b ha hb' hab hs h0
    rw [fw] at h0; rw [fb]
    refine h.gr a b ha hb' hab ?_ h0
    rw [e4] at hs; rw [rp_mid hz]; exact hs
  · intro q hq
    rw [fy]; exact h.y q hq
  · intro q hq
    rw [fi, fw, fy]; exact h.i q hq
theorem IV.answer {A B : List WordD} {x y : Nat} {z : Int} {u u2 u3 : Unit} (h : IV n f (A ++ ((x : Int), (y : Int), z, u) :: B)) (hx : x < n) (hy : y < n) (hxy : x ≠ y) (hz : z ≠ 0)
    (hw : ¬ ((f y).2.2.2.1 = true ∨ (0 < (f y).2.1 ∧ ((f y).2.1 < z ∨ ((f y).2.1 = z ∧ y < x))))) :
    IV n (upd f y (if (f y).1 < z then z else (f y).1, (f y).2.1, (f y).2.2.1, (f y).2.2.2.1, (f y).2.2.2.2.1, u2)) (A ++ B ++ [((y : Int), (x : Int), 0, u3)]) := by
  obtain ⟨hzx, hwx, q1, q2, q3, q4⟩ := h.asked hx hy hxy hz
  generalize hD : (if (f y).1 < z then z else (f y).1, (f y).2.1, (f y).2.2.1, (f y).2.2.2.1, (f y).2.2.2.2.1, u2) = D
  have hzc := h.c x hx
  have d1 : (f y).1 ≤ D.1 ∧ z ≤ D.1 ∧ D.1 ≤ 16777215 := by
    have := h.c y hy
    rw [← hD]; show (f y).1 ≤ (if (f y).1 < z then z else (f y).1) ∧ z ≤ (if (f y).1 < z then z else (f y).1) ∧ (if (f y).1 < z then z else (f y).1) ≤ 16777215; split <;> omega
  have fr : ∀ a, (upd f y D a).2 = (f a).2 := fun a => by
    by_cases e : a = y
    · subst e; rw [upd_same, ← hD]
    · rw [upd_ne e]
  have e1 : ∀ a b, rq (A ++ B ++ [((y : Int), (x : Int), 0, u3)]) a b = rq (A ++ B) a b := fun a b => by rw [rq_app, rq_cons, rq_nil, if_neg (fun h => h.2.2 rfl)]; rfl
  have e2 : ∀ a b, rp (A ++ B ++ [((y : Int), (x : Int), 0, u3)]) a b = rp (A ++ B) a b + if a = y ∧ b = x then 1 else 0 := fun a b => by
    rw [rp_app, rp_cons, rp_nil]
    show _ + (0 + if ((y : Int) = a ∧ (x : Int) = b ∧ (0 : Int) = 0) then 1 else 0) = _
    split <;> split <;> omega
  have e3 : ∀ a b, lt (upd f y D) a b = lt f a b := fun a b => by rw [lt, fr]; rfl
  have e4 : ∀ a b, ys (upd f y D) a b = ys f a b := fun a b => by rw [ys, fr]; rfl
  have fb : ∀ a b, bef (upd f y D) a b ↔ bef f a b := fun a b => by rw [bef, fr, fr]; rfl
  constructor
  · intro q hq
    rw [fr]
    by_cases e : q = y
    · subst e; rw [upd_same]
      have := h.c q hq
      omega
    · rw [upd_ne e]; exact h.c q hq
  · have := h.l
    rw [List.length_append, List.length_cons] at this
    rw [List.length_append, List.length_append, List.length_singleton]; omega
  · intro w hw'
    rw [fr]
    rcases List.mem_append.1 hw' with hm | hm
    · exact h.w w (mem_mid hm)
    · rw [List.mem_singleton] at hm
      subst hm
      exact ⟨⟨by show (0 : Int) ≤ y; omega, by show (y : Int) < n; omega⟩, ⟨by show (0 : Int) ≤ x; omega, by show (x : Int) < n; omega⟩, ⟨by show (0 : Int) ≤ 0; omega, by show (0 : Int) ≤ 16777215; omega⟩, by show (y : Int) ≠ x; omega, fun h => absurd rfl h⟩
  · intro a b ha hb' hab
    rw [fr, e1, e2, e3, e4]
    have := h.N a b ha hb' hab
    rw [rq_mid hz, rp_mid hz] at this
    rw [← this]
    split <;> split <;> omega
  · intro q hq z' hz'
    rw [fr] at hz'
    obtain ⟨a, h1, h2, h3, h4, h5⟩ := h.lr q hq z' hz'
    exact ⟨a, h1, h2, h3, by rw [fr]; exact h4, (fb _ _).2 h5⟩
  · intro a b ha hb' hab h0 hr
    rw [fr] at h0; rw [fr]; rw [e1] at hr
    by_cases e : b = y
    · subst e; rw [upd_same]
      by_cases e' : a = x
      · subst e'; omega
      · have := h.st a b ha hb' hab h0 (by rw [rq_mid hz, if_neg (fun h => e' h.1)]; omega)
        omega
    · rw [upd_ne e]
      exact h.st a b ha hb' hab h0 (by rw [rq_mid hz, if_neg (fun h => e h.2)]; omega)
  · intro a b ha hb' hab hs h0
    rw [fr] at h0; rw [fb]
    rw [e4, e2] at hs
    by_cases e : b = y ∧ a = x
    · obtain ⟨rfl, rfl⟩ := e
      rw [bef, ← hzx]
      rcases Int.lt_trichotomy z (f b).2.1 with hl | hl | hl
      · exact .inl hl
      · refine .inr ⟨hl, ?_⟩
        have : ¬ b < a := fun hl2 => hw (.inr ⟨h0, .inr ⟨hl.symm, hl2⟩⟩)
        omega
      · exact absurd (.inr ⟨h0, .inl hl⟩) hw
    · rw [if_neg e] at hs
      refine h.gr a b ha hb' hab ?_ h0
      rw [rp_mid hz]; exact hs
  · intro q hq
    rw [fr]; exact h.y q hq
  · intro q hq
    rw [fr]; exact h.i q hq
theorem map_rq (l : List Int) (a b : Nat) : rq (l.map fun q => (((p : Int), q, 0, ()) : WordD)) a b = 0 := by
  rw [rq, List.countP_eq_zero]
  intro w hw
  obtain ⟨q, _, rfl⟩ := List.mem_map.1 hw
  simp [isRq]
theorem map_rp (a b : Nat) : ∀ l : List Int, rp (l.map fun q => (((p : Int), q, 0, ()) : WordD)) a b = if a = p then l.count (b : Int) else 0
  | [] => by simp [rp_nil]
  | x :: l => by
    rw [List.map_cons, rp_cons, map_rp a b l, List.count_cons]
    show _ + (if ((p : Int) = a ∧ x = (b : Int) ∧ (0 : Int) = 0) then 1 else 0) = _
    by_cases e : a = p
    · subst e
      by_cases e' : x = (b : Int)
      · subst e'; simp
      · rw [if_pos rfl, if_pos rfl, if_neg (fun h => e' h.2.1), if_neg (by simpa using e')]
    · rw [if_neg e, if_neg e, if_neg (by omega)]
theorem IV.leave {u : Unit} (h : IV n f ws) (hp : p < n) (hi : (f p).2.2.2.1 = true) (hl : ws.length + (f p).2.2.2.2.1.length ≤ 100) :
    IV n (upd f p ((f p).1, 0, 0, false, [], u)) (ws ++ (f p).2.2.2.2.1.map fun q => ((p : Int), q, 0, ())) := by
  obtain ⟨hw, hall⟩ := (h.i p hp).1 hi
  have yp : ∀ q, q < n → q ≠ p → ys f p q = 1 := fun q hq hne => by rw [ys, hall q hq hne]; rfl
  have np : ∀ q, q < n → q ≠ p → rq ws p q = 0 ∧ rp ws q p = 0 ∧ lt f q p = 0 := fun q hq hne => by
    have := h.N p q hp hq (fun e => hne e.symm)
    have h1 := yp q hq hne
    rw [if_pos hw] at this
    omega
  have e1 : ∀ a b, rq (ws ++ (f p).2.2.2.2.1.map fun q => ((p : Int), q, 0, ())) a b = rq ws a b := fun a b => by rw [rq_app, map_rq]; rfl
  have e2 : ∀ a b, rp (ws ++ (f p).2.2.2.2.1.map fun q => ((p : Int), q, 0, ())) a b = rp ws a b + if a = p then lt f p b else 0 := fun a b => by rw [rp_app, map_rp]; rfl
  generalize hD : ((f p).1, (0 : Int), (0 : Int), false, ([] : List Int), u) = D
  have d1 : D.1 = (f p).1 := by rw [← hD]
  have d2 : D.2.1 = 0 := by rw [← hD]
  have d3 : D.2.2.1 = 0 := by rw [← hD]
  have d4 : D.2.2.2.1 = false := by rw [← hD]
  have d5 : D.2.2.2.2.1 = [] := by rw [← hD]
  have b0 : ∀ q, bit 0 q = false := fun q => by rw [bit]; simp
  have e3 : ∀ a b, lt (upd f p D) a b = if a = p then 0 else lt f a b := fun a b => by
    by_cases e : a = p
    · subst e; rw [lt, upd_same, d5, if_pos rfl]; rfl
    · rw [lt, upd_ne e, if_neg e]; rfl
  have e4 : ∀ a b, ys (upd f p D) a b = if a = p then 0 else ys f a b := fun a b => by
    by_cases e : a = p
    · subst e; rw [ys, upd_same, d3, b0, if_pos rfl]; rfl
    · rw [ys, upd_ne e, if_neg e]; rfl
  constructor
  · intro q hq
    by_cases e : q = p
    · subst e; rw [upd_same, d1, d2]
      have := h.c q hq
      omega
    · rw [upd_ne e]; exact h.c q hq
  · rw [List.length_append, List.length_map]; exact hl
  · intro w hw'
    rcases List.mem_append.1 hw' with hm | hm
    · obtain ⟨a1, a2, a3, a4, a5⟩ := h.w w hm
      refine ⟨a1, a2, a3, a4, fun h9 => ?_⟩
      have h8 := a5 h9
      by_cases e : w.1.toNat = p
      · exfalso
        have hq := (np w.2.1.toNat (by omega) (by omega)).1
        rw [rq, List.countP_eq_zero] at hq
        refine hq w hm ?_
        rw [isRq]; exact decide_eq_true ⟨by omega, by omega, h9⟩
      · rw [upd_ne e]; exact h8
    · obtain ⟨z, hz, rfl⟩ := List.mem_map.1 hm
      obtain ⟨a, rfl, h2, h3, h4, h5⟩ := h.lr p hp z hz
      exact ⟨⟨by show (0 : Int) ≤ p; omega, by show (p : Int) < n; omega⟩, ⟨by show (0 : Int) ≤ a; omega, by show (a : Int) < n; omega⟩, ⟨by show (0 : Int) ≤ 0; omega, by show (0 : Int) ≤ 16777215; omega⟩, by show (p : Int) ≠ a; omega, fun h => absurd rfl h⟩
  · intro a b ha hb' hab
    rw [e1, e2, e3, e4]
    have := h.N a b ha hb' hab
    by_cases e : a = p
    · subst e
      obtain ⟨h1, h2, h3⟩ := np b hb' (fun e => hab e.symm)
      rw [upd_same, d2, if_neg (fun e => hab e.symm), if_neg (fun e => hab e.symm), if_pos rfl, if_neg (by omega)]
      omega
    · rw [upd_ne e, ← this, if_neg e]
      by_cases e' : b = p
      · subst e'; rw [if_pos rfl, if_pos rfl]; omega
      · rw [if_neg e', if_neg e', Nat.add_zero]
  · intro q hq z' hz'
    by_cases e : q = p
    · subst e; rw [upd_same, d5] at hz'; cases hz'
    · rw [upd_ne e] at hz'
      obtain ⟨a, h1, h2, h3, h4, h5⟩ := h.lr q hq z' hz'
      by_cases e' : a = p
      · exfalso
        subst e'
        have h9 : 0 < lt f q a := List.count_pos_iff.2 (by rw [← h1]; exact hz')
        have := (np q hq e).2.2
        omega
      · exact ⟨a, h1, h2, h3, by rw [upd_ne e]; exact h4, by rw [bef, upd_ne e, upd_ne e']; exact h5⟩
  · intro a b ha hb' hab h0 hr
    rw [e1] at hr
    by_cases e : a = p
    · subst e; rw [upd_same, d2] at h0; omega
    · rw [upd_ne e] at h0 ⊢
      have := h.st a b ha hb' hab h0 hr
      by_cases e' : b = p
      · subst e'; rw [upd_same, d1]; exact this
      · rw [upd_ne e']; exact this
  · intro a b ha hb' hab hs h0
    by_cases e : b = p
    · subst e; rw [upd_same, d2] at h0; omega
    · rw [upd_ne e] at h0
      rw [e2, e4, if_neg e] at hs
      by_cases e' : a = p
      · subst e'
        rw [if_pos rfl] at hs
        have := (np b hb' e).2.1
        omega
      · rw [if_neg e'] at hs
        rw [bef, upd_ne e, upd_ne e']
        exact h.gr a b ha hb' hab (by omega) h0
  · intro q hq
    by_cases e : q = p
    · subst e; rw [upd_same, d3]
      exact ⟨by omega, fun r hr => by rw [b0] at hr; cases hr⟩
    · rw [upd_ne e]; exact h.y q hq
  · intro q hq
    by_cases e : q = p
    · subst e; rw [upd_same, d4, d2]
      exact ⟨fun h => (by cases h), fun h => (by omega)⟩
    · rw [upd_ne e]; exact h.i q hq
end Go.Proofs.Ytbcdpeogfghgcaa
