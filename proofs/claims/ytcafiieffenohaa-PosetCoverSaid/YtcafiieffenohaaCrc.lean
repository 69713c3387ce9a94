/- The checksum, in plain words: it is linear, and what turned bits do to it. -/
import Derived.Test.YtcafiieffenohaaUtil
namespace Go.Proofs.Ytcafiieffenohaa

def step (r : Nat) : Nat := if r % 2 = 1 then (r / 2) ^^^ 2197175160 else r / 2
theorem step_bit (r i : Nat) : (step r).testBit i = (r.testBit (i + 1) ^^ (r.testBit 0 && Nat.testBit 2197175160 i)) := by
  unfold step
  rw [Nat.testBit_zero, Nat.testBit_succ]
  split
  · rename_i h; rw [Nat.testBit_xor]; simp [h]
  · rename_i h; simp [h]
theorem step_xor (a b : Nat) : step (a ^^^ b) = step a ^^^ step b := Nat.eq_of_testBit_eq (fun i => by
  simp only [step_bit, Nat.testBit_xor]
  cases a.testBit (i + 1) <;> cases b.testBit (i + 1) <;> cases a.testBit 0 <;> cases b.testBit 0 <;> cases Nat.testBit 2197175160 i <;> rfl)
theorem step_double (x : Nat) : step (x * 2) = x := by
  unfold step
  rw [if_neg (by omega)]; omega
theorem step_lt {r : Nat} (h : r < 4294967296) : step r < 4294967296 := by
  unfold step
  split
  · exact Nat.xor_lt_two_pow (n := 32) (by omega) (by decide)
  · omega
theorem step_inj {r : Nat} (h : r < 4294967296) (h0 : step r = 0) : r = 0 := by
  by_cases hr : r % 2 = 1
  · have h1 := step_bit r 31
    rw [h0, Nat.testBit_lt_two_pow (show r < 2 ^ (31 + 1) by omega), Nat.testBit_zero] at h1
    rw [decide_eq_true hr] at h1
    exact absurd h1 (by decide)
  · unfold step at h0
    rw [if_neg hr] at h0
    omega

def steps : Nat → Nat → Nat
  | 0, r => r
  | k + 1, r => steps k (step r)
theorem steps_xor : ∀ (k a b : Nat), steps k (a ^^^ b) = steps k a ^^^ steps k b
  | 0, _, _ => rfl
  | k + 1, a, b => by simp only [steps, step_xor]; exact steps_xor k _ _
theorem steps_zero : ∀ k : Nat, steps k 0 = 0
  | 0 => rfl
  | k + 1 => by simp only [steps]; exact steps_zero k
theorem steps_lt : ∀ (k : Nat) {r : Nat}, r < 4294967296 → steps k r < 4294967296
  | 0, _, h => h
  | k + 1, _, h => steps_lt k (step_lt h)
theorem steps_inj : ∀ (k : Nat) {r : Nat}, r < 4294967296 → steps k r = 0 → r = 0
  | 0, _, _, h => h
  | k + 1, _, h, h0 => step_inj h (steps_inj k (step_lt h) h0)
theorem steps_add : ∀ (a b r : Nat), steps (a + b) r = steps b (steps a r)
  | 0, b, r => by rw [Nat.zero_add]; rfl
  | a + 1, b, r => by rw [show a + 1 + b = (a + b) + 1 by omega]; simp only [steps]; exact steps_add a b _
theorem steps_pow : ∀ (k x : Nat), steps k (x * 2 ^ k) = x
  | 0, x => by simp [steps]
  | k + 1, x => by
    simp only [steps]
    rw [Nat.pow_succ, ← Nat.mul_assoc, step_double]; exact steps_pow k x

def byt (r b : Nat) : Nat := steps 8 (r ^^^ b)
def reg (r : Nat) (s : List UInt8) : Nat := s.foldl (fun r b => byt r b.toNat) r
def crcN (s : List UInt8) : Nat := reg 4294967295 s ^^^ 4294967295
theorem reg_cons (r : Nat) (b : UInt8) (s : List UInt8) : reg r (b :: s) = reg (byt r b.toNat) s := rfl
theorem reg_app (r : Nat) (s t : List UInt8) : reg r (s ++ t) = reg (reg r s) t := by simp [reg]
theorem byt_lt {r : Nat} (h : r < 4294967296) (b : UInt8) : byt r b.toNat < 4294967296 := steps_lt 8 (Nat.xor_lt_two_pow (n := 32) h (by have := b.toNat_lt; omega))
theorem reg_lt : ∀ {s : List UInt8} {r : Nat}, r < 4294967296 → reg r s < 4294967296
  | [], _, h => h
  | b :: s, r, h => show reg (byt r b.toNat) s < _ from reg_lt (byt_lt h b)
theorem crcN_lt (s : List UInt8) : crcN s < 4294967296 := Nat.xor_lt_two_pow (n := 32) (reg_lt (by decide)) (by decide)

theorem xor_swap (a b c : Nat) : a ^^^ b ^^^ c = a ^^^ c ^^^ b := by rw [Nat.xor_assoc, Nat.xor_comm b c, ← Nat.xor_assoc]

theorem reg_xor : ∀ {s : List UInt8} {x y : Nat}, reg (x ^^^ y) s = reg x s ^^^ steps (8 * s.length) y
  | [], _, _ => rfl
  | b :: s, x, y => by
    rw [reg_cons, reg_cons, show byt (x ^^^ y) b.toNat = byt x b.toNat ^^^ steps 8 y by simp only [byt]; rw [xor_swap, steps_xor], reg_xor, ← steps_add]
    rw [show 8 * (b :: s).length = 8 + 8 * s.length by simp; omega]

/-- a bit turned over -/
def flipB (s : List UInt8) (k : Nat) : List UInt8 := s.set (k / 8) (s.getD (k / 8) 0 ^^^ UInt8.ofNat (2 ^ (k % 8)))
theorem flipB_len (s : List UInt8) (k : Nat) : (flipB s k).length = s.length := by simp [flipB]
theorem bit8 {k : Nat} (h : k < 8) : (UInt8.ofNat (2 ^ k)).toNat = 2 ^ k := by
  match k, h with
  | 0, _ | 1, _ | 2, _ | 3, _ | 4, _ | 5, _ | 6, _ | 7, _ => rfl
theorem steps_one {k n : Nat} (h : k ≤ n) : steps n (2 ^ k) = steps (n - k) 1 := by
  rw [show n = k + (n - k) by omega, steps_add, show 2 ^ k = 1 * 2 ^ k by omega, steps_pow]
  congr 1; omega
theorem reg_flip : ∀ {s : List UInt8} {r k : Nat}, k < 8 * s.length → reg r (flipB s k) = reg r s ^^^ steps (8 * s.length - k) 1
  | [], _, _, h => by simp at h
  | b :: s, r, k, h => by
    simp only [List.length_cons] at h
    by_cases hk : k < 8
    · have e1 : k / 8 = 0 := by omega
      have e2 : k % 8 = k := by omega
      have e3 : flipB (b :: s) k = (b ^^^ UInt8.ofNat (2 ^ k)) :: s := by simp [flipB, e1, e2]
      rw [e3, reg_cons, reg_cons, UInt8.toNat_xor, bit8 hk, show byt r (b.toNat ^^^ 2 ^ k) = byt r b.toNat ^^^ steps 8 (2 ^ k) by simp only [byt]; rw [← Nat.xor_assoc, steps_xor], reg_xor, ← steps_add, steps_one (by omega)]
      congr 2; simp; omega
    · have e3 : flipB (b :: s) k = b :: flipB s (k - 8) := by
        have e1 : k / 8 = (k - 8) / 8 + 1 := by omega
        have e2 : k % 8 = (k - 8) % 8 := by omega
        simp [flipB, e1, e2]
      rw [e3, reg_cons, reg_cons, reg_flip (by omega)]
      congr 2; simp; omega

theorem flip_flip (s : List UInt8) (k : Nat) : flipB (flipB s k) k = s := by
  by_cases h : k / 8 < s.length
  · simp only [flipB, List.set_set]
    rw [List.getD_eq_getElem?_getD, List.getElem?_set_self h, Option.getD_some, UInt8.xor_assoc, UInt8.xor_self, UInt8.xor_zero, List.getD_eq_getElem?_getD, List.getElem?_eq_getElem h, Option.getD_some, List.set_getElem_self]
  · have : ∀ x : UInt8, s.set (k / 8) x = s := fun x => List.set_eq_of_length_le (by omega)
    simp only [flipB, this]

/-- four bytes, the lowest first -/
def le4 (x : Nat) : List UInt8 := [UInt8.ofNat x, UInt8.ofNat (x / 2 ^ 8), UInt8.ofNat (x / 2 ^ 16), UInt8.ofNat (x / 2 ^ 24)]
theorem reg_word (r : Nat) (a b c d : UInt8) : reg r [a, b, c, d] = steps 32 (r ^^^ (a.toNat ^^^ b.toNat * 2 ^ 8 ^^^ c.toNat * 2 ^ 16 ^^^ d.toNat * 2 ^ 24)) := by
  have e : ∀ n x : Nat, steps n (x * 2 ^ n) = x := steps_pow
  have h1 : byt r a.toNat = steps 8 (r ^^^ a.toNat) := rfl
  have h2 : byt (byt r a.toNat) b.toNat = steps 16 (r ^^^ a.toNat ^^^ b.toNat * 2 ^ 8) := by
    rw [h1, byt, show (16 : Nat) = 8 + 8 from rfl, steps_add, steps_xor 8 _ (b.toNat * 2 ^ 8), e]
  have h3 : byt (byt (byt r a.toNat) b.toNat) c.toNat = steps 24 (r ^^^ a.toNat ^^^ b.toNat * 2 ^ 8 ^^^ c.toNat * 2 ^ 16) := by
    rw [h2, byt, show (24 : Nat) = 16 + 8 from rfl, steps_add, steps_xor 16 _ (c.toNat * 2 ^ 16), e]
  have h4 : byt (byt (byt (byt r a.toNat) b.toNat) c.toNat) d.toNat = steps 32 (r ^^^ a.toNat ^^^ b.toNat * 2 ^ 8 ^^^ c.toNat * 2 ^ 16 ^^^ d.toNat * 2 ^ 24) := by
    rw [h3, byt, show (32 : Nat) = 24 + 8 from rfl, steps_add, steps_xor 24 _ (d.toNat * 2 ^ 24), e]
  show byt (byt (byt (byt r a.toNat) b.toNat) c.toNat) d.toNat = _
  rw [h4]; simp only [Nat.xor_assoc]

theorem le4_word {x : Nat} (h : x < 4294967296) : (UInt8.ofNat x).toNat ^^^ (UInt8.ofNat (x / 2 ^ 8)).toNat * 2 ^ 8 ^^^ (UInt8.ofNat (x / 2 ^ 16)).toNat * 2 ^ 16 ^^^ (UInt8.ofNat (x / 2 ^ 24)).toNat * 2 ^ 24 = x := by
  have e : ∀ y : Nat, (UInt8.ofNat y).toNat = y % 2 ^ 8 := fun y => by simp
  simp only [e]
  refine Nat.eq_of_testBit_eq (fun i => ?_)
  simp only [Nat.testBit_xor, Nat.testBit_mul_two_pow, Nat.testBit_mod_two_pow, Nat.testBit_div_two_pow]
  by_cases h1 : i < 8
  · simp [h1, show ¬ 8 ≤ i by omega, show ¬ 16 ≤ i by omega, show ¬ 24 ≤ i by omega]
  · by_cases h2 : i < 16
    · simp [h1, show 8 ≤ i by omega, show i - 8 < 8 by omega, show ¬ 16 ≤ i by omega, show ¬ 24 ≤ i by omega]
    · by_cases h3 : i < 24
      · simp [h1, show 8 ≤ i by omega, show ¬ i - 8 < 8 by omega, show 16 ≤ i by omega, show i - 16 < 8 by omega, show ¬ 24 ≤ i by omega]
      · by_cases h4 : i < 32
        · simp [h1, show ¬ i - 8 < 8 by omega, show ¬ i - 16 < 8 by omega, show 24 ≤ i by omega, show i - 24 < 8 by omega]
        · have : x.testBit i = false := Nat.testBit_lt_two_pow (Nat.lt_of_lt_of_le h (Nat.pow_le_pow_right (n := 2) (by omega) (show 32 ≤ i by omega)))
          simp [h1, show ¬ i - 8 < 8 by omega, show ¬ i - 16 < 8 by omega, show ¬ i - 24 < 8 by omega, this]

/-- what a text with its sum behind it leaves -/
theorem reg_valid (s : List UInt8) : reg 4294967295 (s ++ le4 (crcN s)) = steps 32 4294967295 := by
  rw [reg_app, le4, reg_word, le4_word (crcN_lt s), crcN, ← Nat.xor_assoc, Nat.xor_self, Nat.zero_xor]

/-! three texts -/
theorem reg_three : ∀ {a b c d : List UInt8} {x y z : Nat}, a.length = b.length → b.length = c.length → d.length = c.length → (∀ i, i < d.length → d.getD i 0 = a.getD i 0 ^^^ b.getD i 0 ^^^ c.getD i 0) →
    reg (x ^^^ y ^^^ z) d = reg x a ^^^ reg y b ^^^ reg z c
  | [], [], [], [], _, _, _, _, _, _, _ => rfl
  | p :: a, q :: b, r :: c, s :: d, x, y, z, h1, h2, h3, h4 => by
    have h0 : s = p ^^^ q ^^^ r := by simpa using h4 0 (by simp)
    rw [reg_cons, reg_cons, reg_cons, reg_cons, h0, UInt8.toNat_xor, UInt8.toNat_xor]
    have e : byt (x ^^^ y ^^^ z) (p.toNat ^^^ q.toNat ^^^ r.toNat) = byt x p.toNat ^^^ byt y q.toNat ^^^ byt z r.toNat := by
      simp only [byt, ← steps_xor]
      congr 1
      ac_rfl
    rw [e]
    exact reg_three (by simpa using h1) (by simpa using h2) (by simpa using h3) (fun i hi => by simpa using h4 (i + 1) (by simpa using hi))
  | [], _ :: _, _, _, _, _, _, h, _, _, _ => by simp at h
  | _ :: _, [], _, _, _, _, _, h, _, _, _ => by simp at h
  | _, [], _ :: _, _, _, _, _, _, h, _, _ => by simp at h
  | _, _ :: _, [], _, _, _, _, _, h, _, _ => by simp at h
  | _, _, [], _ :: _, _, _, _, _, _, h, _ => by simp at h
  | _, _, _ :: _, [], _, _, _, _, _, h, _ => by simp at h
theorem sum_three {a b c d : List UInt8} (h1 : a.length = b.length) (h2 : b.length = c.length) (h3 : d.length = c.length) (h4 : ∀ i, i < d.length → d.getD i 0 = a.getD i 0 ^^^ b.getD i 0 ^^^ c.getD i 0) : crcN d = crcN a ^^^ crcN b ^^^ crcN c := by
  have := reg_three (x := 4294967295) (y := 4294967295) (z := 4294967295) h1 h2 h3 h4
  rw [Nat.xor_self, Nat.zero_xor] at this
  simp only [crcN, this]
  have e : ∀ p q r f : Nat, p ^^^ q ^^^ r ^^^ f = (p ^^^ f) ^^^ (q ^^^ f) ^^^ (r ^^^ f) := by
    intro p q r f
    have : (p ^^^ f) ^^^ (q ^^^ f) ^^^ (r ^^^ f) = p ^^^ q ^^^ r ^^^ (f ^^^ (f ^^^ f)) := by ac_rfl
    rw [this, Nat.xor_self, Nat.xor_zero]
  exact e _ _ _ _

/-! how many ones, by two -/
def par : Nat → Nat → Bool
  | 0, _ => false
  | n + 1, r => r.testBit 0 ^^ par n (r / 2)
theorem par_xor : ∀ (n a b : Nat), par n (a ^^^ b) = (par n a ^^ par n b)
  | 0, _, _ => rfl
  | n + 1, a, b => by
    have e : (a ^^^ b) / 2 = a / 2 ^^^ b / 2 := Nat.eq_of_testBit_eq (fun i => by simp only [← Nat.testBit_succ, Nat.testBit_xor])
    simp only [par, Nat.testBit_xor, e, par_xor n]
    cases a.testBit 0 <;> cases b.testBit 0 <;> cases par n (a / 2) <;> cases par n (b / 2) <;> rfl
theorem par_last : ∀ (n r : Nat), par (n + 1) r = (par n r ^^ r.testBit n)
  | 0, r => by simp [par]
  | n + 1, r => by
    rw [par, par_last n, par, Nat.testBit_succ r n]
    cases r.testBit 0 <;> cases par n (r / 2) <;> cases (r / 2).testBit n <;> rfl
theorem par_step {r : Nat} (h : r < 4294967296) : par 32 (step r) = par 32 r := by
  have e : par 32 r = (r.testBit 0 ^^ par 32 (r / 2)) := by
    rw [par, par_last 31 (r / 2), Nat.testBit_lt_two_pow (show r / 2 < 2 ^ 31 by omega), Bool.xor_false]
  rw [e]
  unfold step
  rw [Nat.testBit_zero]
  split
  · rename_i hr
    rw [par_xor, decide_eq_true hr, Bool.xor_comm]
    rfl
  · rename_i hr
    rw [decide_eq_false hr, Bool.false_xor]
theorem par_steps : ∀ (k : Nat) {r : Nat}, r < 4294967296 → par 32 (steps k r) = par 32 r
  | 0, _, _ => rfl
  | k + 1, _, h => by rw [steps, par_steps k (step_lt h), par_step h]
theorem par_one (k : Nat) : par 32 (steps k 1) = true := by rw [par_steps k (by decide)]; decide

/-! the order -/
def notOne : Nat → Nat → Bool
  | 0, _ => true
  | n + 1, r => !(step r == 1) && notOne n (step r)
theorem notOne_spec : ∀ {n r : Nat}, notOne n r = true → ∀ d, d < n → steps (d + 1) r ≠ 1
  | 0, _, _, _, h => by omega
  | n + 1, r, h, d, hd => by
    simp only [notOne, Bool.and_eq_true, Bool.not_eq_true', beq_eq_false_iff_ne] at h
    cases d with
    | zero => exact h.1
    | succ d => exact notOne_spec h.2 d (by omega)
theorem order_big : notOne 1900 1 = true := by decide +kernel
theorem xor_eq_zero {a b : Nat} (h : a ^^^ b = 0) : a = b := by
  have : a ^^^ b ^^^ b = b := by rw [h, Nat.zero_xor]
  rwa [Nat.xor_assoc, Nat.xor_self, Nat.xor_zero] at this
theorem steps_ne {a b : Nat} (h : a < b) (hb : b ≤ 1900) : steps a 1 ≠ steps b 1 := by
  intro he
  rw [show b = (b - a) + a by omega, steps_add] at he
  have h0 : steps a (1 ^^^ steps (b - a) 1) = 0 := by rw [steps_xor, ← he, Nat.xor_self]
  have h1 := steps_inj a (Nat.xor_lt_two_pow (n := 32) (by decide) (steps_lt _ (by decide))) h0
  have h2 := xor_eq_zero h1
  have := notOne_spec order_big (b - a - 1) (by omega)
  rw [show b - a - 1 + 1 = b - a by omega] at this
  exact this h2.symm
end Go.Proofs.Ytcafiieffenohaa
