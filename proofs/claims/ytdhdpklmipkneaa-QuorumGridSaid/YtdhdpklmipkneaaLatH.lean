/- Sets of at most sixteen things as bits, lists of sets, and maps kept as lists. No condition but those named. -/
import Derived.Test.YtdhdpklmipkneaaUtil
namespace Go.Proofs.Ytdhdpklmipkneaa
open Go.Ex
set_option maxRecDepth 100000
/-! maps kept as lists -/
theorem posOf_none {α β : Type} {f : α → α → Bool} {a : α} : ∀ {l : List (α × β)} {i : Nat}, (∀ p ∈ l, f a p.1 = false) → posOf f a l i = none
  | [], _, _ => rfl
  | (x, y) :: l, i, h => by
    have h1 := h (x, y) (by simp)
    simp only [posOf, h1]
    exact posOf_none (fun p hp => h p (by simp [hp]))
theorem mget_some {α β : Type} {f : α → α → Bool} {a : α} : ∀ {l : List (α × β)} {i : Nat}, (posOf f a l i).isSome = l.any (fun p => f a p.1)
  | [], _ => rfl
  | (x, y) :: l, i => by
    simp only [posOf, List.any_cons]
    cases h : f a x with
    | true => rfl
    | false => simp only [Bool.false_or]; exact mget_some
theorem mget_isSome {α β : Type} {f : α → α → Bool} {a : α} {l : List (α × β)} : (mget f a l).isSome = l.any (fun p => f a p.1) := by
  rw [mget, Option.isSome_map]; exact mget_some
theorem mput_new {α β : Type} {f : α → α → Bool} {a : α} {y : β} {l : List (α × β)} (h : ∀ p ∈ l, f a p.1 = false) : mput f a y l = l ++ [(a, y)] := by
  rw [mput, posOf_none h]

/-! bits -/
abbrev B16 := BitVec 16
def bv (a : Int) : B16 := BitVec.ofInt 16 a
def orU (a b : Int) : Int := bOr .u16 a b
def andU (a b : Int) : Int := bAnd .u16 a b
def withinU (a b : Int) : Bool := decide (bAndNot .u16 a b = 0)
def inU (a : Int) : Prop := 0 ≤ a ∧ a < 65536
theorem inK_u16 {n : Int} : inK .u16 n ↔ inU n := by
  unfold inK inU
  simp only [IntKind.min, IntKind.max, IntKind.signed, IntKind.bits]
  simp
  omega
theorem wrapU {n : Nat} (h : n < 65536) : IntKind.wrap .u16 (n : Int) = n := wrap_same (inK_u16.2 ⟨by omega, by omega⟩)
theorem bv_toNat (v : B16) : bv (v.toNat : Int) = v := by
  unfold bv
  apply BitVec.eq_of_toNat_eq
  rw [BitVec.toNat_ofInt]
  have := v.isLt
  simp
  omega
theorem toNat_bv {a : Int} (h : inU a) : ((bv a).toNat : Int) = a := by
  unfold bv
  rw [BitVec.toNat_ofInt]
  obtain ⟨h0, h1⟩ := h
  omega
theorem bv_inj {a b : Int} (ha : inU a) (hb : inU b) (h : bv a = bv b) : a = b := by rw [← toNat_bv ha, ← toNat_bv hb, h]
theorem orU_eq (a b : Int) : orU a b = ((bv a ||| bv b).toNat : Int) := wrapU (bv a ||| bv b).isLt
theorem andU_eq (a b : Int) : andU a b = ((bv a &&& bv b).toNat : Int) := wrapU (bv a &&& bv b).isLt
theorem andNotU_eq (a b : Int) : bAndNot .u16 a b = ((bv a &&& ~~~ bv b).toNat : Int) := wrapU (bv a &&& ~~~ bv b).isLt
theorem bv_or (a b : Int) : bv (orU a b) = bv a ||| bv b := by rw [orU_eq, bv_toNat]
theorem bv_and (a b : Int) : bv (andU a b) = bv a &&& bv b := by rw [andU_eq, bv_toNat]
theorem nat_in (v : B16) : inU (v.toNat : Int) := by have := v.isLt; exact ⟨by omega, by omega⟩
theorem orU_in (a b : Int) : inU (orU a b) := by rw [orU_eq]; exact nat_in _
theorem andU_in (a b : Int) : inU (andU a b) := by rw [andU_eq]; exact nat_in _
/-- the i-th thing is in the set -/
def hasB (a : Int) (i : Nat) : Bool := (bv a).getLsbD i
theorem bits_eq {a b : Int} (ha : inU a) (hb : inU b) (h : ∀ i, hasB a i = hasB b i) : a = b := bv_inj ha hb (BitVec.eq_of_getLsbD_eq (fun i _ => h i))
theorem has_or (a b : Int) (i : Nat) : hasB (orU a b) i = (hasB a i || hasB b i) := by unfold hasB; rw [bv_or, BitVec.getLsbD_or]
theorem has_and (a b : Int) (i : Nat) : hasB (andU a b) i = (hasB a i && hasB b i) := by unfold hasB; rw [bv_and, BitVec.getLsbD_and]
theorem has_zero (i : Nat) : hasB 0 i = false := by
  unfold hasB
  rw [show bv 0 = 0#16 from rfl, BitVec.getLsbD_zero]
theorem andNot_zero {a b : Int} : bAndNot .u16 a b = 0 ↔ ∀ i, hasB a i = true → hasB b i = true := by
  rw [andNotU_eq]
  constructor
  · intro h i hi
    have hz : bv a &&& ~~~ bv b = 0#16 := by
      apply BitVec.eq_of_toNat_eq
      rw [show (0#16).toNat = 0 from rfl]; omega
    have := congrArg (fun v : B16 => v.getLsbD i) hz
    simp only [BitVec.getLsbD_and, BitVec.getLsbD_not, BitVec.getLsbD_zero] at this
    unfold hasB at hi ⊢
    have hlt := BitVec.lt_of_getLsbD hi
    rw [hi] at this
    simp only [Bool.true_and, hlt, decide_true, Bool.not_eq_false'] at this
    exact this
  · intro h
    have : bv a &&& ~~~ bv b = 0#16 := by
      apply BitVec.eq_of_getLsbD_eq
      intro i hi
      simp only [BitVec.getLsbD_and, BitVec.getLsbD_not, BitVec.getLsbD_zero, hi, decide_true, Bool.true_and]
      have := h i
      unfold hasB at this
      cases e : (bv a).getLsbD i with
      | false => rfl
      | true => rw [this e]; rfl
    rw [this]; rfl
theorem within_iff {a b : Int} : withinU a b = true ↔ ∀ i, hasB a i = true → hasB b i = true := by
  rw [withinU, decide_eq_true_eq]; exact andNot_zero
theorem within_le {a b : Int} (ha : inU a) (hb : inU b) (h : withinU a b = true) : a ≤ b := by
  have h := within_iff.1 h
  have e : bv a &&& bv b = bv a := by
    apply BitVec.eq_of_getLsbD_eq
    intro i _
    rw [BitVec.getLsbD_and]
    have := h i
    unfold hasB at this
    cases e : (bv a).getLsbD i with
    | false => rfl
    | true => rw [this e]; rfl
  have h1 : (bv a &&& bv b).toNat ≤ (bv b).toNat := by rw [BitVec.toNat_and]; exact Nat.and_le_right
  rw [e] at h1
  have := toNat_bv ha
  have := toNat_bv hb
  omega
theorem within_refl (a : Int) : withinU a a = true := within_iff.2 (fun _ h => h)
theorem within_trans {a b c : Int} (h1 : withinU a b = true) (h2 : withinU b c = true) : withinU a c = true := within_iff.2 (fun i h => within_iff.1 h2 i (within_iff.1 h1 i h))
theorem within_zero (a : Int) : withinU 0 a = true := within_iff.2 (fun i h => by rw [has_zero] at h; cases h)
theorem within_antisymm {a b : Int} (ha : inU a) (hb : inU b) (h1 : withinU a b = true) (h2 : withinU b a = true) : a = b := by
  have := within_le ha hb h1
  have := within_le hb ha h2
  omega
/-- what some sets of a list have together -/
def unionL (f : Int → Bool) (l : List Int) : Int := l.foldl (fun u t => if f t = true then orU u t else u) 0
theorem foldl_has {f : Int → Bool} {i : Nat} : ∀ {l : List Int} {u : Int}, hasB (l.foldl (fun u t => if f t = true then orU u t else u) u) i = (hasB u i || l.any (fun t => f t && hasB t i))
  | [], u => by simp
  | t :: l, u => by
    rw [List.foldl_cons, foldl_has (l := l), List.any_cons]
    cases h : f t with
    | false => simp
    | true => simp only [if_true, has_or, Bool.true_and, Bool.or_assoc]
theorem union_has {f : Int → Bool} {l : List Int} {i : Nat} : hasB (unionL f l) i = true ↔ ∃ t ∈ l, f t = true ∧ hasB t i = true := by
  rw [unionL, foldl_has, has_zero, Bool.false_or, List.any_eq_true]
  simp only [Bool.and_eq_true]
theorem foldl_in {f : Int → Bool} : ∀ {l : List Int} {u : Int}, inU u → inU (l.foldl (fun u t => if f t = true then orU u t else u) u)
  | [], u, h => h
  | t :: l, u, h => by
    rw [List.foldl_cons]
    refine foldl_in ?_
    split
    · exact orU_in _ _
    · exact h
theorem union_in {f : Int → Bool} {l : List Int} : inU (unionL f l) := foldl_in ⟨by omega, by omega⟩
theorem union_snoc {f : Int → Bool} {l : List Int} {t : Int} : unionL f (l ++ [t]) = if f t = true then orU (unionL f l) t else unionL f l := by rw [unionL, List.foldl_append]; rfl

/-! a lattice of sets -/
structure LatOk (l : List Int) : Prop where
  pos : 1 ≤ l.length
  le : l.length ≤ 300
  rng : ∀ x ∈ l, inU x
  zero : l.getD 0 0 = 0
  up : ∀ i j, i < j → j < l.length → l.getD i 0 < l.getD j 0
  or : ∀ a ∈ l, ∀ b ∈ l, orU a b ∈ l
  and : ∀ a ∈ l, ∀ b ∈ l, andU a b ∈ l
def befU : Option Int → Int → Bool
  | some q, s => decide (s ≤ q)
  | none, _ => false
def lscan (p : Option Int) : List Int → Int
  | [] => 0
  | s :: l => if s / 4096 ≠ 0 then 1 else if befU p s = true then 4 else lscan (some s) l
def closedL (l : List Int) : Bool := l.all fun a => l.all fun b => decide (orU a b ∈ l) && decide (andU a b ∈ l)
def lcheck (l : List Int) : Int :=
  if l.length < 1 ∨ 4096 < l.length then 2 else if l.getD 0 0 ≠ 0 then 4 else if lscan none l ≠ 0 then lscan none l else if 300 < l.length then 2 else if closedL l = true then 0 else 4
theorem lscan_up : ∀ {l : List Int} {p : Option Int}, lscan p l = 0 → (∀ q, p = some q → ∀ i, i < l.length → q < l.getD i 0) ∧ ∀ i j, i < j → j < l.length → l.getD i 0 < l.getD j 0
  | [], p, _ => ⟨fun _ _ i h => by simp at h, fun i j _ h => by simp at h⟩
  | s :: l, p, h => by
    rw [lscan] at h
    split at h
    · cases h
    · split at h
      · cases h
      · rename_i _ h2
        obtain ⟨k1, k2⟩ := lscan_up h
        have k1 := k1 s rfl
        refine ⟨?_, ?_⟩
        · rintro q rfl i hi
          have hq : q < s := by simpa [befU] using h2
          cases i with
          | zero => exact hq
          | succ i => have := k1 i (by simpa using hi); show q < l.getD i 0; omega
        · intro i j hij hj
          cases j with
          | zero => omega
          | succ j =>
            have hj' : j < l.length := by simpa using hj
            cases i with
            | zero => exact k1 j hj'
            | succ i => exact k2 i j (by omega) hj'
theorem lcheck_ok {l : List Int} (hr : ∀ x ∈ l, inU x) (h : lcheck l = 0) : LatOk l := by
  unfold lcheck at h
  split at h
  · cases h
  split at h
  · cases h
  split at h
  · contradiction
  split at h
  · cases h
  split at h
  · rename_i h1 h2 h3 h4 h5
    rw [closedL, List.all_eq_true] at h5
    have h6 : ∀ a ∈ l, ∀ b ∈ l, orU a b ∈ l ∧ andU a b ∈ l := fun a ha b hb => by
      have := List.all_eq_true.1 (h5 a ha) b hb
      simpa using this
    exact ⟨by omega, by omega, hr, by omega, (lscan_up (Decidable.not_not.1 h3)).2, fun a ha b hb => (h6 a ha b hb).1, fun a ha b hb => (h6 a ha b hb).2⟩
  · cases h
theorem up_nodup {l : List Int} (h : ∀ i j, i < j → j < l.length → l.getD i 0 < l.getD j 0) : l.Nodup := by
  refine List.pairwise_iff_getElem.2 (fun i j hi hj hij => ?_)
  have := h i j hij hj
  rw [List.getD_eq_getElem?_getD, List.getD_eq_getElem?_getD, List.getElem?_eq_getElem hi, List.getElem?_eq_getElem hj] at this
  simp only [Option.getD_some] at this
  omega
/-- the union of the firm sets within a set is the set -/
def unionB (l : List Int) (s : Int) : Int := unionL (fun t => decide (t ≠ s) && withinU t s) l
def firmL (l : List Int) : List Int := l.filter (fun s => decide (unionB l s ≠ s))
theorem firm_all {l : List Int} (hr : ∀ x ∈ l, inU x) : ∀ n : Nat, ∀ s ∈ l, s.toNat < n → unionL (fun t => withinU t s) (firmL l) = s
  | 0, _, _, h => by omega
  | n + 1, s, hs, hn => by
    have hsu := hr s hs
    refine bits_eq union_in hsu (fun i => ?_)
    have sub : ∀ t ∈ l, withinU t s = true → t ≠ s → hasB t i = true → ∃ u ∈ firmL l, withinU u s = true ∧ hasB u i = true := by
      intro t ht hw hne hb
      have hlt : t < s := by have := within_le (hr t ht) hsu hw; omega
      have h0 := (hr t ht).1
      have ih := firm_all hr n t ht (by omega)
      rw [← ih, union_has] at hb
      obtain ⟨u, hu, h1, h2⟩ := hb
      exact ⟨u, hu, within_trans h1 hw, h2⟩
    cases hb : hasB s i with
    | true =>
      rw [union_has]
      by_cases hf : unionB l s = s
      · have : hasB (unionB l s) i = true := by rw [hf]; exact hb
        rw [unionB, union_has] at this
        obtain ⟨t, ht, h1, h2⟩ := this
        simp only [Bool.and_eq_true, decide_eq_true_eq] at h1
        exact sub t ht h1.2 h1.1 h2
      · exact ⟨s, List.mem_filter.2 ⟨hs, decide_eq_true hf⟩, within_refl s, hb⟩
    | false =>
      cases hu : hasB (unionL (fun t => withinU t s) (firmL l)) i with
      | false => rfl
      | true =>
        rw [union_has] at hu
        obtain ⟨u, hu, h1, h2⟩ := hu
        rw [within_iff.1 h1 i h2] at hb
        cases hb

end Go.Proofs.Ytdhdpklmipkneaa
