/- Quorum systems: duality, votes: the plain laws. No condition but those named. -/
import Derived.Test.YtdhdpklmipkneaaQB
namespace Go.Proofs.Ytdhdpklmipkneaa
open Go.Ex Go.Sort
set_option maxRecDepth 100000
/-- s has something of each -/
def meetsQ (s : Int) (l : List Int) : Bool := !l.any (fun t => decide (bAnd .u16 s t = 0))
theorem and_zero {a b : Int} : bAnd .u16 a b = 0 ↔ ∀ i, hasB a i = true → hasB b i = false := by
  have e : bAnd .u16 a b = andU a b := rfl
  constructor
  · intro h i ha
    have := has_and a b i
    rw [← e, h, has_zero, ha, Bool.true_and] at this
    exact this.symm
  · intro h
    refine bits_eq (andU_in a b) ⟨by omega, by omega⟩ (fun i => ?_)
    rw [e, has_and, has_zero]
    cases ha : hasB a i with
    | false => rfl
    | true => rw [h i ha]; rfl
theorem meetsQ_iff {s : Int} {l : List Int} : meetsQ s l = true ↔ ∀ t ∈ l, ∃ i, hasB s i = true ∧ hasB t i = true := by
  rw [meetsQ, Bool.not_eq_true', List.any_eq_false]
  constructor
  · intro h t ht
    refine Classical.byContradiction (fun hn => h t ht (decide_eq_true (and_zero.2 (fun i hi => ?_))))
    cases e : hasB t i with
    | false => rfl
    | true => exact absurd ⟨i, hi, e⟩ hn
  · intro h t ht hd
    obtain ⟨i, h1, h2⟩ := h t ht
    rw [and_zero.1 (of_decide_eq_true hd) i h1] at h2; cases h2
theorem meetsQ_mono {a b : Int} {l : List Int} (h : withinU a b = true) (hm : meetsQ a l = true) : meetsQ b l = true :=
  meetsQ_iff.2 (fun t ht => by obtain ⟨i, h1, h2⟩ := meetsQ_iff.1 hm t ht; exact ⟨i, within_iff.1 h i h1, h2⟩)
theorem hasQ_mono {a b : Int} {l : List Int} (h : withinU a b = true) (hm : hasQ l a = true) : hasQ l b = true := by
  obtain ⟨t, ht, hw⟩ := hasQ_iff.1 hm
  exact hasQ_iff.2 ⟨t, ht, within_trans hw h⟩
def dualF (n : Nat) (l : List Int) : List Int := minF n (fun s => meetsQ s l)
theorem dual_has {n : Nat} (hn : n ≤ 10) {l : List Int} {y : Int} (hy : 0 ≤ y ∧ y < 2 ^ n) : hasQ (dualF n l) y = meetsQ y l := by
  have : hasQ (dualF n l) y = true ↔ meetsQ y l = true := by
    constructor
    · intro h
      obtain ⟨t, ht, hw⟩ := hasQ_iff.1 h
      exact meetsQ_mono hw (min_mem hn ht).2
    · intro h
      exact min_cov hn hy h
  cases e : meetsQ y l with
  | true => exact this.2 e
  | false =>
    cases e2 : hasQ (dualF n l) y with
    | false => rfl
    | true => rw [this.1 e2] at e; cases e
/-- y is what x lacks -/
structure Lacks (n : Nat) (x y : Int) : Prop where
  xr : 0 ≤ x ∧ x < 2 ^ n
  yr : 0 ≤ y ∧ y < 2 ^ n
  is : ∀ i, i < n → hasB y i = !hasB x i
theorem has_lt {n : Nat} (hn : n ≤ 10) {s : Int} (hs : 0 ≤ s ∧ s < 2 ^ n) {i : Nat} (h : hasB s i = true) : i < n := by
  have hp := pow_le hn
  have hin : inU s := ⟨by omega, by omega⟩
  rw [has_nat hin] at h
  refine Nat.lt_of_not_le (fun hle => ?_)
  have e : ((2 ^ n : Nat) : Int) = 2 ^ n := by push_cast; rfl
  rw [Nat.testBit_lt_two_pow (Nat.lt_of_lt_of_le (show s.toNat < 2 ^ n by omega) (Nat.pow_le_pow_right (by omega) hle))] at h
  cases h
theorem lacks_meets {n : Nat} (hn : n ≤ 10) {l : List Int} (hl : ∀ s ∈ l, 0 ≤ s ∧ s < 2 ^ n) {x y : Int} (h : Lacks n x y) : meetsQ y l = !hasQ l x := by
  have : meetsQ y l = true ↔ ¬ hasQ l x = true := by
    rw [meetsQ_iff, hasQ_iff]
    constructor
    · rintro h1 ⟨t, ht, hw⟩
      obtain ⟨i, h2, h3⟩ := h1 t ht
      have h4 := within_iff.1 hw i h3
      rw [h.is i (has_lt hn (hl t ht) h3), h4] at h2; cases h2
    · intro h1 t ht
      refine Classical.byContradiction (fun h2 => h1 ⟨t, ht, within_iff.2 (fun i hi => ?_)⟩)
      cases e : hasB x i with
      | true => rfl
      | false => exact absurd ⟨i, by rw [h.is i (has_lt hn (hl t ht) hi), e]; rfl, hi⟩ h2
  cases e : hasQ l x with
  | true =>
    cases e2 : meetsQ y l with
    | false => rfl
    | true => exact absurd e (this.1 e2)
  | false => rw [this.2 (by rw [e]; simp)]; rfl
theorem lacks_of {n : Nat} (hn : n ≤ 10) {s m : Int} (hs : inU s) (hm : m = 2 ^ n - 1) : Lacks n (andU s m) (andU (65535 - s) m) := by
  have hp := pow_le hn
  have h1 : (1 : Int) ≤ 2 ^ n := Int.pow_pos (by omega)
  have hmi : inU m := ⟨by omega, by omega⟩
  have e : ((2 ^ n : Nat) : Int) = 2 ^ n := by push_cast; rfl
  have hmn : m.toNat = 2 ^ n - 1 := by omega
  have hb : ∀ i, hasB m i = decide (i < n) := fun i => by rw [has_nat hmi, hmn, Nat.testBit_two_pow_sub_one]
  have hr : ∀ a, 0 ≤ andU a m ∧ andU a m < 2 ^ n := fun a => by
    have := andU_in a m
    have h2 : withinU (andU a m) m = true := within_iff.2 (fun i hi => by rw [has_and, Bool.and_eq_true] at hi; exact hi.2)
    have := within_le (andU_in a m) hmi h2
    unfold inU at *
    omega
  refine ⟨hr s, hr _, fun i hi => ?_⟩
  rw [has_and, has_and, hb, decide_eq_true hi, Bool.and_true, Bool.and_true]
  have hsn : inU (65535 - s) := by unfold inU at *; omega
  rw [has_nat hs, has_nat hsn]
  have h3 : (65535 - s).toNat = 2 ^ 16 - (s.toNat + 1) := by unfold inU at *; omega
  rw [h3, Nat.testBit_two_pow_sub_succ (by unfold inU at hs; omega)]
  simp; omega
theorem dual_back {n : Nat} {l : List Int} (h : QOk n l) : dualF n (dualF n l) = l := by
  have hn := h.n1.2
  have hd := min_ok h.n1 (fun s => meetsQ s l)
  have key : ∀ y, 0 ≤ y ∧ y < 2 ^ n → meetsQ y (dualF n l) = hasQ l y := by
    intro y hy
    have hp := pow_le hn
    have hyi : inU y := ⟨by omega, by omega⟩
    have hL := lacks_of hn hyi rfl
    have e1 : (65535 - (65535 - y)) = y := by omega
    have hL2 := lacks_of hn (s := 65535 - y) (by unfold inU at *; omega) rfl
    rw [e1] at hL2
    have ey : andU y (2 ^ n - 1) = y := by
      refine bits_eq (andU_in _ _) hyi (fun i => ?_)
      have h1 : (1 : Int) ≤ 2 ^ n := Int.pow_pos (by omega)
      have hmi : inU (2 ^ n - 1) := ⟨by omega, by omega⟩
      have e : ((2 ^ n : Nat) : Int) = 2 ^ n := by push_cast; rfl
      have hmn : ((2 : Int) ^ n - 1).toNat = 2 ^ n - 1 := by omega
      rw [has_and, has_nat hmi, hmn, Nat.testBit_two_pow_sub_one]
      cases e2 : hasB y i with
      | false => rfl
      | true => rw [decide_eq_true (has_lt hn hy e2)]; rfl
    rw [ey] at hL hL2
    rw [lacks_meets (l := dualF n l) hn hd.rng hL2, dual_has hn hL.yr, lacks_meets hn h.rng hL, Bool.not_not]
  refine QOk.eq (min_ok h.n1 _) h (fun s => ⟨fun hs => ?_, fun hs => ?_⟩)
  · have h1 := min_mem hn hs
    have h2 : meetsQ s (dualF n l) = true := h1.2
    rw [key s h1.1] at h2
    obtain ⟨t, ht, hw⟩ := hasQ_iff.1 h2
    have h3 : hasQ (dualF n (dualF n l)) t = true := min_cov hn (h.rng t ht) (by
      show meetsQ t (dualF n l) = true
      rw [key t (h.rng t ht)]; exact hasQ_iff.2 ⟨t, ht, within_refl t⟩)
    obtain ⟨b, hb, hw2⟩ := hasQ_iff.1 h3
    have h4 := (min_ok h.n1 _).anti b hb s hs (within_trans hw2 hw)
    subst h4
    have := within_antisymm ((min_ok h.n1 _).inU hb) (h.inU ht) hw2 hw
    rw [this]; exact ht
  · have h3 : hasQ (dualF n (dualF n l)) s = true := min_cov hn (h.rng s hs) (by
      show meetsQ s (dualF n l) = true
      rw [key s (h.rng s hs)]; exact hasQ_iff.2 ⟨s, hs, within_refl s⟩)
    obtain ⟨b, hb, hw2⟩ := hasQ_iff.1 h3
    have h1 := min_mem hn hb
    have h2 : meetsQ b (dualF n l) = true := h1.2
    rw [key b h1.1] at h2
    obtain ⟨t, ht, hw⟩ := hasQ_iff.1 h2
    have h4 := h.anti t ht s hs (within_trans hw hw2)
    subst h4
    have := within_antisymm ((min_ok h.n1 _).inU hb) (h.inU ht) hw2 hw
    rw [← this]; exact hb
/-- the votes of those in a set -/
def wsum (v : List Int) (s : Int) : Nat → Int
  | 0 => 0
  | k + 1 => wsum v s k + (if hasB s k = true then v.getD k 0 else 0)
theorem wsum_mono {v : List Int} (hv : ∀ x ∈ v, 0 ≤ x) {a b : Int} (h : withinU a b = true) : ∀ k, k ≤ v.length → wsum v a k ≤ wsum v b k
  | 0, _ => Int.le_refl _
  | k + 1, hk => by
    have ih := wsum_mono hv h k (by omega)
    have h0 := hv _ (getD_mem (d := 0) (show k < v.length by omega))
    rw [wsum, wsum]
    have := within_iff.1 h k
    split
    · rename_i h1; rw [if_pos (this h1)]; omega
    · split <;> omega
theorem wsum_congr {v : List Int} {a b : Int} : ∀ k, (∀ i, i < k → hasB a i = hasB b i) → wsum v a k = wsum v b k
  | 0, _ => rfl
  | k + 1, h => by rw [wsum, wsum, wsum_congr k (fun i hi => h i (by omega)), h k (by omega)]
theorem wsum_apart {v : List Int} (hv : ∀ x ∈ v, 0 ≤ x) {a b : Int} (h : ∀ i, hasB a i = true → hasB b i = false) : ∀ k, k ≤ v.length → wsum v a k + wsum v b k ≤ sumN (fun i => v.getD i 0) k
  | 0, _ => by simp [wsum, sumN]
  | k + 1, hk => by
    have ih := wsum_apart hv h k (by omega)
    have h0 := hv _ (getD_mem (d := 0) (show k < v.length by omega))
    have h1 := h k
    rw [wsum, wsum, sumN]
    by_cases e : hasB a k = true
    · rw [if_pos e, if_neg (by rw [h1 e]; simp)]; omega
    · rw [if_neg e]; split <;> omega
theorem wsum_nonneg {v : List Int} (hv : ∀ x ∈ v, 0 ≤ x) {a : Int} : ∀ k, k ≤ v.length → 0 ≤ wsum v a k
  | 0, _ => by simp [wsum]
  | k + 1, hk => by
    have ih := wsum_nonneg hv (a := a) k (by omega)
    have h0 := hv _ (getD_mem (d := 0) (show k < v.length by omega))
    rw [wsum]; split <;> omega
theorem wsum_le {v : List Int} (hv : ∀ x ∈ v, 0 ≤ x ∧ x ≤ 16777215) {a : Int} : ∀ k, k ≤ v.length → wsum v a k ≤ 16777215 * k
  | 0, _ => by simp [wsum]
  | k + 1, hk => by
    have ih := wsum_le hv (a := a) k (by omega)
    have h0 := hv _ (getD_mem (d := 0) (show k < v.length by omega))
    rw [wsum]; split <;> omega
def votesF (v : List Int) (need : Int) : List Int := minF v.length (fun s => decide (need ≤ wsum v s v.length))
theorem mask_has {n : Nat} (hn : n ≤ 10) {s : Int} {i : Nat} : hasB (andU s (2 ^ n - 1)) i = (hasB s i && decide (i < n)) := by
  have hp := pow_le hn
  have h1 : (1 : Int) ≤ 2 ^ n := Int.pow_pos (by omega)
  have hmi : inU (2 ^ n - 1) := ⟨by omega, by omega⟩
  have e : ((2 ^ n : Nat) : Int) = 2 ^ n := by push_cast; rfl
  have hmn : ((2 : Int) ^ n - 1).toNat = 2 ^ n - 1 := by omega
  rw [has_and, has_nat hmi, hmn, Nat.testBit_two_pow_sub_one]
theorem votes_has {v : List Int} {need : Int} (hn : v.length ≤ 10) (hv : ∀ x ∈ v, 0 ≤ x) {s : Int} (hs : inU s) : hasQ (votesF v need) s = decide (need ≤ wsum v s v.length) := by
  have key : hasQ (votesF v need) s = true ↔ need ≤ wsum v s v.length := by
    constructor
    · intro h
      obtain ⟨t, ht, hw⟩ := hasQ_iff.1 h
      have h1 := of_decide_eq_true (min_mem hn ht).2
      have h2 := wsum_mono hv hw v.length (Nat.le_refl _)
      omega
    · intro h
      have hL := lacks_of hn hs rfl
      have hw : withinU (andU s (2 ^ v.length - 1)) s = true := within_iff.2 (fun i hi => by rw [has_and, Bool.and_eq_true] at hi; exact hi.1)
      refine hasQ_mono hw (min_cov hn hL.xr (decide_eq_true ?_))
      rw [wsum_congr (b := s) v.length (fun i hi => by rw [mask_has hn, decide_eq_true hi, Bool.and_true])]
      exact h
  cases e : hasQ (votesF v need) s with
  | true => rw [decide_eq_true (key.1 e)]
  | false => rw [decide_eq_false (fun h => by rw [key.2 h] at e; cases e)]
theorem votes_meet {v : List Int} {need : Int} (hn : v.length ≤ 10) (hv : ∀ x ∈ v, 0 ≤ x) (h2 : sumN (fun i => v.getD i 0) v.length < 2 * need) {s : Int} (hs : s ∈ votesF v need) : meetsQ s (votesF v need) = true := by
  refine meetsQ_iff.2 (fun t ht => Classical.byContradiction (fun hno => ?_))
  have h3 := of_decide_eq_true (min_mem hn hs).2
  have h4 := of_decide_eq_true (min_mem hn ht).2
  have := wsum_apart hv (a := s) (b := t) (fun i hi => by
    cases e : hasB t i with
    | false => rfl
    | true => exact absurd ⟨i, hi, e⟩ hno) v.length (Nat.le_refl _)
  omega
end Go.Proofs.Ytdhdpklmipkneaa
