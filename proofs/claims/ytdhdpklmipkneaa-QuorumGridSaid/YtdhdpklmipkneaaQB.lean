/- Quorum systems: sets of at most ten voters, their order, the least of those that satisfy a condition: the plain laws. No condition but those named. -/
import Derived.Test.YtdhdpklmipkneaaLatH
import Derived.Test.YtdhdpklmipkneaaBitP
import Derived.Test.YtdhdpklmipkneaaQSp
import Derived.Test.YtdhdpklmipkneaaSortB
namespace Go.Proofs.Ytdhdpklmipkneaa
open Go.Ex Go.Sort
set_option maxRecDepth 100000
theorem bv_nat {a : Int} (h : inU a) : (bv a).toNat = a.toNat := by have := toNat_bv h; omega
theorem has_nat {a : Int} (h : inU a) (i : Nat) : hasB a i = a.toNat.testBit i := by
  rw [hasB, ← bv_nat h, BitVec.testBit_toNat]
theorem within_sub {a b : Int} (ha : inU a) (hb : inU b) : withinU a b = true ↔ subN a.toNat b.toNat := by
  rw [within_iff]
  exact ⟨fun h i => by rw [← has_nat ha, ← has_nat hb]; exact h i, fun h i => by rw [has_nat ha, has_nat hb]; exact h i⟩
/-- how many are in a set -/
def pc (a : Int) : Int := ((onesN (a.toNat / 256) + onesN (a.toNat % 256) : Nat) : Int)
theorem onesN_mono {a b : Nat} (h : ∀ i, i < 8 → a.testBit i = true → b.testBit i = true) : onesN a ≤ onesN b := by
  have hi : ∀ i, i < 8 → (a.testBit i).toNat ≤ (b.testBit i).toNat := by
    intro i hi
    have := h i hi
    revert this
    cases a.testBit i <;> cases b.testBit i <;> simp
  simp only [onesN, List.range, List.range.loop, List.map_cons, List.map_nil, List.sum_cons, List.sum_nil]
  have := hi 0 (by omega); have := hi 1 (by omega); have := hi 2 (by omega); have := hi 3 (by omega); have := hi 4 (by omega); have := hi 5 (by omega); have := hi 6 (by omega); have := hi 7 (by omega)
  omega
theorem onesN_le (a : Nat) : onesN a ≤ 8 := by
  simp only [onesN, List.range, List.range.loop, List.map_cons, List.map_nil, List.sum_cons, List.sum_nil]
  have := toNat_le (a.testBit 0); have := toNat_le (a.testBit 1); have := toNat_le (a.testBit 2); have := toNat_le (a.testBit 3); have := toNat_le (a.testBit 4); have := toNat_le (a.testBit 5); have := toNat_le (a.testBit 6); have := toNat_le (a.testBit 7)
  omega
theorem pc_mono {a b : Int} (h : subN a.toNat b.toNat) : pc a ≤ pc b := by
  have h1 : onesN (a.toNat / 256) ≤ onesN (b.toNat / 256) := onesN_mono (fun i _ hi => by
    rw [show (256 : Nat) = 2 ^ 8 from rfl, Nat.testBit_div_two_pow] at hi ⊢
    exact h _ hi)
  have h2 : onesN (a.toNat % 256) ≤ onesN (b.toNat % 256) := onesN_mono (fun i h8 hi => by
    rw [show (256 : Nat) = 2 ^ 8 from rfl, Nat.testBit_mod_two_pow] at hi ⊢
    rw [decide_eq_true h8, Bool.true_and] at hi ⊢
    exact h _ hi)
  simp only [pc]; omega
def cmpI (x y : Int) : Int := if x < y then -1 else if y < x then 1 else 0
/-- by size, then by number -/
def qcmp (a b : Int) : Int := if cmpI (pc a) (pc b) ≠ 0 then cmpI (pc a) (pc b) else cmpI a b
theorem qcmp_lt {a b : Int} : qcmp a b < 0 ↔ pc a < pc b ∨ (pc a = pc b ∧ a < b) := by
  unfold qcmp cmpI
  by_cases h1 : pc a < pc b
  · simp [h1]
  · by_cases h2 : pc b < pc a
    · simp [h1, h2]; omega
    · by_cases h3 : a < b
      · simp [h1, h2, h3]; omega
      · by_cases h4 : b < a
        · simp [h1, h2, h3, h4]
        · simp [h1, h2, h3, h4]
theorem swoQ : SWO (ltD qcmp) :=
  ⟨fun x => by rw [ltD, decide_eq_false_iff_not, qcmp_lt]; omega, fun x y z => by simp only [ltD, decide_eq_true_eq, qcmp_lt]; omega, fun x y z => by simp only [ltD, decide_eq_false_iff_not, qcmp_lt]; omega⟩
theorem qtie {a b : Int} (h1 : ltD qcmp a b = false) (h2 : ltD qcmp b a = false) : a = b := by
  simp only [ltD, decide_eq_false_iff_not, qcmp_lt] at h1 h2; omega
theorem qcmp_sub {a b : Int} (ha : inU a) (hb : inU b) (h : withinU a b = true) : a = b ∨ qcmp a b < 0 := by
  have h1 := pc_mono ((within_sub ha hb).1 h)
  have h2 := within_le ha hb h
  rw [qcmp_lt]; omega
/-- one of the sets is within s -/
def hasQ (l : List Int) (s : Int) : Bool := l.any (fun t => withinU t s)
theorem hasQ_iff {l : List Int} {s : Int} : hasQ l s = true ↔ ∃ t ∈ l, withinU t s = true := List.any_eq_true
/-- a system of sets: in order, none within another one -/
structure QOk (n : Nat) (l : List Int) : Prop where
  n1 : 1 ≤ n ∧ n ≤ 10
  rng : ∀ s ∈ l, 0 ≤ s ∧ s < 2 ^ n
  sort : l.Pairwise (fun a b => qcmp a b < 0)
  anti : ∀ a ∈ l, ∀ b ∈ l, withinU a b = true → a = b
theorem pow_le {n : Nat} (h : n ≤ 10) : (2 : Int) ^ n ≤ 1024 := by
  have : (2 : Nat) ^ n ≤ 2 ^ 10 := Nat.pow_le_pow_right (by omega) h
  exact_mod_cast this
theorem QOk.inU {n : Nat} {l : List Int} (h : QOk n l) {s : Int} (hs : s ∈ l) : inU s := by
  have := h.rng s hs
  have := pow_le h.n1.2
  unfold Ytdhdpklmipkneaa.inU; omega
theorem QOk.nodup {n : Nat} {l : List Int} (h : QOk n l) : l.Nodup := h.sort.imp (fun h e => by rw [e] at h; rw [qcmp_lt] at h; omega)
theorem QOk.few {n : Nat} {l : List Int} (h : QOk n l) : l.length ≤ 252 := by
  have hp := pow_le h.n1.2
  have := sperner (M := l.map Int.toNat) (by
    refine List.pairwise_map.2 (h.nodup.imp_of_mem ?_)
    intro a b ha hb hab e
    have := h.rng a ha; have := h.rng b hb
    omega) (fun s hs => by
    obtain ⟨a, ha, rfl⟩ := List.mem_map.1 hs
    have := h.rng a ha
    show a.toNat < 1024
    omega) (fun x hx y hy hs => by
    obtain ⟨a, ha, rfl⟩ := List.mem_map.1 hx
    obtain ⟨b, hb, rfl⟩ := List.mem_map.1 hy
    rw [h.anti a ha b hb ((within_sub (h.inU ha) (h.inU hb)).2 hs)])
  rwa [List.length_map] at this
theorem QOk.eq {n : Nat} {l m : List Int} (h : QOk n l) (k : QOk n m) (he : ∀ s, s ∈ l ↔ s ∈ m) : l = m :=
  List.Perm.eq_of_pairwise (le := fun a b => qcmp a b < 0) (fun a b _ _ h1 h2 => by rw [qcmp_lt] at h1 h2; omega) h.sort k.sort ((List.perm_ext_iff_of_nodup h.nodup k.nodup).2 he)
/-- the list's check, place by place -/
def qbad (n : Nat) (l : List Int) (i : Nat) : Int := if l.getD i 0 / 2 ^ n ≠ 0 then 1 else if (0 < i ∧ ¬ qcmp (l.getD (i - 1) 0) (l.getD i 0) < 0) ∨ hasQ (l.take i) (l.getD i 0) = true then 4 else 0
def qgo (n : Nat) (l : List Int) : Nat → Nat → Int
  | 0, _ => 0
  | k + 1, i => if qbad n l i ≠ 0 then qbad n l i else qgo n l k (i + 1)
def qcheck (n : Int) (l : List Int) : Int := if ¬ (1 ≤ n ∧ n ≤ 10) then 1 else if 300 < l.length then 2 else qgo n.toNat l l.length 0
theorem qgo_zero {n : Nat} {l : List Int} : ∀ {k i : Nat}, qgo n l k i = 0 ↔ ∀ j, i ≤ j → j < i + k → qbad n l j = 0
  | 0, i => ⟨fun _ j h1 h2 => by omega, fun _ => rfl⟩
  | k + 1, i => by
    rw [qgo]
    constructor
    · intro h
      split at h
      · contradiction
      · rename_i h0
        intro j h1 h2
        by_cases e : j = i
        · subst e; exact Decidable.not_not.1 h0
        · exact qgo_zero.1 h j (by omega) (by omega)
    · intro h
      rw [if_neg (by rw [h i (by omega) (by omega)]; simp)]
      exact qgo_zero.2 (fun j h1 h2 => h j (by omega) (by omega))
theorem qbad_zero {n : Nat} {l : List Int} {i : Nat} : qbad n l i = 0 ↔ l.getD i 0 / 2 ^ n = 0 ∧ (0 < i → qcmp (l.getD (i - 1) 0) (l.getD i 0) < 0) ∧ hasQ (l.take i) (l.getD i 0) = false := by
  unfold qbad
  by_cases h1 : l.getD i 0 / 2 ^ n = 0
  · rw [if_neg (by simpa using h1)]
    by_cases h2 : (0 < i ∧ ¬ qcmp (l.getD (i - 1) 0) (l.getD i 0) < 0) ∨ hasQ (l.take i) (l.getD i 0) = true
    · rw [if_pos h2]
      refine ⟨fun h => by omega, fun ⟨_, h3, h4⟩ => ?_⟩
      rcases h2 with h2 | h2
      · exact absurd (h3 h2.1) h2.2
      · rw [h4] at h2; cases h2
    · rw [if_neg h2]
      refine ⟨fun _ => ⟨h1, fun h3 => Decidable.not_not.1 (fun h4 => h2 (.inl ⟨h3, h4⟩)), ?_⟩, fun _ => rfl⟩
      cases e : hasQ (l.take i) (l.getD i 0) with
      | false => rfl
      | true => exact absurd (.inr e) h2
  · rw [if_pos h1]
    exact ⟨fun h => by omega, fun h => absurd h.1 h1⟩
theorem sub_lt {a n : Nat} {b : Nat} (h : subN a b) (hb : b < 2 ^ n) : a < 2 ^ n := by
  refine Nat.lt_of_not_le (fun hle => ?_)
  obtain ⟨i, hi, hbit⟩ := Nat.exists_ge_and_testBit_of_ge_two_pow hle
  have := h i hbit
  rw [Nat.testBit_lt_two_pow (Nat.lt_of_lt_of_le hb (Nat.pow_le_pow_right (by omega) hi))] at this
  cases this
theorem qcheck_ok {n : Int} {l : List Int} (hr : ∀ s ∈ l, inU s) (h : qcheck n l = 0) : ∃ m : Nat, n = m ∧ QOk m l ∧ l.length ≤ 300 := by
  unfold qcheck at h
  split at h
  · cases h
  · rename_i hn
    split at h
    · cases h
    · rename_i hl
      refine ⟨n.toNat, by omega, ?_, by omega⟩
      have hb := fun j (hj : j < l.length) => qbad_zero.1 (qgo_zero.1 h j (by omega) (by omega))
      have hs : l.Pairwise (fun a b => qcmp a b < 0) := by
        have : ∀ i d, i + d + 1 < l.length → qcmp (l.getD i 0) (l.getD (i + d + 1) 0) < 0 := by
          intro i d
          induction d with
          | zero => intro hd; have := (hb (i + 0 + 1) hd).2.1 (by omega); simpa using this
          | succ d ih =>
            intro hd
            have h1 := ih (by omega)
            have h2 := (hb (i + (d + 1) + 1) hd).2.1 (by omega)
            rw [show i + (d + 1) + 1 - 1 = i + d + 1 by omega] at h2
            rw [qcmp_lt] at *
            omega
        rw [List.pairwise_iff_getElem]
        intro i j hi hj hij
        have := this i (j - i - 1) (by omega)
        rw [show i + (j - i - 1) + 1 = j by omega, List.getD_eq_getElem?_getD, List.getD_eq_getElem?_getD, List.getElem?_eq_getElem hi, List.getElem?_eq_getElem hj] at this
        exact this
      refine ⟨by omega, fun s hs => ?_, hs, fun a ha b hb2 hw => ?_⟩
      · obtain ⟨i, hi, rfl⟩ := mem_getD (d := 0) hs
        have h1 := (hb i hi).1
        have h2 := (hr _ hs).1
        have hp : (0 : Int) < 2 ^ n.toNat := Int.pow_pos (by omega)
        refine ⟨h2, ?_⟩
        have := Int.lt_ediv_add_one_mul_self (l.getD i 0) hp
        rw [h1] at this; omega
      · rcases qcmp_sub (hr a ha) (hr b hb2) hw with h1 | h1
        · exact h1
        · obtain ⟨i, hi, rfl⟩ := mem_getD (d := 0) ha
          obtain ⟨j, hj, rfl⟩ := mem_getD (d := 0) hb2
          rcases Nat.lt_or_ge i j with h2 | h2
          · have h3 := (hb j hj).2.2
            have h4 : hasQ (l.take j) (l.getD j 0) = true := hasQ_iff.2 ⟨l.getD i 0, by
              have : (l.take j).getD i 0 = l.getD i 0 := by rw [List.getD_eq_getElem?_getD, List.getD_eq_getElem?_getD, List.getElem?_take, if_pos h2]
              rw [← this]; exact getD_mem (by rw [List.length_take]; omega), hw⟩
            rw [h3] at h4; cases h4
          · rcases Nat.lt_or_ge j i with h3 | h3
            · have := List.pairwise_iff_getElem.1 hs j i hj hi h3
              rw [List.getD_eq_getElem?_getD, List.getD_eq_getElem?_getD, List.getElem?_eq_getElem hi, List.getElem?_eq_getElem hj] at h1
              have h1 : qcmp l[i] l[j] < 0 := h1
              rw [qcmp_lt] at *; omega
            · rw [show i = j by omega]
theorem QOk.check {n : Nat} {l : List Int} (h : QOk n l) : qcheck (n : Int) l = 0 := by
  have hn := h.n1
  rw [qcheck, if_neg (by omega), if_neg (by have := h.few; omega), Int.toNat_natCast, qgo_zero]
  intro i _ hi
  have hi : i < l.length := by omega
  have hp := List.pairwise_iff_getElem.1 h.sort
  have hm := getD_mem (d := 0) hi
  refine qbad_zero.2 ⟨Int.ediv_eq_zero_of_lt (h.rng _ hm).1 (h.rng _ hm).2, fun h0 => ?_, ?_⟩
  · have := hp (i - 1) i (by omega) hi (by omega)
    rw [List.getD_eq_getElem?_getD, List.getD_eq_getElem?_getD, List.getElem?_eq_getElem hi, List.getElem?_eq_getElem (show i - 1 < l.length by omega)]
    exact this
  · cases e : hasQ (l.take i) (l.getD i 0) with
    | false => rfl
    | true =>
      obtain ⟨t, ht, hw⟩ := hasQ_iff.1 e
      obtain ⟨j, hj, rfl⟩ := mem_getD (d := 0) ht
      rw [List.length_take] at hj
      have e1 : (l.take i).getD j 0 = l.getD j 0 := by rw [List.getD_eq_getElem?_getD, List.getD_eq_getElem?_getD, List.getElem?_take, if_pos (by omega)]
      rw [e1] at hw
      have e2 := h.anti _ (getD_mem (by omega)) _ hm hw
      have := hp j i (by omega) hi (by omega)
      rw [List.getD_eq_getElem?_getD, List.getD_eq_getElem?_getD, List.getElem?_eq_getElem hi, List.getElem?_eq_getElem (show j < l.length by omega)] at e2
      have e2 : l[j] = l[i] := e2
      rw [e2, qcmp_lt] at this; omega
/-- the least ones, of a list in order -/
def minGo : List Int → List Int → List Int
  | [], out => out
  | s :: l, out => if hasQ out s = true then minGo l out else minGo l (out ++ [s])
def allQ (n : Nat) (p : Int → Bool) : List Int := ((List.range (2 ^ n)).map (fun i : Nat => (i : Int))).filter p
def minF (n : Nat) (p : Int → Bool) : List Int := minGo (sortBy (ltD qcmp) (allQ n p)) []
theorem allQ_mem {n : Nat} {p : Int → Bool} {s : Int} : s ∈ allQ n p ↔ (0 ≤ s ∧ s < 2 ^ n) ∧ p s = true := by
  rw [allQ, List.mem_filter, List.mem_map]
  have e : ((2 ^ n : Nat) : Int) = 2 ^ n := by push_cast; rfl
  constructor
  · rintro ⟨⟨i, hi, rfl⟩, h⟩
    have := List.mem_range.1 hi
    exact ⟨⟨by omega, by rw [← e]; omega⟩, h⟩
  · rintro ⟨⟨h1, h2⟩, h⟩
    exact ⟨⟨s.toNat, List.mem_range.2 (by rw [← e] at h2; omega), by omega⟩, h⟩
/-- what the list's walk has at each place -/
structure MinI (n : Nat) (p : Int → Bool) (seen rest out : List Int) : Prop where
  rng : ∀ s ∈ seen ++ rest, (0 ≤ s ∧ s < 2 ^ n) ∧ p s = true
  sort : (seen ++ rest).Pairwise (fun a b => qcmp a b < 0)
  sub : ∀ s ∈ out, s ∈ seen
  osort : out.Pairwise (fun a b => qcmp a b < 0)
  anti : ∀ a ∈ out, ∀ b ∈ out, withinU a b = true → a = b
  cov : ∀ s ∈ seen, hasQ out s = true
theorem minGo_ok {n : Nat} {p : Int → Bool} (hn : n ≤ 10) : ∀ {rest seen out : List Int}, MinI n p seen rest out → MinI n p (seen ++ rest) [] (minGo rest out)
  | [], seen, out, h => by rw [minGo, List.append_nil]; exact h
  | s :: rest, seen, out, h => by
    have hin : ∀ {x}, x ∈ seen ++ s :: rest → inU x := fun hx => by
      have := (h.rng _ hx).1
      have := pow_le hn
      unfold inU; omega
    have hs : s ∈ seen ++ s :: rest := by simp
    have hlt : ∀ a ∈ seen, qcmp a s < 0 := fun a ha => (List.pairwise_append.1 h.sort).2.2 a ha s (by simp)
    have e : seen ++ s :: rest = (seen ++ [s]) ++ rest := by simp
    rw [minGo, e]
    split
    · rename_i hc
      exact minGo_ok hn ⟨e ▸ h.rng, e ▸ h.sort, fun x hx => List.mem_append_left _ (h.sub x hx), h.osort, h.anti, fun x hx => by
        rcases List.mem_append.1 hx with hx | hx
        · exact h.cov x hx
        · rw [List.mem_singleton] at hx; subst hx; exact hc⟩
    · rename_i hc
      refine minGo_ok hn ⟨e ▸ h.rng, e ▸ h.sort, fun x hx => ?_, List.pairwise_append.2 ⟨h.osort, List.pairwise_singleton _ _, fun a ha b hb => ?_⟩, fun a ha b hb hw => ?_, fun x hx => ?_⟩
      · rcases List.mem_append.1 hx with hx | hx
        · exact List.mem_append_left _ (h.sub x hx)
        · exact List.mem_append_right _ hx
      · rw [List.mem_singleton] at hb; subst hb; exact hlt a (h.sub a ha)
      · rcases List.mem_append.1 ha with ha | ha
        · rcases List.mem_append.1 hb with hb | hb
          · exact h.anti a ha b hb hw
          · rw [List.mem_singleton] at hb; subst hb
            exact absurd (hasQ_iff.2 ⟨a, ‹a ∈ out›, hw⟩) hc
        · rw [List.mem_singleton] at ha; subst ha
          rcases List.mem_append.1 hb with hb | hb
          · rcases qcmp_sub (hin hs) (hin (List.mem_append_left _ (h.sub b hb))) hw with h1 | h1
            · exact h1
            · have := hlt b (h.sub b hb)
              rw [qcmp_lt] at *; omega
          · rw [List.mem_singleton] at hb; exact hb.symm
      · rcases List.mem_append.1 hx with hx | hx
        · obtain ⟨t, ht, hw⟩ := hasQ_iff.1 (h.cov x hx)
          exact hasQ_iff.2 ⟨t, List.mem_append_left _ ht, hw⟩
        · rw [List.mem_singleton] at hx; subst hx
          exact hasQ_iff.2 ⟨x, by simp, within_refl x⟩
theorem allQ_nodup (n : Nat) (p : Int → Bool) : (allQ n p).Nodup := by
  refine List.Pairwise.sublist List.filter_sublist (List.pairwise_map.2 (List.nodup_range.imp ?_))
  intro a b h e; exact h (by omega)
theorem min_start (n : Nat) (p : Int → Bool) : MinI n p [] (sortBy (ltD qcmp) (allQ n p)) [] := by
  have hp := sortBy_perm (ltD qcmp) (allQ n p)
  have hs := sortBy_sorted swoQ (allQ n p)
  refine ⟨fun s hs => allQ_mem.1 (hp.mem_iff.1 (by simpa using hs)), ?_, by simp, List.Pairwise.nil, by simp, by simp⟩
  have hnd : (sortBy (ltD qcmp) (allQ n p)).Nodup := hp.nodup_iff.2 (allQ_nodup n p)
  rw [List.nil_append]
  refine (hs.and hnd).imp ?_
  rintro a b ⟨h1, h2⟩
  simp only [ltD, decide_eq_false_iff_not, qcmp_lt] at *
  omega
theorem min_inv {n : Nat} (hn : n ≤ 10) (p : Int → Bool) : MinI n p (sortBy (ltD qcmp) (allQ n p)) [] (minF n p) := by
  have := minGo_ok hn (min_start n p)
  rwa [List.nil_append] at this
theorem min_mem {n : Nat} (hn : n ≤ 10) {p : Int → Bool} {s : Int} (h : s ∈ minF n p) : (0 ≤ s ∧ s < 2 ^ n) ∧ p s = true :=
  allQ_mem.1 ((sortBy_perm _ _).mem_iff.1 ((min_inv hn p).sub s h))
theorem min_cov {n : Nat} (hn : n ≤ 10) {p : Int → Bool} {s : Int} (h : 0 ≤ s ∧ s < 2 ^ n) (hp : p s = true) : hasQ (minF n p) s = true :=
  (min_inv hn p).cov s ((sortBy_perm _ _).mem_iff.2 (allQ_mem.2 ⟨h, hp⟩))
theorem min_ok {n : Nat} (hn : 1 ≤ n ∧ n ≤ 10) (p : Int → Bool) : QOk n (minF n p) :=
  ⟨hn, fun _ h => (min_mem hn.2 h).1, (min_inv hn.2 p).osort, (min_inv hn.2 p).anti⟩
end Go.Proofs.Ytdhdpklmipkneaa
