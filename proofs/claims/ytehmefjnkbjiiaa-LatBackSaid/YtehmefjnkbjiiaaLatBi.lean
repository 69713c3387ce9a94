/- The sets of an order and its firm ones: BIRKHOFF's law, with no program in sight. -/
import Derived.Test.YtehmefjnkbjiiaaLatBk
import Derived.Test.YtehmefjnkbjiiaaMatchK
namespace Go.Proofs.Ytehmefjnkbjiiaa
open Go.Ex
set_option maxRecDepth 100000
/-! sets of numbers as numbers -/
def mkS (f : Nat → Bool) : Nat → Nat
  | 0 => 0
  | n + 1 => mkS f n ||| (if f n = true then 2 ^ n else 0)
theorem mkS_bit {f : Nat → Bool} {i : Nat} : ∀ {n : Nat}, (mkS f n).testBit i = (decide (i < n) && f i)
  | 0 => by simp [mkS]
  | n + 1 => by
    rw [mkS, Nat.testBit_or, mkS_bit]
    by_cases e : i = n
    · subst e
      cases h : f i with
      | true => simp [Nat.testBit_two_pow_self]
      | false => simp
    · have h1 : decide (i < n + 1) = decide (i < n) := decide_eq_decide.2 (by omega)
      rw [h1]
      have h2 : (if f n = true then 2 ^ n else 0).testBit i = false := by
        split
        · rw [Nat.testBit_two_pow]; exact decide_eq_false (by omega)
        · exact Nat.zero_testBit i
      rw [h2, Bool.or_false]
theorem mkS_lt {f : Nat → Bool} : ∀ {n : Nat}, mkS f n < 2 ^ n
  | 0 => by simp [mkS]
  | n + 1 => by
    rw [mkS]
    have h := mkS_lt (f := f) (n := n)
    have hp : 2 ^ (n + 1) = 2 ^ n + 2 ^ n := by rw [Nat.pow_succ]; omega
    refine Nat.or_lt_two_pow (by omega) ?_
    split
    · have := Nat.two_pow_pos n; omega
    · have := Nat.two_pow_pos (n + 1); omega
theorem has_nat {s i : Nat} (hs : s < 65536) : hasB (s : Int) i = s.testBit i := by
  rw [hasB, bv, show BitVec.ofInt 16 (s : Int) = BitVec.ofNat 16 s from rfl, BitVec.getLsbD_ofNat]
  by_cases h : i < 16
  · rw [decide_eq_true h, Bool.true_and]
  · rw [decide_eq_false h, Bool.false_and]
    refine (Nat.testBit_lt_two_pow (Nat.lt_of_lt_of_le hs ?_)).symm
    show 2 ^ 16 ≤ 2 ^ i
    exact Nat.pow_le_pow_right (by omega) (by omega)
theorem testBit_out {n s i : Nat} (hs : s < 2 ^ n) (hi : n ≤ i) : s.testBit i = false := Nat.testBit_lt_two_pow (Nat.lt_of_lt_of_le hs (Nat.pow_le_pow_right (by omega) hi))
/-! the down-sets -/
section
variable {n : Nat} {l : List PairD} (hp : PosOk n l) (hn : n ≤ 12)
include hp
theorem isDown_iff {s : Nat} : isDown l s = true ↔ ∀ i k, wk (relP l) n i k = true → s.testBit k = true → s.testBit i = true := by
  rw [isDown, List.all_eq_true]
  constructor
  · intro h i k hw
    refine wk_least (T := fun a b => s.testBit b = true → s.testBit a = true) (fun a b c h1 h2 h3 => h1 (h2 h3)) (fun a b hab hb => ?_) hw
    have := h _ (relP_iff.1 hab)
    rw [show (((a : Int), (b : Int), ()) : PairD).2.1.toNat = b from Int.toNat_natCast b, show (((a : Int), (b : Int), ()) : PairD).1.toNat = a from Int.toNat_natCast a, hb] at this
    simpa using this
  · intro h q hq
    have hr := hp.rng q hq
    obtain ⟨x, y, ⟨⟩⟩ := q
    simp only at hr
    obtain ⟨X, rfl⟩ : ∃ X : Nat, x = X := ⟨x.toNat, by omega⟩
    obtain ⟨Y, rfl⟩ : ∃ Y : Nat, y = Y := ⟨y.toNat, by omega⟩
    have := h X Y (wk_ge (relP_iff.2 hq) n)
    show (!(s.testBit (Y : Int).toNat) || s.testBit (X : Int).toNat) = true
    rw [Int.toNat_natCast, Int.toNat_natCast]
    cases ht : s.testBit Y with
    | false => rfl
    | true => rw [this ht]; rfl
omit hp in
theorem downs_mem {x : Int} : x ∈ downsL n l ↔ ∃ s : Nat, s < 2 ^ n ∧ isDown l s = true ∧ x = (s : Int) := by
  rw [downsL, List.mem_map]
  constructor
  · rintro ⟨s, hs, rfl⟩
    obtain ⟨h1, h2⟩ := List.mem_filter.1 hs
    exact ⟨s, List.mem_range.1 h1, h2, rfl⟩
  · rintro ⟨s, h1, h2, rfl⟩
    exact ⟨s, List.mem_filter.2 ⟨List.mem_range.2 h1, h2⟩, rfl⟩
omit hp in
theorem downs_pair : (downsL n l).Pairwise (· < ·) := by
  rw [downsL, List.pairwise_map]
  refine List.Pairwise.sublist List.filter_sublist (List.pairwise_lt_range.imp (fun h => ?_))
  omega
omit hp in
theorem downs_nodup : (downsL n l).Nodup := (downs_pair (n := n) (l := l)).imp (fun h => by omega)
/-- all that must be before x, and x -/
def low (l : List PairD) (n x : Nat) : Nat := mkS (fun i => decide (i = x) || wk (relP l) n i x) n
theorem low_bit {x i : Nat} (hx : x < n) : (low l n x).testBit i = true ↔ i = x ∨ wk (relP l) n i x = true := by
  rw [low, mkS_bit, Bool.and_eq_true, Bool.or_eq_true, decide_eq_true_eq, decide_eq_true_eq]
  constructor
  · exact fun h => h.2
  · rintro (h | h)
    · exact ⟨by omega, .inl h⟩
    · exact ⟨(wk_out (pos_rel hp) h).1, .inr h⟩
theorem low_down {x : Nat} (hx : x < n) : isDown l (low l n x) = true := by
  rw [isDown_iff hp]
  intro i k h1 h2
  rw [low_bit hp hx] at h2 ⊢
  rcases h2 with rfl | h2
  · exact .inr h1
  · exact .inr (pos_trans hp h1 h2)
theorem low_inj {x y : Nat} (hx : x < n) (hy : y < n) (h : low l n x = low l n y) : x = y := by
  have h1 := (low_bit hp hx (i := x)).2 (.inl rfl)
  have h2 := (low_bit hp hy (i := y)).2 (.inl rfl)
  rw [h, low_bit hp hy] at h1
  rw [← h, low_bit hp hx] at h2
  rcases h1 with h1 | h1
  · exact h1
  rcases h2 with h2 | h2
  · exact h2.symm
  have := pos_trans hp h1 h2
  rw [pos_irr hp] at this
  cases this
end
theorem pow12 {n : Nat} (hn : n ≤ 12) : 2 ^ n ≤ 4096 := by
  have : 2 ^ n ≤ 2 ^ 12 := Nat.pow_le_pow_right (by omega) hn
  exact this
theorem bv_nat (s : Nat) : bv (s : Int) = BitVec.ofNat 16 s := rfl
theorem or_nat {s t : Nat} (hs : s < 65536) (ht : t < 65536) : orU (s : Int) (t : Int) = ((s ||| t : Nat) : Int) := by
  rw [orU_eq, bv_nat, bv_nat, BitVec.toNat_or, BitVec.toNat_ofNat, BitVec.toNat_ofNat, Nat.mod_eq_of_lt (by omega), Nat.mod_eq_of_lt (by omega)]
theorem and_nat {s t : Nat} (hs : s < 65536) (ht : t < 65536) : andU (s : Int) (t : Int) = ((s &&& t : Nat) : Int) := by
  rw [andU_eq, bv_nat, bv_nat, BitVec.toNat_and, BitVec.toNat_ofNat, BitVec.toNat_ofNat, Nat.mod_eq_of_lt (by omega), Nat.mod_eq_of_lt (by omega)]
theorem within_nat {s t : Nat} (hs : s < 65536) (ht : t < 65536) : withinU (s : Int) (t : Int) = true ↔ ∀ i, s.testBit i = true → t.testBit i = true := by
  rw [within_iff]
  exact ⟨fun h i => by have := h i; rwa [has_nat hs, has_nat ht] at this, fun h i => by rw [has_nat hs, has_nat ht]; exact h i⟩
theorem inU_nat {s : Nat} (hs : s < 65536) : inU (s : Int) := ⟨by omega, by omega⟩
theorem lscan_of : ∀ {l : List Int} {p : Option Int}, (∀ x ∈ l, x / 4096 = 0) → (∀ q, p = some q → ∀ x ∈ l, q < x) → l.Pairwise (· < ·) → lscan p l = 0
  | [], _, _, _, _ => rfl
  | s :: l, p, h1, h2, h3 => by
    obtain ⟨h4, h5⟩ := List.pairwise_cons.1 h3
    rw [lscan, if_neg (fun h => h (h1 s (by simp))), if_neg]
    · exact lscan_of (fun x hx => h1 x (by simp [hx])) (fun q hq x hx => by cases hq; exact h4 x hx) h5
    · cases p with
      | none => simp [befU]
      | some q =>
        have := h2 q rfl s (by simp)
        rw [befU, decide_eq_false (by omega)]; decide
section
variable {n : Nat} {l : List PairD} (hp : PosOk n l) (hn : n ≤ 12)
include hp hn
/-- the down-sets are a lattice of sets, or too many -/
theorem downs_check : lcheck (downsL n l) = if 300 < (downsL n l).length then 2 else 0 := by
  have hpw := pow12 hn
  have hle : (downsL n l).length ≤ 4096 := by
    rw [downsL, List.length_map]
    have := List.length_filter_le (isDown l) (List.range (2 ^ n))
    rw [List.length_range] at this
    omega
  have h0 : (0 : Int) ∈ downsL n l := downs_mem.2 ⟨0, Nat.two_pow_pos n, (isDown_iff hp).2 (fun i k _ h => by rw [Nat.zero_testBit] at h; cases h), rfl⟩
  have hnn : ∀ x ∈ downsL n l, 0 ≤ x ∧ x < 4096 := fun x hx => by
    obtain ⟨s, hs, -, rfl⟩ := downs_mem.1 hx
    omega
  have hpr := downs_pair (n := n) (l := l)
  have hor : ∀ a ∈ downsL n l, ∀ b ∈ downsL n l, orU a b ∈ downsL n l ∧ andU a b ∈ downsL n l := fun a ha b hb => by
    obtain ⟨s, hs, hs2, rfl⟩ := downs_mem.1 ha
    obtain ⟨t, ht, ht2, rfl⟩ := downs_mem.1 hb
    rw [or_nat (by omega) (by omega), and_nat (by omega) (by omega)]
    rw [isDown_iff hp] at hs2 ht2
    refine ⟨downs_mem.2 ⟨_, Nat.or_lt_two_pow hs ht, (isDown_iff hp).2 (fun i k hw h => ?_), rfl⟩, downs_mem.2 ⟨_, Nat.and_lt_two_pow _ ht, (isDown_iff hp).2 (fun i k hw h => ?_), rfl⟩⟩
    · rw [Nat.testBit_or, Bool.or_eq_true] at h ⊢
      exact h.imp (hs2 i k hw) (ht2 i k hw)
    · rw [Nat.testBit_and, Bool.and_eq_true] at h ⊢
      exact ⟨hs2 i k hw h.1, ht2 i k hw h.2⟩
  generalize downsL n l = L at *
  have hlen : 1 ≤ L.length := List.length_pos_of_mem h0
  have hfst : L.getD 0 0 = 0 := by
    match L, h0, hpr, hnn with
    | [], _, _, _ => rfl
    | x :: r, h0, hpr, hnn =>
      show x = 0
      rcases List.mem_cons.1 h0 with h | h
      · exact h.symm
      · have := (List.pairwise_cons.1 hpr).1 0 h
        have := hnn x (by simp)
        omega
  have hsc : lscan none L = 0 := lscan_of (fun x hx => by have := hnn x hx; omega) (fun q hq => by cases hq) hpr
  have hcl : closedL L = true := by
    rw [closedL, List.all_eq_true]
    intro a ha
    rw [List.all_eq_true]
    intro b hb
    have := hor a ha b hb
    rw [decide_eq_true this.1, decide_eq_true this.2]; rfl
  rw [lcheck, if_neg (by omega), if_neg (by omega), if_neg (fun h => h hsc), if_pos hcl]
theorem firm_iff {s : Nat} (hs : s < 2 ^ n) (hd : isDown l s = true) : unionB (downsL n l) s = s ↔ ¬ ∃ x, x < n ∧ s = low l n x := by
  have hpw := pow12 hn
  have hd := (isDown_iff hp).1 hd
  constructor
  · rintro h ⟨x, hx, rfl⟩
    have h1 := (low_bit hp hx (i := x)).2 (.inl rfl)
    rw [← has_nat (by omega), ← h, unionB, union_has] at h1
    obtain ⟨t, ht, h2, h3⟩ := h1
    obtain ⟨t, ht1, ht2, rfl⟩ := downs_mem.1 ht
    rw [Bool.and_eq_true, decide_eq_true_eq] at h2
    rw [has_nat (by omega)] at h3
    refine h2.1 (within_antisymm (inU_nat (by omega)) (inU_nat (by omega)) h2.2 ?_)
    rw [within_nat (by omega) (by omega)]
    intro i hi
    rcases (low_bit hp hx).1 hi with rfl | hi
    · exact h3
    · exact (isDown_iff hp).1 ht2 i x hi h3
  · intro h
    refine bits_eq union_in (inU_nat (by omega)) (fun i => ?_)
    cases hb : hasB (s : Int) i with
    | true =>
      rw [has_nat (by omega)] at hb
      have hi : i < n := Decidable.by_contra (fun hi => by rw [testBit_out hs (by omega)] at hb; cases hb)
      have hl := mkS_lt (f := fun j => decide (j = i) || wk (relP l) n j i) (n := n)
      have hl : low l n i < 2 ^ n := hl
      rw [unionB, union_has]
      refine ⟨(low l n i : Nat), downs_mem.2 ⟨_, hl, low_down hp hi, rfl⟩, ?_, ?_⟩
      · rw [Bool.and_eq_true, decide_eq_true_eq]
        refine ⟨fun e => h ⟨i, hi, by omega⟩, ?_⟩
        rw [within_nat (by omega) (by omega)]
        intro j hj
        rcases (low_bit hp hi).1 hj with rfl | hj
        · exact hb
        · exact hd j i hj hb
      · rw [has_nat (by omega)]
        exact (low_bit hp hi).2 (.inl rfl)
    | false =>
      cases hu : hasB (unionB (downsL n l) s) i with
      | false => rfl
      | true =>
        rw [unionB, union_has] at hu
        obtain ⟨t, -, h2, h3⟩ := hu
        rw [Bool.and_eq_true] at h2
        rw [within_iff.1 h2.2 i h3] at hb
        cases hb
theorem firm_mem {x : Int} : x ∈ firmL (downsL n l) ↔ ∃ a, a < n ∧ x = (low l n a : Nat) := by
  rw [firmL, List.mem_filter, downs_mem, decide_eq_true_eq]
  constructor
  · rintro ⟨⟨s, h1, h2, rfl⟩, h3⟩
    obtain ⟨a, ha, e⟩ := Decidable.not_not.1 (fun h => h3 ((firm_iff hp hn h1 h2).2 h))
    exact ⟨a, ha, by rw [e]⟩
  · rintro ⟨a, ha, rfl⟩
    exact ⟨⟨_, mkS_lt, low_down hp ha, rfl⟩, fun h => (firm_iff hp hn mkS_lt (low_down hp ha)).1 h ⟨a, ha, rfl⟩⟩
omit hp hn in
theorem firm_nodup : (firmL (downsL n l)).Nodup := List.Pairwise.sublist List.filter_sublist downs_nodup
theorem firm_len : (firmL (downsL n l)).length = n := by
  have hn2 : ((List.range n).map (fun a => ((low l n a : Nat) : Int))).Nodup := by
    rw [List.nodup_iff_pairwise_ne, List.pairwise_map]
    refine List.pairwise_lt_range.imp_of_mem (fun {a b} ha hb h e => ?_)
    have := low_inj hp (List.mem_range.1 ha) (List.mem_range.1 hb) (by omega)
    omega
  have h1 := nodup_sub (firm_nodup) (S := (List.range n).map (fun a => ((low l n a : Nat) : Int))) (fun x hx => by
    obtain ⟨a, ha, rfl⟩ := (firm_mem hp hn).1 hx
    exact List.mem_map.2 ⟨a, List.mem_range.2 ha, rfl⟩)
  have h2 := nodup_sub hn2 (S := firmL (downsL n l)) (fun x hx => by
    obtain ⟨a, ha, rfl⟩ := List.mem_map.1 hx
    exact (firm_mem hp hn).2 ⟨a, List.mem_range.1 ha, rfl⟩)
  rw [List.length_map, List.length_range] at h1 h2
  omega
/-- the firm ones are the things, in another order -/
theorem firm_perm : ∃ σ τ : Nat → Nat, (∀ a, a < n → σ a < n ∧ (firmL (downsL n l)).getD a 0 = (low l n (σ a) : Nat) ∧ τ (σ a) = a) ∧ ∀ x, x < n → τ x < n ∧ σ (τ x) = x := by
  have hl := firm_len hp hn
  have hd := firm_nodup (n := n) (l := l)
  have hm := fun x => firm_mem hp hn (x := x)
  generalize firmL (downsL n l) = F at *
  have h1 : ∀ a, ∃ x, a < n → x < n ∧ F.getD a 0 = (low l n x : Nat) := fun a => by
    by_cases ha : a < n
    · obtain ⟨x, hx, e⟩ := (hm _).1 (getD_mem (l := F) (d := 0) (show a < F.length by omega))
      exact ⟨x, fun _ => ⟨hx, e⟩⟩
    · exact ⟨0, fun h => absurd h ha⟩
  have h2 : ∀ x, ∃ a, x < n → a < n ∧ F.getD a 0 = (low l n x : Nat) := fun x => by
    by_cases hx : x < n
    · obtain ⟨a, ha, e⟩ := mem_getD (d := 0) ((hm _).2 ⟨x, hx, rfl⟩)
      exact ⟨a, fun _ => ⟨by omega, e⟩⟩
    · exact ⟨0, fun h => absurd h hx⟩
  obtain ⟨σ, hσ⟩ := Classical.axiomOfChoice h1
  obtain ⟨τ, hτ⟩ := Classical.axiomOfChoice h2
  refine ⟨σ, τ, fun a ha => ?_, fun x hx => ?_⟩
  · obtain ⟨k1, k2⟩ := hσ a ha
    obtain ⟨k3, k4⟩ := hτ _ k1
    exact ⟨k1, k2, idx_notmem hd (by omega) (by omega) (by rw [k4, k2])⟩
  · obtain ⟨k1, k2⟩ := hτ x hx
    obtain ⟨k3, k4⟩ := hσ _ k1
    exact ⟨k1, low_inj hp k3 hx (by omega)⟩
end
/-- an order's things in another order -/
theorem downs_le {n : Nat} {l l' : List PairD} (hp : PosOk n l) (hp' : PosOk n l') {σ τ : Nat → Nat} (_ : ∀ a, a < n → σ a < n) (h2 : ∀ x, x < n → τ x < n ∧ σ (τ x) = x) (h3 : ∀ a b, wk (relP l') n a b = true → wk (relP l) n (σ a) (σ b) = true) :
    (downsL n l).length ≤ (downsL n l').length := by
  have := nodup_sub (l := (downsL n l).map (fun x => ((mkS (fun i => x.toNat.testBit (σ i)) n : Nat) : Int))) (S := downsL n l') ?_ ?_
  · rwa [List.length_map] at this
  · rw [List.nodup_iff_pairwise_ne, List.pairwise_map]
    refine (downs_nodup (n := n) (l := l)).imp_of_mem (fun {x y} hx hy hxy e => hxy ?_)
    obtain ⟨s, hs, -, rfl⟩ := downs_mem.1 hx
    obtain ⟨t, ht, -, rfl⟩ := downs_mem.1 hy
    have e : mkS (fun i => (s : Int).toNat.testBit (σ i)) n = mkS (fun i => (t : Int).toNat.testBit (σ i)) n := by omega
    rw [Int.toNat_natCast, Int.toNat_natCast] at e
    congr 1
    refine Nat.eq_of_testBit_eq (fun x => ?_)
    by_cases hx : x < n
    · obtain ⟨k1, k2⟩ := h2 x hx
      have := congrArg (fun v : Nat => v.testBit (τ x)) e
      simp only [mkS_bit] at this
      rw [decide_eq_true k1, Bool.true_and, Bool.true_and, k2] at this
      exact this
    · rw [testBit_out hs (by omega), testBit_out ht (by omega)]
  · intro x hx
    obtain ⟨y, hy, rfl⟩ := List.mem_map.1 hx
    obtain ⟨s, hs, hd, rfl⟩ := downs_mem.1 hy
    refine downs_mem.2 ⟨_, mkS_lt, (isDown_iff hp').2 (fun i k hw hk => ?_), rfl⟩
    have ho := wk_out (pos_rel hp') hw
    rw [Int.toNat_natCast, mkS_bit, Bool.and_eq_true] at hk ⊢
    exact ⟨decide_eq_true ho.1, (isDown_iff hp).1 hd _ _ (h3 i k hw) hk.2⟩
theorem pairs_le {n : Nat} {g g' : Nat → Nat → Bool} {σ τ : Nat → Nat} (h1 : ∀ a, a < n → σ a < n ∧ τ (σ a) = a) (h3 : ∀ a b, a < n → b < n → g a b = true → g' (σ a) (σ b) = true) : (pairsF n g).length ≤ (pairsF n g').length := by
  have := nodup_sub (l := (pairsF n g).map (fun q => (((σ q.1.toNat : Nat) : Int), ((σ q.2.1.toNat : Nat) : Int), ()))) (S := pairsF n g') ?_ ?_
  · rwa [List.length_map] at this
  · rw [List.nodup_iff_pairwise_ne, List.pairwise_map]
    refine (pairsF_nodup (n := n) (g := g)).imp_of_mem (fun {x y} hx hy hxy e => hxy ?_)
    obtain ⟨a, b, ha, hb, -, rfl⟩ := pairsF_mem.1 hx
    obtain ⟨c, d, hc, hd, -, rfl⟩ := pairsF_mem.1 hy
    have e1 : ((σ (a : Int).toNat : Nat) : Int) = (σ (c : Int).toNat : Nat) := congrArg (fun q : PairD => q.1) e
    have e2 : ((σ (b : Int).toNat : Nat) : Int) = (σ (d : Int).toNat : Nat) := congrArg (fun q : PairD => q.2.1) e
    rw [Int.toNat_natCast, Int.toNat_natCast] at e1 e2
    have e1 : σ a = σ c := by omega
    have e2 : σ b = σ d := by omega
    rw [← (h1 a ha).2, ← (h1 b hb).2, e1, e2, (h1 c hc).2, (h1 d hd).2]
  · intro x hx
    obtain ⟨q, hq, rfl⟩ := List.mem_map.1 hx
    obtain ⟨a, b, ha, hb, hg, rfl⟩ := pairsF_mem.1 hq
    exact pairsF_mem.2 ⟨σ a, σ b, (h1 a ha).1, (h1 b hb).1, h3 a b ha hb hg, by rw [Int.toNat_natCast, Int.toNat_natCast]⟩
/-- BIRKHOFF: the order of the firm sets is the order -/
theorem birkhoff {n : Nat} {l : List PairD} (hp : PosOk n l) (hn : n ≤ 12) : PosOk n (pairsF n (backG (firmL (downsL n l)))) ∧ (downsL n (pairsF n (backG (firmL (downsL n l))))).length = (downsL n l).length ∧ (pairsF n (backG (firmL (downsL n l)))).length = (pairsF n (wk (relP l) n)).length := by
  obtain ⟨σ, τ, hσ, hτ⟩ := firm_perm hp hn
  have hpw := pow12 hn
  have hg : ∀ a b, a < n → b < n → (backG (firmL (downsL n l)) a b = true ↔ wk (relP l) n (σ a) (σ b) = true) := fun a b ha hb => by
    obtain ⟨a1, a2, a3⟩ := hσ a ha
    obtain ⟨b1, b2, b3⟩ := hσ b hb
    have la : low l n (σ a) < 2 ^ n := mkS_lt
    have lb : low l n (σ b) < 2 ^ n := mkS_lt
    rw [backG, Bool.and_eq_true, decide_eq_true_eq, a2, b2, within_nat (by omega) (by omega)]
    constructor
    · rintro ⟨k1, k2⟩
      rcases (low_bit hp b1).1 (k2 _ ((low_bit hp a1).2 (.inl rfl))) with h | h
      · exact absurd (by rw [← a3, ← b3, h]) k1
      · exact h
    · intro h
      refine ⟨fun e => ?_, fun i hi => (low_bit hp b1).2 ?_⟩
      · subst e; rw [pos_irr hp] at h; cases h
      · rcases (low_bit hp a1).1 hi with rfl | hi
        · exact .inr h
        · exact .inr (pos_trans hp hi h)
  generalize firmL (downsL n l) = F at *
  have hw : ∀ {k a b : Nat}, wk (relP (pairsF n (backG F))) k a b = true → (a < n ∧ b < n) ∧ wk (relP l) n (σ a) (σ b) = true := fun {k a b} h => by
    refine wk_least (T := fun a b => (a < n ∧ b < n) ∧ wk (relP l) n (σ a) (σ b) = true) (fun a b c h1 h2 => ⟨⟨h1.1.1, h2.1.2⟩, pos_trans hp h1.2 h2.2⟩) (fun a b hab => ?_) h
    obtain ⟨ha, hb, h⟩ := pairsF_rel.1 hab
    exact ⟨⟨ha, hb⟩, (hg a b ha hb).1 h⟩
  have hle : (pairsF n (backG F)).length ≤ n * n := pairsF_len
  have hle2 : n * n ≤ 12 * 12 := Nat.mul_le_mul hn hn
  have hq : PosOk n (pairsF n (backG F)) := by
    refine ⟨by omega, by omega, fun q hq => ?_, fun k hk => ?_⟩
    · obtain ⟨a, b, ha, hb, -, rfl⟩ := pairsF_mem.1 hq
      exact ⟨⟨by show (0 : Int) ≤ a; omega, by show (a : Int) < n; omega⟩, ⟨by show (0 : Int) ≤ b; omega, by show (b : Int) < n; omega⟩⟩
    · cases h : wk (relP (pairsF n (backG F))) n k k with
      | false => rfl
      | true => have := (hw h).2; rw [pos_irr hp] at this; cases this
  have hback : ∀ x y, wk (relP l) n x y = true → wk (relP (pairsF n (backG F))) n (τ x) (τ y) = true := fun x y h => by
    have ho := wk_out (pos_rel hp) h
    obtain ⟨x1, x2⟩ := hτ x ho.1
    obtain ⟨y1, y2⟩ := hτ y ho.2
    refine wk_ge (pairsF_rel.2 ⟨x1, y1, (hg _ _ x1 y1).2 ?_⟩) n
    rw [x2, y2]; exact h
  refine ⟨hq, Nat.le_antisymm ?_ ?_, Nat.le_antisymm ?_ ?_⟩
  · exact downs_le hq hp (σ := τ) (τ := σ) (fun x hx => (hτ x hx).1) (fun a ha => ⟨(hσ a ha).1, (hσ a ha).2.2⟩) hback
  · exact downs_le hp hq (σ := σ) (τ := τ) (fun a ha => (hσ a ha).1) hτ (fun a b h => (hw h).2)
  · exact pairs_le (σ := σ) (τ := τ) (fun a ha => ⟨(hσ a ha).1, (hσ a ha).2.2⟩) (fun a b ha hb h => (hg a b ha hb).1 h)
  · refine pairs_le (σ := τ) (τ := σ) hτ (fun x y hx hy h => ?_)
    obtain ⟨x1, x2⟩ := hτ x hx
    obtain ⟨y1, y2⟩ := hτ y hy
    refine (hg _ _ x1 y1).2 ?_
    rw [x2, y2]; exact h
end Go.Proofs.Ytehmefjnkbjiiaa
