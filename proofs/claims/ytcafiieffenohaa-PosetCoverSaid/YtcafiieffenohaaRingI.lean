/- The two ways to find the first one: bounds, and what turning and order leave as it is. -/
import Derived.Test.YtcafiieffenohaaRingH
namespace Go.Proofs.Ytcafiieffenohaa
open Go.Ex
set_option maxRecDepth 100000
theorem hGo_spec {l : List Int} (h : RingOk l) {J : Nat} (hJ : l.length ≤ 2 ^ J) (hJ2 : ∀ i, i < J → 2 ^ i < l.length) : ∀ {f j : Nat} {act : List Bool} {k : Int}, 1 ≤ j → j ≤ J → Left l (2 ^ (j - 1)) act → J < j + f →
    (∃ M, l.length ≤ M ∧ Left l M (hGo l f (2 ^ j) act k).1) ∧ k ≤ (hGo l f (2 ^ j) act k).2 ∧ (hGo l f (2 ^ j) act k).2 ≤ k + 8 * (l.length : Int) * ((J + 1 - j : Nat) : Int)
  | 0, j, act, k, h1, h2, ha, hf => by omega
  | f + 1, j, act, k, h1, h2, ha, hf => by
    have hp : 2 ^ j = 2 * 2 ^ (j - 1) := by rw [← Nat.pow_succ']; congr 1; omega
    have hpos : 1 ≤ 2 ^ (j - 1) := Nat.one_le_two_pow
    have hlt := hJ2 (j - 1) (by omega)
    have hfew := few_left h hlt ha
    have hc := cost_high (l := l) (m := 2 ^ j) (by omega) (act := act)
    have hn := cost_nn (l := l) (m := 2 ^ j) (by omega) (act := act)
    have hs := step_left (l := l) (m := 2 ^ j) (by omega) (by omega) ha
    have hcost : costF l (2 ^ j) act ≤ 8 * (l.length : Int) := by
      refine Int.le_trans hc ?_
      generalize ((List.range l.length).filter (fun i => act.getD i false)).length = A at hfew
      have e : ((2 ^ j : Nat) : Int) = 2 * ((2 ^ (j - 1) : Nat) : Int) := by rw [hp]; omega
      rw [e]
      have h9 : ((A * (2 ^ (j - 1) + 1) : Nat) : Int) ≤ (l.length : Int) := Int.ofNat_le.2 hfew
      rw [Int.natCast_mul, Int.natCast_add, Int.mul_add] at h9
      have h8 : (A : Int) * (4 * (2 * ((2 ^ (j - 1) : Nat) : Int))) = 8 * ((A : Int) * ((2 ^ (j - 1) : Nat) : Int)) := by
        rw [show (4 : Int) * (2 * ((2 ^ (j - 1) : Nat) : Int)) = 8 * ((2 ^ (j - 1) : Nat) : Int) by omega, Int.mul_left_comm]
      rw [h8]
      omega
    rw [hGo]
    split
    · rename_i hle
      have : j = J := by
        rcases Nat.lt_or_ge j J with h3 | h3
        · have := hJ2 j h3; omega
        · omega
      subst this
      refine ⟨⟨2 ^ j, hle, hs⟩, by omega, ?_⟩
      show k + costF l (2 ^ j) act ≤ _
      rw [show j + 1 - j = 1 by omega]; omega
    · rename_i hle
      have hj : j < J := by
        rcases Nat.lt_or_ge j J with h3 | h3
        · exact h3
        · have : j = J := by omega
          subst this; omega
      have e2 : 2 * 2 ^ j = 2 ^ (j + 1) := (Nat.pow_succ').symm
      rw [e2]
      obtain ⟨a, b, c⟩ := hGo_spec h hJ hJ2 (f := f) (j := j + 1) (act := stepB l (2 ^ j) act) (k := k + costF l (2 ^ j) act) (by omega) (by omega) (by rw [Nat.add_sub_cancel]; exact hs) (by omega)
      refine ⟨a, by omega, Int.le_trans c ?_⟩
      rw [show J + 1 - j = (J + 1 - (j + 1)) + 1 by omega, Int.natCast_add, Int.mul_add]
      omega
theorem left_zero {l : List Int} : Left l 0 (List.replicate l.length true) := ⟨by simp, fun i hi => by rw [repF _ _ hi]; exact ⟨fun _ s c h1 h2 => by omega, fun _ => rfl⟩⟩
theorem halves_spec {l : List Int} (h : RingOk l) {J : Nat} (hJ : l.length ≤ 2 ^ J) (hJ2 : ∀ i, i < J → 2 ^ i < l.length) :
    (∃ M, l.length ≤ M ∧ Left l M (halvesB l).1) ∧ 2 * (l.length : Int) ≤ (halvesB l).2 ∧ (halvesB l).2 ≤ 4 * (l.length : Int) + 8 * (l.length : Int) * (J : Int) := by
  have hJ5 : J ≤ 5 := by
    rcases Nat.lt_or_ge 5 J with h1 | h1
    · have := hJ2 5 h1
      have := h.le
      omega
    · exact h1
  have hlow := cost_low (l := l) (m := 1) (Nat.le_refl _) (act := List.replicate l.length true) (fun i hi => repF _ _ hi _)
  have hhigh := cost_high (l := l) (m := 1) (Nat.le_refl _) (act := List.replicate l.length true)
  have hfl : ((List.range l.length).filter (fun i => (List.replicate l.length true).getD i false)).length ≤ l.length := by
    have := List.length_filter_le (fun i => (List.replicate l.length true).getD i false) (List.range l.length)
    rw [List.length_range] at this; exact this
  have hh : costF l 1 (List.replicate l.length true) ≤ 4 * (l.length : Int) := by
    refine Int.le_trans hhigh ?_
    generalize ((List.range l.length).filter (fun i => (List.replicate l.length true).getD i false)).length = A at hfl
    show (A : Int) * (4 * 1) ≤ _
    omega
  have hs := step_left (l := l) (m := 1) (Nat.le_refl _) (Nat.zero_le _) left_zero
  unfold halvesB
  rw [hGo]
  split
  · rename_i hle
    refine ⟨⟨1, hle, hs⟩, ?_, ?_⟩
    · show 2 * (l.length : Int) ≤ 0 + costF l 1 _; omega
    · show 0 + costF l 1 _ ≤ _
      have : 0 ≤ 8 * (l.length : Int) * (J : Int) := Int.mul_nonneg (by omega) (by omega)
      omega
  · rename_i hle
    have hJ1 : 1 ≤ J := by
      rcases Nat.eq_zero_or_pos J with h1 | h1
      · subst h1; simp at hJ; omega
      · exact h1
    obtain ⟨a, b, c⟩ := hGo_spec h hJ hJ2 (f := 5) (j := 1) (act := stepB l 1 (List.replicate l.length true)) (k := 0 + costF l 1 (List.replicate l.length true)) (Nat.le_refl _) hJ1 hs (by omega)
    refine ⟨a, Int.le_trans (by omega) b, Int.le_trans c ?_⟩
    rw [show J + 1 - 1 = J by omega]; omega
theorem some_J {n : Nat} (h1 : n ≤ 30) : ∃ J, n ≤ 2 ^ J ∧ ∀ i, i < J → 2 ^ i < n := by
  have key : ∀ {J : Nat}, n ≤ 2 ^ J → ∃ J, n ≤ 2 ^ J ∧ ∀ i, i < J → 2 ^ i < n := by
    intro J
    induction J with
    | zero => intro h; exact ⟨0, h, fun i hi => by omega⟩
    | succ J ih =>
      intro h
      by_cases e : n ≤ 2 ^ J
      · exact ih e
      · refine ⟨J + 1, h, fun i hi => ?_⟩
        have : 2 ^ i ≤ 2 ^ J := Nat.pow_le_pow_right (by omega) (by omega)
        omega
  exact key (J := 5) (by omega)
/-- who is left in the end -/
theorem halves_first {l : List Int} (h : RingOk l) : idxOf (fun y => decide (true = y)) (halvesB l).1 = leaderF l := by
  obtain ⟨J, hJ, hJ2⟩ := some_J h.le
  obtain ⟨⟨M, hM, hl, hw⟩, _⟩ := halves_spec h hJ hJ2
  obtain ⟨p, hp, e, _, hm⟩ := leader_spec h
  rw [e]
  have hpos := h.pos
  have hit : (halvesB l).1.getD p false = true := (hw p hp).2 (fun s c h1 h2 => by
    have := ringAt_le h hm (k := nb l.length s p c)
    rw [ringAt_lt (nb_lt hpos)] at this; exact this)
  have hno : ∀ i, i < p → (halvesB l).1.getD i false = false := by
    intro i hi
    cases hb : (halvesB l).1.getD i false with
    | false => rfl
    | true =>
      exfalso
      have w := (hw i (by omega)).1 hb
      have := w true (p - i) (by omega) (by omega)
      have : l.getD ((i + (p - i)) % l.length) 0 ≤ l.getD i 0 := this
      rw [show i + (p - i) = p by omega, Nat.mod_eq_of_lt hp] at this
      have := hm i (by omega) (by omega)
      omega
  have := idxGo_hit (p := fun y => decide (true = y)) (d := false) (l := (halvesB l).1) (j := 0) (k := p) (by rw [hl]; exact hp) (decide_eq_true hit.symm) (fun i hi => decide_eq_false (by rw [hno i hi]; simp))
  rw [Nat.zero_add] at this; exact this

/-! rings that are alike -/
structure RIso (l t : List Int) (σ : Nat → Nat) : Prop where
  len : t.length = l.length
  lt : ∀ k, k < l.length → σ k < l.length
  inj : ∀ a b, a < l.length → b < l.length → σ a = σ b → a = b
  nbs : ∀ s k d, k < l.length → σ (nb l.length s k d) = nb l.length s (σ k) d
  le : ∀ a b, a < l.length → b < l.length → (t.getD a 0 ≤ t.getD b 0 ↔ l.getD (σ a) 0 ≤ l.getD (σ b) 0)
  sum : ∀ F : Nat → Int, sumN (fun k => F (σ k)) l.length = sumN F l.length
section
variable {l t : List Int} {σ : Nat → Nat} (hs : RIso l t σ) (hn : 1 ≤ l.length)
include hs hn
theorem iso_dGo {k : Nat} (hk : k < l.length) : ∀ {f d : Nat}, dGo t k f d = dGo l (σ k) f d
  | 0, d => rfl
  | f + 1, d => by
    have e1 : ringAt t k = t.getD k 0 := ringAt_lt (by rw [hs.len]; exact hk)
    have e2 : ringAt l (σ k) = l.getD (σ k) 0 := ringAt_lt (hs.lt k hk)
    have e3 : ringAt t (k + d) = t.getD (nb l.length true k d) 0 := by rw [ringAt, hs.len]; rfl
    have e4 : ringAt l (σ k + d) = l.getD (σ (nb l.length true k d)) 0 := by rw [hs.nbs true k d hk]; rfl
    have := hs.le k (nb l.length true k d) hk (nb_lt hn)
    rw [dGo, dGo, e1, e2, e3, e4, iso_dGo hk (f := f) (d := d + 1)]
    by_cases h : t.getD k 0 ≤ t.getD (nb l.length true k d) 0
    · rw [if_pos h, if_pos (this.1 h)]
    · rw [if_neg h, if_neg (fun h2 => h (this.2 h2))]
theorem iso_round : roundF t = roundF l := by
  rw [roundF, roundF, hs.len, ← hs.sum (fun i => (dist l i : Int))]
  exact sumN_congr (fun i hi => by rw [dist, dist, hs.len, iso_dGo hs hn hi])
theorem iso_sGo {s : Bool} {k : Nat} (hk : k < l.length) : ∀ {f d : Nat}, sGo t s k f d = sGo l s (σ k) f d
  | 0, d => rfl
  | f + 1, d => by
    have h1 := hs.le (nb l.length s k d) k (nb_lt hn) hk
    rw [sGo, sGo, hs.len, iso_sGo hk (f := f) (d := d + 1), ← hs.nbs s k d hk]
    by_cases h : nb l.length s k d = k
    · rw [if_pos h, if_pos (by rw [h])]
    · rw [if_neg h, if_neg (fun e => h (hs.inj _ _ (nb_lt hn) hk e))]
      by_cases h2 : t.getD (nb l.length s k d) 0 ≤ t.getD k 0
      · rw [if_neg (by omega), if_neg (by have := h1.1 h2; omega)]
      · rw [if_pos (by omega), if_pos (by have := fun h3 => h2 (h1.2 h3); omega)]
def Along (l : List Int) (σ : Nat → Nat) (b a : List Bool) : Prop := ∀ k, k < l.length → b.getD k false = a.getD (σ k) false
theorem iso_step {m : Nat} {a b : List Bool} (h : Along l σ b a) : Along l σ (stepB t m b) (stepB l m a) := by
  intro k hk
  rw [stepB, stepB, hs.len, getD_map_range _ _ hk, getD_map_range _ _ (hs.lt k hk), h k hk, sendF, sendF, sendF, sendF, iso_sGo hs hn hk, iso_sGo hs hn hk]
theorem iso_cost {m : Nat} {a b : List Bool} (h : Along l σ b a) : costF t m b = costF l m a := by
  rw [costF, costF, hs.len, ← hs.sum (fun i => if a.getD i false = true then (sendF l true i m).1 + (sendF l false i m).1 else 0)]
  refine sumN_congr (fun k hk => ?_)
  rw [h k hk, sendF, sendF, sendF, sendF, iso_sGo hs hn hk, iso_sGo hs hn hk]
theorem iso_hGo : ∀ {f m : Nat} {a b : List Bool} {k : Int}, Along l σ b a → Along l σ (hGo t f m b k).1 (hGo l f m a k).1 ∧ (hGo t f m b k).2 = (hGo l f m a k).2
  | 0, m, a, b, k, h => ⟨h, rfl⟩
  | f + 1, m, a, b, k, h => by
    rw [hGo, hGo, hs.len, iso_cost hs hn h]
    split
    · exact ⟨iso_step hs hn h, rfl⟩
    · exact iso_hGo (iso_step hs hn h)
theorem iso_halves : (halvesB t).2 = (halvesB l).2 := by
  unfold halvesB
  rw [hs.len]
  exact (iso_hGo hs hn (fun k hk => by rw [repF _ _ hk, repF _ _ (hs.lt k hk)])).2
end

/-! turned round -/
def turnL (l : List Int) (i : Nat) : List Int := l.drop i ++ l.take i
theorem turn_len {l : List Int} {i : Nat} (hi : i ≤ l.length) : (turnL l i).length = l.length := by
  rw [turnL, List.length_append, List.length_drop, List.length_take]; omega
theorem turn_at {l : List Int} {i k : Nat} (hi : i < l.length) (hk : k < l.length) : (turnL l i).getD k 0 = l.getD ((k + i) % l.length) 0 := by
  rw [turnL]
  by_cases h : k < l.length - i
  · rw [getD_app_left (by rw [List.length_drop]; exact h), Nat.mod_eq_of_lt (by omega), List.getD_eq_getElem?_getD, List.getD_eq_getElem?_getD, List.getElem?_drop, Nat.add_comm k i]
  · rw [getD_app_right (by rw [List.length_drop]; omega), List.length_drop, show (k + i) % l.length = k - (l.length - i) by
      rw [show k + i = (k - (l.length - i)) + l.length by omega, Nat.add_mod_right, Nat.mod_eq_of_lt (by omega)]]
    rw [List.getD_eq_getElem?_getD, List.getD_eq_getElem?_getD, List.getElem?_take, if_pos (by omega)]
theorem turn_mem {l : List Int} {i : Nat} {x : Int} : x ∈ turnL l i ↔ x ∈ l := by
  rw [turnL, List.mem_append, or_comm, ← List.mem_append, List.take_append_drop]
theorem turn_ok {l : List Int} (h : RingOk l) {i : Nat} (hi : i ≤ l.length) : RingOk (turnL l i) := by
  refine ⟨by rw [turn_len hi]; exact h.pos, by rw [turn_len hi]; exact h.le, fun x hx => h.rng x (turn_mem.1 hx), ?_⟩
  have hnd := h.nd
  rw [← List.take_append_drop i l, List.nodup_append] at hnd
  exact List.nodup_append.2 ⟨hnd.2.1, hnd.1, fun a ha b hb e => hnd.2.2 b hb a ha e.symm⟩
theorem turn_iso {l : List Int} {i : Nat} (hi : i < l.length) : RIso l (turnL l i) (fun k => (k + i) % l.length) := by
  have hn : 0 < l.length := by omega
  refine ⟨turn_len (by omega), fun k _ => Nat.mod_lt _ hn, fun a b ha hb e => mod_inj (i := i) ha hb (by rw [Nat.add_comm i a, Nat.add_comm i b]; exact e), fun s k d _ => ?_, fun a b ha hb => by rw [turn_at hi ha, turn_at hi hb], fun F => ?_⟩
  · cases s
    · show ((k + (l.length - d % l.length)) % l.length + i) % l.length = ((k + i) % l.length + (l.length - d % l.length)) % l.length
      rw [Nat.mod_add_mod, Nat.mod_add_mod]; congr 1; omega
    · show ((k + d) % l.length + i) % l.length = ((k + i) % l.length + d) % l.length
      rw [Nat.mod_add_mod, Nat.mod_add_mod]; congr 1; omega
  · have e1 := sumN_split (f := fun k => F ((k + i) % l.length)) (a := l.length - i) (b := i)
    have e2 := sumN_split (f := F) (a := i) (b := l.length - i)
    rw [show l.length - i + i = l.length by omega] at e1
    rw [show i + (l.length - i) = l.length by omega] at e2
    rw [e1, e2, sumN_congr (f := fun k => F ((k + i) % l.length)) (g := fun k => F (i + k)) (fun k hk => by rw [Nat.mod_eq_of_lt (by omega), Nat.add_comm]),
      sumN_congr (f := fun k => F ((l.length - i + k + i) % l.length)) (g := F) (fun k hk => by rw [show l.length - i + k + i = k + l.length by omega, Nat.add_mod_right, Nat.mod_eq_of_lt (by omega)])]
    omega
theorem maxL_congr {l t : List Int} (hl : 1 ≤ l.length) (ht : 1 ≤ t.length) (h : ∀ x, x ∈ t ↔ x ∈ l) : maxL t = maxL l := by
  obtain ⟨a, b⟩ := maxL_spec hl
  obtain ⟨c, d⟩ := maxL_spec ht
  have h1 := b _ ((h _).1 c)
  have h2 := d _ ((h _).2 a)
  omega

/-! only the order matters -/
def dblL (l : List Int) : List Int := l.map (fun x => 2 * x + 1)
theorem dbl_at {l : List Int} {k : Nat} (hk : k < l.length) : (dblL l).getD k 0 = 2 * l.getD k 0 + 1 := by rw [dblL, getD_map' (d' := 0) hk]
theorem dbl_iso {l : List Int} : RIso l (dblL l) (fun k => k) := by
  refine ⟨by simp [dblL], fun k h => h, fun a b _ _ h => h, fun _ _ _ _ => rfl, fun a b ha hb => ?_, fun _ => rfl⟩
  rw [dbl_at ha, dbl_at hb]
  generalize l.getD a 0 = x
  generalize l.getD b 0 = y
  omega
theorem ringGo_dbl : ∀ {t pre : List Int}, (∀ x ∈ t, 0 ≤ x ∧ x ≤ 1000000) → ringGo (dblL pre) (dblL t) = ringGo pre t
  | [], pre, _ => rfl
  | x :: t, pre, h => by
    have hx := h x (by simp)
    have ih := ringGo_dbl (t := t) (pre := pre ++ [x]) (fun y hy => h y (by simp [hy]))
    have e : dblL (pre ++ [x]) = dblL pre ++ [2 * x + 1] := by simp [dblL]
    rw [e] at ih
    show ringGo (dblL pre) ((2 * x + 1) :: dblL t) = _
    rw [ringGo, ringGo, ih, if_neg (show ¬ (2 * x + 1 < 0 ∨ 16777215 < 2 * x + 1) by omega), if_neg (show ¬ (x < 0 ∨ 16777215 < x) by omega)]
    have hm : (2 * x + 1 ∈ dblL pre) ↔ x ∈ pre := by
      rw [dblL, List.mem_map]
      exact ⟨fun ⟨y, hy, e⟩ => by have : y = x := by omega
                                  exact this ▸ hy, fun h => ⟨x, h, rfl⟩⟩
    by_cases h2 : x ∈ pre
    · rw [if_pos h2, if_pos (hm.2 h2)]
    · rw [if_neg h2, if_neg (fun h3 => h2 (hm.1 h3))]
theorem rcheck_dbl {l : List Int} (h : ∀ x ∈ l, 0 ≤ x ∧ x ≤ 1000000) : rcheck (dblL l) = rcheck l := by
  rw [rcheck, rcheck, show (dblL l).length = l.length by simp [dblL]]
  rw [show ringGo [] (dblL l) = ringGo [] l from ringGo_dbl (pre := []) h]
theorem leader_dbl {l : List Int} (h : RingOk l) (h' : RingOk (dblL l)) : leaderF (dblL l) = leaderF l := by
  obtain ⟨p, hp, e, _, hm⟩ := leader_spec h
  obtain ⟨q, hq, e', _, hm'⟩ := leader_spec h'
  have hl : (dblL l).length = l.length := by simp [dblL]
  rw [hl] at hq hm'
  rw [e, e']
  by_cases hpq : p = q
  · rw [hpq]
  · exfalso
    have h1 := hm q hq (Ne.symm hpq)
    have h2 := hm' p hp hpq
    rw [dbl_at hp, dbl_at hq] at h2
    omega
end Go.Proofs.Ytcafiieffenohaa
