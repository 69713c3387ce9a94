/- Rings of numbers, in plain words: who is first; how far a number goes; the two ways to find the first one. -/
import Derived.Test.YtcafiieffenohaaUtil
namespace Go.Proofs.Ytcafiieffenohaa
open Go.Ex
set_option maxRecDepth 100000

theorem sub_len {α : Type} : ∀ {L M : List α}, L.Nodup → (∀ x ∈ L, x ∈ M) → L.length ≤ M.length
  | [], _, _, _ => Nat.zero_le _
  | x :: L, M, hn, h => by
    obtain ⟨hx, hn'⟩ := List.nodup_cons.1 hn
    obtain ⟨A, C, rfl⟩ := List.append_of_mem (h x (by simp))
    have := sub_len (L := L) (M := A ++ C) hn' (fun y hy => by
      have := h y (by simp [hy])
      simp only [List.mem_append, List.mem_cons] at this ⊢
      rcases this with h1 | rfl | h1
      · exact .inl h1
      · exact absurd hy hx
      · exact .inr h1)
    simp only [List.length_append, List.length_cons] at this ⊢
    omega
theorem map_nodup {α β : Type} {f : α → β} : ∀ {l : List α}, l.Nodup → (∀ x ∈ l, ∀ y ∈ l, f x = f y → x = y) → (l.map f).Nodup
  | [], _, _ => List.nodup_nil
  | x :: l, hn, h => by
    obtain ⟨hx, hn'⟩ := List.nodup_cons.1 hn
    refine List.nodup_cons.2 ⟨fun hm => ?_, map_nodup hn' (fun a ha b hb => h a (by simp [ha]) b (by simp [hb]))⟩
    obtain ⟨y, hy, e⟩ := List.mem_map.1 hm
    exact hx (h y (by simp [hy]) x (by simp) e ▸ hy)
theorem cnt_sumN {p : Nat → Bool} : ∀ {n : Nat}, (((List.range n).filter p).length : Int) = sumN (fun j => if p j = true then 1 else 0) n
  | 0 => rfl
  | n + 1 => by
    rw [List.range_succ, List.filter_append, List.length_append, sumN, ← cnt_sumN (n := n)]
    cases h : p n <;> simp [h]
theorem sumN_one {a b : Int} {p : Nat} : ∀ {n : Nat}, p < n → sumN (fun i => if i = p then a else b) n = a + (n - 1) * b
  | 0, h => by omega
  | n + 1, h => by
    rw [sumN]
    by_cases e : n = p
    · subst e
      rw [sumN_congr (g := fun _ => b) (fun i hi => if_neg (by omega)), sumN_const, if_pos rfl]
      have : ((n + 1 : Nat) : Int) - 1 = n := by omega
      rw [this]; omega
    · rw [sumN_one (by omega), if_neg e]
      have : ((n + 1 : Nat) : Int) - 1 = ((n : Int) - 1) + 1 := by omega
      rw [this, Int.add_mul]; omega
theorem mod_inj {n i a b : Nat} (ha : a < n) (hb : b < n) (h : (i + a) % n = (i + b) % n) : a = b := by
  have h0 : 0 < n := by omega
  have e1 := Nat.div_add_mod (i + a) n
  have e2 := Nat.div_add_mod (i + b) n
  have m1 := Nat.mod_lt (i + a) h0
  rcases Nat.lt_trichotomy ((i + a) / n) ((i + b) / n) with h1 | h1 | h1
  · have := Nat.mul_le_mul_left n (show (i + a) / n + 1 ≤ (i + b) / n from h1)
    rw [Nat.mul_add] at this; omega
  · rw [h1] at e1; omega
  · have := Nat.mul_le_mul_left n (show (i + b) / n + 1 ≤ (i + a) / n from h1)
    rw [Nat.mul_add] at this; omega

/-! the check -/
def ringGo (pre : List Int) : List Int → Int
  | [] => 0
  | x :: t => if x < 0 ∨ 16777215 < x then 1 else if x ∈ pre then 4 else ringGo (pre ++ [x]) t
def rcheck (l : List Int) : Int := if l.length < 1 ∨ 30 < l.length then 1 else ringGo [] l
structure RingOk (l : List Int) : Prop where
  pos : 1 ≤ l.length
  le : l.length ≤ 30
  rng : ∀ x ∈ l, 0 ≤ x ∧ x ≤ 16777215
  nd : l.Nodup
theorem ringGo_iff : ∀ {t pre : List Int}, pre.Nodup → (∀ x ∈ pre, 0 ≤ x ∧ x ≤ 16777215) → (ringGo pre t = 0 ↔ (pre ++ t).Nodup ∧ ∀ x ∈ pre ++ t, 0 ≤ x ∧ x ≤ 16777215)
  | [], pre, hn, hr => by simp only [ringGo, List.append_nil, true_iff]; exact ⟨hn, hr⟩
  | x :: t, pre, hn, hr => by
    rw [ringGo]
    split
    · rename_i h
      constructor
      · intro h1; cases h1
      · rintro ⟨_, h2⟩; have := h2 x (by simp); omega
    · rename_i h
      split
      · rename_i h2
        constructor
        · intro h1; cases h1
        · rintro ⟨h3, _⟩
          exact absurd rfl ((List.nodup_append.1 h3).2.2 x h2 x (by simp))
      · rename_i h2
        have hn' : (pre ++ [x]).Nodup := List.nodup_append.2 ⟨hn, by simp, fun a ha b hb => by
          rintro rfl
          have : a = x := by simpa using hb
          exact h2 (this ▸ ha)⟩
        have := ringGo_iff (t := t) hn' (fun y hy => by
          rcases List.mem_append.1 hy with h3 | h3
          · exact hr y h3
          · have : y = x := by simpa using h3
            subst this; omega)
        rw [this, List.append_assoc]; rfl
theorem rcheck_iff {l : List Int} : rcheck l = 0 ↔ RingOk l := by
  unfold rcheck
  split
  · rename_i h
    exact ⟨fun h1 => (by cases h1), fun h1 => (by have := h1.pos; have := h1.le; omega)⟩
  · rename_i h
    rw [ringGo_iff List.nodup_nil (by simp), List.nil_append]
    exact ⟨fun h1 => ⟨by omega, by omega, h1.2, h1.1⟩, fun h1 => ⟨h1.nd, h1.rng⟩⟩
theorem RingOk.inj {l : List Int} (h : RingOk l) {i j : Nat} (hi : i < l.length) (hj : j < l.length) (e : l.getD i 0 = l.getD j 0) : i = j := by
  rw [List.getD_eq_getElem?_getD, List.getD_eq_getElem?_getD, List.getElem?_eq_getElem hi, List.getElem?_eq_getElem hj] at e
  have e : l[i] = l[j] := e
  have hp := List.pairwise_iff_getElem.1 h.nd
  rcases Nat.lt_trichotomy i j with h1 | h1 | h1
  · exact absurd e (hp i j hi hj h1)
  · exact h1
  · exact absurd e.symm (hp j i hj hi h1)

/-! how far a number goes -/
def ringAt (l : List Int) (k : Nat) : Int := l.getD (k % l.length) 0
def dGo (l : List Int) (i : Nat) : Nat → Nat → Nat
  | 0, d => d
  | f + 1, d => if ringAt l i ≤ ringAt l (i + d) then d else dGo l i f (d + 1)
def dist (l : List Int) (i : Nat) : Nat := dGo l i l.length 1
def roundF (l : List Int) : Int := sumN (fun i => (dist l i : Int)) l.length
theorem ringAt_lt {l : List Int} {k : Nat} (h : k < l.length) : ringAt l k = l.getD k 0 := by rw [ringAt, Nat.mod_eq_of_lt h]
theorem dGo_spec {l : List Int} {i e : Nat} (he : ringAt l i ≤ ringAt l (i + e)) : ∀ {f d : Nat}, e < d + f → d ≤ e → d ≤ dGo l i f d ∧ dGo l i f d ≤ e ∧ ringAt l i ≤ ringAt l (i + dGo l i f d) ∧ ∀ c, d ≤ c → c < dGo l i f d → ringAt l (i + c) < ringAt l i
  | 0, d, h1, h2 => by omega
  | f + 1, d, h1, h2 => by
    rw [dGo]
    split
    · rename_i h; exact ⟨Nat.le_refl _, h2, h, fun c h3 h4 => by omega⟩
    · rename_i h
      have hne : d ≠ e := by rintro rfl; exact h he
      obtain ⟨a, b, c, g⟩ := dGo_spec he (f := f) (d := d + 1) (by omega) (by omega)
      exact ⟨by omega, b, c, fun c h3 h4 => by
        by_cases e2 : c = d
        · subst e2; omega
        · exact g c (by omega) h4⟩
theorem dist_spec {l : List Int} {i : Nat} (hl : 1 ≤ l.length) : 1 ≤ dist l i ∧ dist l i ≤ l.length ∧ ringAt l i ≤ ringAt l (i + dist l i) ∧ ∀ c, 1 ≤ c → c < dist l i → ringAt l (i + c) < ringAt l i :=
  dGo_spec (e := l.length) (by rw [ringAt, ringAt, Nat.add_mod_right]; exact Int.le_refl _) (by omega) hl
theorem dist_eq {l : List Int} {i d : Nat} (hl : 1 ≤ l.length) (h1 : 1 ≤ d) (h2 : ringAt l i ≤ ringAt l (i + d)) (h3 : ∀ c, 1 ≤ c → c < d → ringAt l (i + c) < ringAt l i) : dist l i = d := by
  obtain ⟨a, b, c, g⟩ := dist_spec (i := i) hl
  rcases Nat.lt_trichotomy (dist l i) d with h | h | h
  · have := h3 _ a h; omega
  · exact h
  · have := g d h1 h; omega

/-! the first one -/
def maxI (a b : Int) : Int := if a < b then b else a
def maxL : List Int → Int
  | [] => 0
  | x :: t => t.foldl maxI x
theorem foldl_max : ∀ {t : List Int} {x : Int}, x ≤ t.foldl maxI x ∧ (∀ y ∈ t, y ≤ t.foldl maxI x) ∧ (t.foldl maxI x = x ∨ t.foldl maxI x ∈ t)
  | [], x => by simp
  | y :: t, x => by
    obtain ⟨a, b, c⟩ := foldl_max (t := t) (x := maxI x y)
    have h1 : x ≤ maxI x y ∧ y ≤ maxI x y ∧ (maxI x y = x ∨ maxI x y = y) := by unfold maxI; split <;> omega
    rw [List.foldl_cons]
    refine ⟨by omega, fun z hz => ?_, ?_⟩
    · rcases List.mem_cons.1 hz with rfl | hz
      · omega
      · exact b z hz
    · rcases c with c | c
      · rw [c]; rcases h1.2.2 with h2 | h2
        · exact .inl h2
        · exact .inr (by rw [h2]; simp)
      · exact .inr (by simp [c])
theorem maxL_spec {l : List Int} (h : 1 ≤ l.length) : maxL l ∈ l ∧ ∀ y ∈ l, y ≤ maxL l := by
  match l, h with
  | x :: t, _ =>
    obtain ⟨a, b, c⟩ := foldl_max (t := t) (x := x)
    refine ⟨?_, fun y hy => ?_⟩
    · show t.foldl maxI x ∈ _
      rcases c with c | c
      · rw [c]; simp
      · simp [c]
    · rcases List.mem_cons.1 hy with rfl | hy
      · exact a
      · exact b y hy
def idxGo {α : Type} (p : α → Bool) : List α → Nat → Int
  | [], _ => -1
  | x :: l, i => if p x = true then (i : Int) else idxGo p l (i + 1)
def idxOf {α : Type} (p : α → Bool) (l : List α) : Int := idxGo p l 0
theorem idxGo_hit {α : Type} {p : α → Bool} {d : α} : ∀ {l : List α} {j k : Nat}, k < l.length → p (l.getD k d) = true → (∀ i, i < k → p (l.getD i d) = false) → idxGo p l j = ((j + k : Nat) : Int)
  | [], _, _, h, _, _ => by simp at h
  | x :: l, j, 0, _, h, _ => by
    have h : p x = true := h
    rw [idxGo, if_pos h]; rfl
  | x :: l, j, k + 1, hk, h, hn => by
    have h0 : p x = false := hn 0 (by omega)
    rw [idxGo, if_neg (by rw [h0]; simp), idxGo_hit (k := k) (by simpa using hk) h (fun i hi => hn (i + 1) (by omega))]
    congr 1; omega
theorem idxGo_iff {α : Type} {p : α → Bool} : ∀ {l : List α} {i : Nat}, 0 ≤ idxGo p l i ↔ ∃ x ∈ l, p x = true
  | [], i => by simp [idxGo]
  | x :: l, i => by
    rw [idxGo]
    split
    · rename_i h; exact ⟨fun _ => ⟨x, by simp, h⟩, fun _ => by omega⟩
    · rename_i h
      rw [idxGo_iff]
      constructor
      · rintro ⟨y, h1, h2⟩; exact ⟨y, by simp [h1], h2⟩
      · rintro ⟨y, h1, h2⟩
        rcases List.mem_cons.1 h1 with rfl | h1
        · exact absurd h2 h
        · exact ⟨y, h1, h2⟩
def leaderF (l : List Int) : Int := idxOf (fun y => decide (maxL l = y)) l
/-- where the greatest one stands -/
theorem leader_spec {l : List Int} (h : RingOk l) : ∃ p : Nat, p < l.length ∧ leaderF l = p ∧ l.getD p 0 = maxL l ∧ ∀ j, j < l.length → j ≠ p → l.getD j 0 < l.getD p 0 := by
  obtain ⟨h1, h2⟩ := maxL_spec h.pos
  obtain ⟨p, hp, he⟩ := mem_getD (d := 0) h1
  refine ⟨p, hp, ?_, he, fun j hj hne => ?_⟩
  · have := idxGo_hit (p := fun y => decide (maxL l = y)) (d := 0) (l := l) (j := 0) hp (decide_eq_true he.symm) (fun i hi => decide_eq_false (fun e => by
      have := h.inj (show i < l.length by omega) hp (by rw [he, ← e]); omega))
    rw [Nat.zero_add] at this; exact this
  · have h3 := h2 _ (getD_mem (d := 0) hj)
    have h4 : l.getD j 0 ≠ l.getD p 0 := fun e => hne (h.inj hj hp e)
    omega
theorem ringAt_le {l : List Int} (h : RingOk l) {p k : Nat} (hp : ∀ j, j < l.length → j ≠ p → l.getD j 0 < l.getD p 0) : ringAt l k ≤ l.getD p 0 := by
  have hk : k % l.length < l.length := Nat.mod_lt _ h.pos
  by_cases e : k % l.length = p
  · rw [ringAt, e]; exact Int.le_refl _
  · exact Int.le_of_lt (hp _ hk e)
/-- no fewer than 2n - 1 -/
theorem round_low {l : List Int} (h : RingOk l) : 2 * (l.length : Int) - 1 ≤ roundF l := by
  obtain ⟨p, hp, _, _, hm⟩ := leader_spec h
  have hpos := h.pos
  have e : dist l p = l.length := dist_eq hpos hpos (by rw [ringAt, ringAt, Nat.add_mod_right]; exact Int.le_refl _) (fun c h1 h2 => by
    rw [ringAt_lt hp]
    refine hm _ (Nat.mod_lt _ hpos) (fun e => ?_)
    have := mod_inj (n := l.length) (i := p) (a := c) (b := 0) h2 (by omega) (by rw [e, Nat.add_zero, Nat.mod_eq_of_lt hp])
    omega)
  have := sumN_le (f := fun i => if i = p then (l.length : Int) else 1) (g := fun i => (dist l i : Int)) (n := l.length) (fun i hi => by
    have h1 := (dist_spec (i := i) hpos).1
    show (if i = p then (l.length : Int) else 1) ≤ (dist l i : Int)
    split
    · rename_i e2; subst e2; omega
    · omega)
  rw [sumN_one hp] at this
  unfold roundF; omega
/-- no more than n (n + 1) / 2 -/
theorem round_high {l : List Int} (h : RingOk l) : 2 * roundF l ≤ (l.length : Int) * ((l.length : Int) + 1) := by
  have hpos := h.pos
  have h1 : ∀ i, i < l.length → (dist l i : Int) ≤ 1 + sumN (fun j => if decide (l.getD j 0 < l.getD i 0) = true then 1 else 0) l.length := by
    intro i hi
    obtain ⟨a, b, _, g⟩ := dist_spec (i := i) hpos
    rw [← cnt_sumN]
    have := sub_len (L := (List.range (dist l i - 1)).map (fun d => (i + (d + 1)) % l.length)) (M := (List.range l.length).filter (fun j => decide (l.getD j 0 < l.getD i 0)))
      (map_nodup List.nodup_range (fun x hx y hy e => by
        have hx := List.mem_range.1 hx
        have hy := List.mem_range.1 hy
        have := mod_inj (n := l.length) (i := i + 1) (a := x) (b := y) (by omega) (by omega) (by
          have e : (i + (x + 1)) % l.length = (i + (y + 1)) % l.length := e
          rw [show i + 1 + x = i + (x + 1) by omega, show i + 1 + y = i + (y + 1) by omega]; exact e)
        exact this)) (fun x hx => by
        obtain ⟨d, hd, rfl⟩ := List.mem_map.1 hx
        have hd := List.mem_range.1 hd
        have := g (d + 1) (by omega) (by omega)
        rw [ringAt_lt hi] at this
        exact List.mem_filter.2 ⟨List.mem_range.2 (Nat.mod_lt _ hpos), decide_eq_true this⟩)
    rw [List.length_map, List.length_range] at this
    omega
  have h2 := sumN_le h1
  rw [sumN_add, sumN_const] at h2
  have h3 : sumN (fun i => sumN (fun j => if decide (l.getD j 0 < l.getD i 0) = true then (1 : Int) else 0) l.length) l.length + sumN (fun i => sumN (fun j => if decide (l.getD i 0 < l.getD j 0) = true then (1 : Int) else 0) l.length) l.length ≤ sumN (fun _ => ((l.length : Int) - 1)) l.length := by
    rw [← sumN_add]
    refine sumN_le (fun i hi => ?_)
    show sumN _ _ + sumN _ _ ≤ _
    rw [← sumN_add]
    have h4 := sumN_le (f := fun j => (if decide (l.getD j 0 < l.getD i 0) = true then (1 : Int) else 0) + (if decide (l.getD i 0 < l.getD j 0) = true then (1 : Int) else 0)) (g := fun j => if j = i then 0 else 1) (n := l.length) (fun j _ => by
      by_cases e : j = i
      · subst e; simp
      · rw [if_neg e]
        by_cases e1 : l.getD j 0 < l.getD i 0
        · rw [if_pos (decide_eq_true e1), if_neg (fun h9 => by have := of_decide_eq_true h9; omega)]; omega
        · rw [if_neg (by simpa using e1)]; split <;> omega)
    rw [sumN_one hi] at h4
    omega
  rw [sumN_swap (f := fun i j => if decide (l.getD i 0 < l.getD j 0) = true then (1 : Int) else 0), sumN_const] at h3
  have e : (l.length : Int) * ((l.length : Int) + 1) = (l.length : Int) * ((l.length : Int) - 1) + 2 * (l.length : Int) := by
    rw [Int.mul_add, Int.mul_sub]; omega
  rw [e]
  unfold roundF
  omega
theorem sum_down {n : Int} : ∀ {k : Nat}, 2 * sumN (fun i => n - (i : Int)) k = (k : Int) * (2 * n + 1) - (k : Int) * (k : Int)
  | 0 => by simp [sumN]
  | k + 1 => by
    have := sum_down (n := n) (k := k)
    rw [sumN, Int.mul_add, this]
    have e : ((k + 1 : Nat) : Int) = (k : Int) + 1 := by omega
    rw [e, Int.add_mul, Int.mul_add (((k : Int) + 1)), Int.add_mul, Int.mul_sub]
    omega
/-- those who stand rising -/
theorem round_up {n : Nat} (hn : 1 ≤ n) : roundF ((List.range n).map (fun i : Nat => (i : Int))) = 2 * (n : Int) - 1 := by
  have hl : ((List.range n).map (fun i : Nat => (i : Int))).length = n := by simp
  have hat : ∀ k, ringAt ((List.range n).map (fun i : Nat => (i : Int))) k = ((k % n : Nat) : Int) := fun k => by
    rw [ringAt, hl, getD_map_range _ _ (Nat.mod_lt _ hn)]
  have hd : ∀ i, i < n → dist ((List.range n).map (fun i : Nat => (i : Int))) i = if i = n - 1 then n else 1 := by
    intro i hi
    split
    · rename_i e
      refine dist_eq (by rw [hl]; exact hn) hn (by rw [hat, hat, Nat.add_mod_right]; exact Int.le_refl _) (fun c h1 h2 => ?_)
      rw [hat, hat, Nat.mod_eq_of_lt hi, show i + c = (c - 1) + n by omega, Nat.add_mod_right, Nat.mod_eq_of_lt (by omega)]
      omega
    · rename_i e
      refine dist_eq (by rw [hl]; exact hn) (Nat.le_refl _) ?_ (fun c h1 h2 => by omega)
      rw [hat, hat, Nat.mod_eq_of_lt hi, Nat.mod_eq_of_lt (by omega)]
      omega
  rw [roundF, hl, sumN_congr (g := fun i => if i = n - 1 then (n : Int) else 1) (fun i hi => by rw [hd i hi]; split <;> rfl), sumN_one (by omega)]
  omega
/-- those who stand falling -/
theorem round_down {n : Nat} (hn : 1 ≤ n) : 2 * roundF ((List.range n).map (fun i : Nat => (n : Int) - (i : Int))) = (n : Int) * ((n : Int) + 1) := by
  have hl : ((List.range n).map (fun i : Nat => (n : Int) - (i : Int))).length = n := by simp
  have hat : ∀ k, ringAt ((List.range n).map (fun i : Nat => (n : Int) - (i : Int))) k = (n : Int) - ((k % n : Nat) : Int) := fun k => by
    rw [ringAt, hl, getD_map_range _ _ (Nat.mod_lt _ hn)]
  have hd : ∀ i, i < n → dist ((List.range n).map (fun i : Nat => (n : Int) - (i : Int))) i = n - i := by
    intro i hi
    refine dist_eq (by rw [hl]; exact hn) (by omega) ?_ (fun c h1 h2 => ?_)
    · rw [hat, hat, show i + (n - i) = n by omega, Nat.mod_self]; omega
    · rw [hat, hat, Nat.mod_eq_of_lt hi, Nat.mod_eq_of_lt (by omega)]; omega
  rw [roundF, hl, sumN_congr (g := fun i => (n : Int) - (i : Int)) (fun i hi => by rw [hd i hi]; omega), sum_down]
  rw [Int.mul_add, Int.mul_add, show (n : Int) * (2 * (n : Int)) = 2 * ((n : Int) * (n : Int)) by rw [Int.mul_left_comm]]
  omega

/-! to both sides -/
/-- the d-th neighbour to the one side or the other -/
def nb (n : Nat) (s : Bool) (i d : Nat) : Nat := match s with | true => (i + d) % n | false => (i + (n - d % n)) % n
def sGo (l : List Int) (s : Bool) (i : Nat) : Nat → Nat → Int × Bool
  | 0, d => (2 * ((d : Int) - 1), true)
  | f + 1, d => if nb l.length s i d = i then ((d : Int), true) else if l.getD i 0 < l.getD (nb l.length s i d) 0 then ((d : Int), false) else sGo l s i f (d + 1)
def sendF (l : List Int) (s : Bool) (i m : Nat) : Int × Bool := sGo l s i m 1
theorem nb_lt {n : Nat} (hn : 1 ≤ n) {s : Bool} {i d : Nat} : nb n s i d < n := by cases s <;> exact Nat.mod_lt _ hn
theorem nb_add {n : Nat} {s : Bool} {i d : Nat} : nb n s i (d + n) = nb n s i d := by
  cases s
  · show (i + (n - (d + n) % n)) % n = _
    rw [Nat.add_mod_right]; rfl
  · show (i + (d + n)) % n = _
    rw [← Nat.add_assoc, Nat.add_mod_right]; rfl
theorem nb_self {n : Nat} {s : Bool} {i d : Nat} (hi : i < n) (h1 : 1 ≤ d) (h2 : d < n) : nb n s i d ≠ i := by
  cases s
  · intro h
    have h : (i + (n - d % n)) % n = i := h
    rw [Nat.mod_eq_of_lt h2] at h
    have := mod_inj (n := n) (i := i) (a := n - d) (b := 0) (by omega) (by omega) (by rw [h, Nat.add_zero, Nat.mod_eq_of_lt hi])
    omega
  · intro h
    have h : (i + d) % n = i := h
    have := mod_inj (n := n) (i := i) (a := d) (b := 0) h2 (by omega) (by rw [h, Nat.add_zero, Nat.mod_eq_of_lt hi])
    omega
theorem nb_full {n : Nat} {s : Bool} {i : Nat} (hi : i < n) : nb n s i n = i := by
  cases s
  · show (i + (n - n % n)) % n = i
    rw [Nat.mod_self, Nat.sub_zero, Nat.add_mod_right, Nat.mod_eq_of_lt hi]
  · show (i + n) % n = i
    rw [Nat.add_mod_right, Nat.mod_eq_of_lt hi]
theorem sGo_spec {l : List Int} {s : Bool} {i : Nat} (hi : i < l.length) : ∀ {f d : Nat}, 1 ≤ d → d ≤ l.length → (∀ c, 1 ≤ c → c < d → l.getD (nb l.length s i c) 0 ≤ l.getD i 0) →
    (1 ≤ d + f - 1 → 1 ≤ (sGo l s i f d).1) ∧ (sGo l s i f d).1 ≤ 2 * ((d + f - 1 : Nat) : Int) ∧ ((sGo l s i f d).2 = true ↔ ∀ c, 1 ≤ c → c < d + f → l.getD (nb l.length s i c) 0 ≤ l.getD i 0)
  | 0, d, h1, _, hc => by
    refine ⟨fun h => ?_, ?_, ?_⟩
    · show 1 ≤ 2 * ((d : Int) - 1); omega
    · show 2 * ((d : Int) - 1) ≤ _; omega
    · exact ⟨fun _ c h2 h3 => hc c h2 (by omega), fun _ => rfl⟩
  | f + 1, d, h1, hd, hc => by
    rw [sGo]
    split
    · rename_i h
      have hdn : d = l.length := by
        rcases Nat.lt_or_ge d l.length with h2 | h2
        · exact absurd h (nb_self hi h1 h2)
        · omega
      refine ⟨fun _ => by show (1 : Int) ≤ d; omega, by show (d : Int) ≤ _; omega, ⟨fun _ => ?_, fun _ => rfl⟩⟩
      -- all round
      intro c
      induction c using Nat.strongRecOn with
      | _ c ih =>
        intro h2 h3
        rcases Nat.lt_trichotomy c l.length with h4 | h4 | h4
        · exact hc c h2 (by omega)
        · rw [h4, nb_full hi]; exact Int.le_refl _
        · have := ih (c - l.length) (by omega) (by omega) (by omega)
          rw [← nb_add, show c - l.length + l.length = c by omega] at this
          exact this
    · rename_i h
      have hdn : d < l.length := by
        rcases Nat.lt_or_ge d l.length with h2 | h2
        · exact h2
        · have : d = l.length := by omega
          rw [this] at h; exact absurd (nb_full hi) h
      split
      · rename_i h2
        refine ⟨fun _ => by show (1 : Int) ≤ d; omega, by show (d : Int) ≤ _; omega, ⟨fun h3 => (by cases h3), fun h3 => ?_⟩⟩
        have := h3 d h1 (by omega)
        omega
      · rename_i h2
        obtain ⟨a, b, c⟩ := sGo_spec (s := s) hi (f := f) (d := d + 1) (by omega) (by omega) (fun c h3 h4 => by
          by_cases e : c = d
          · subst e; omega
          · exact hc c h3 (by omega))
        have e1 : d + 1 + f - 1 = d + (f + 1) - 1 := by omega
        rw [e1] at a b
        rw [show d + 1 + f = d + (f + 1) by omega] at c
        exact ⟨a, b, c⟩
theorem send_spec {l : List Int} {s : Bool} {i m : Nat} (hi : i < l.length) (hm : 1 ≤ m) : 1 ≤ (sendF l s i m).1 ∧ (sendF l s i m).1 ≤ 2 * (m : Int) ∧ ((sendF l s i m).2 = true ↔ ∀ c, 1 ≤ c → c ≤ m → l.getD (nb l.length s i c) 0 ≤ l.getD i 0) := by
  obtain ⟨a, b, c⟩ := sGo_spec (s := s) hi (f := m) (d := 1) (Nat.le_refl _) (by omega) (fun c h1 h2 => by omega)
  refine ⟨a (by omega), by rw [show 1 + m - 1 = m by omega] at b; exact b, c.trans ⟨fun h c h1 h2 => h c h1 (by omega), fun h c h1 h2 => h c h1 (by omega)⟩⟩
/-- still on the way, behind the way to m neighbours -/
def wins (l : List Int) (m i : Nat) : Prop := ∀ (s : Bool) c, 1 ≤ c → c ≤ m → l.getD (nb l.length s i c) 0 ≤ l.getD i 0
def stepB (l : List Int) (m : Nat) (act : List Bool) : List Bool := (List.range l.length).map (fun i => act.getD i false && (sendF l true i m).2 && (sendF l false i m).2)
def costF (l : List Int) (m : Nat) (act : List Bool) : Int := sumN (fun i => if act.getD i false = true then (sendF l true i m).1 + (sendF l false i m).1 else 0) l.length
/-- phase after phase: who is left, how many messages -/
def hGo (l : List Int) : Nat → Nat → List Bool → Int → List Bool × Int
  | 0, _, act, k => (act, k)
  | f + 1, m, act, k => if l.length ≤ m then (stepB l m act, k + costF l m act) else hGo l f (2 * m) (stepB l m act) (k + costF l m act)
def halvesB (l : List Int) : List Bool × Int := hGo l 6 1 (List.replicate l.length true) 0
def Left (l : List Int) (m : Nat) (act : List Bool) : Prop := act.length = l.length ∧ ∀ i, i < l.length → (act.getD i false = true ↔ wins l m i)
theorem step_left {l : List Int} {m h : Nat} {act : List Bool} (hm : 1 ≤ m) (hh : h ≤ m) (ha : Left l h act) : Left l m (stepB l m act) := by
  refine ⟨by simp [stepB], fun i hi => ?_⟩
  rw [stepB, getD_map_range _ _ hi]
  simp only [Bool.and_eq_true]
  rw [ha.2 i hi, (send_spec (s := true) hi hm).2.2, (send_spec (s := false) hi hm).2.2]
  constructor
  · rintro ⟨⟨_, h2⟩, h3⟩ s c h4 h5
    cases s
    · exact h3 c h4 h5
    · exact h2 c h4 h5
  · intro h1
    exact ⟨⟨fun s c h4 h5 => h1 s c h4 (by omega), fun c => h1 true c⟩, fun c => h1 false c⟩
/-- two that are left stand far from one another -/
theorem far {l : List Int} (h : RingOk l) {m i j d : Nat} (hi : i < l.length) (hj : j < l.length) (wi : wins l m i) (wj : wins l m j) (hne : i ≠ j) (hd : d ≤ m) (hdn : d < l.length) (e : (i + d) % l.length = j) : False := by
  have hd1 : 1 ≤ d := by
    rcases Nat.eq_zero_or_pos d with h0 | h0
    · subst h0
      rw [Nat.add_zero, Nat.mod_eq_of_lt hi] at e
      exact absurd e hne
    · exact h0
  have a := wi true d hd1 hd
  have a : l.getD ((i + d) % l.length) 0 ≤ l.getD i 0 := a
  rw [e] at a
  have b := wj false d hd1 hd
  have hb : nb l.length false j d = i := by
    show (j + (l.length - d % l.length)) % l.length = i
    rw [Nat.mod_eq_of_lt hdn, ← e, Nat.mod_add_mod, show i + d + (l.length - d) = i + l.length by omega, Nat.add_mod_right, Nat.mod_eq_of_lt hi]
  rw [hb] at b
  exact hne (h.inj hi hj (by omega))
theorem few_left {l : List Int} (h : RingOk l) {m : Nat} (hm : m < l.length) {act : List Bool} (ha : Left l m act) : (((List.range l.length).filter (fun i => act.getD i false)).length) * (m + 1) ≤ l.length := by
  have hnd : ∀ {A : List Nat}, A.Nodup → (∀ i ∈ A, i < l.length ∧ wins l m i) → (A.flatMap (fun i => (List.range (m + 1)).map (fun d => (i + d) % l.length))).Nodup := by
    intro A
    induction A with
    | nil => intro _ _; simp
    | cons i A ih =>
      intro hn hA
      obtain ⟨hx, hn'⟩ := List.nodup_cons.1 hn
      obtain ⟨hi, wi⟩ := hA i (by simp)
      rw [List.flatMap_cons]
      refine List.nodup_append.2 ⟨map_nodup List.nodup_range (fun x hx y hy e => mod_inj (n := l.length) (i := i) (by have := List.mem_range.1 hx; omega) (by have := List.mem_range.1 hy; omega) e), ih hn' (fun j hj => hA j (by simp [hj])), ?_⟩
      intro a ha b hb hab
      subst hab
      obtain ⟨d, hd, e1⟩ := List.mem_map.1 ha
      obtain ⟨j, hj, hb⟩ := List.mem_flatMap.1 hb
      obtain ⟨c, hc, e2⟩ := List.mem_map.1 hb
      obtain ⟨hjl, wj⟩ := hA j (by simp [hj])
      have hd := List.mem_range.1 hd
      have hc := List.mem_range.1 hc
      have hij : i ≠ j := by rintro rfl; exact hx hj
      have e : (i + d) % l.length = (j + c) % l.length := e1.trans e2.symm
      rcases Nat.le_total c d with h1 | h1
      · have : (i + (d - c)) % l.length = j := by
          have := mod_shift (n := l.length) (a := i + (d - c)) (b := j) (c := c) (by rw [show i + (d - c) + c = i + d by omega]; exact e)
          rwa [Nat.mod_eq_of_lt hjl] at this
        exact far h hi hjl wi wj hij (by omega) (by omega) this
      · have : (j + (c - d)) % l.length = i := by
          have := mod_shift (n := l.length) (a := j + (c - d)) (b := i) (c := d) (by rw [show j + (c - d) + d = j + c by omega]; exact e.symm)
          rwa [Nat.mod_eq_of_lt hi] at this
        exact far h hjl hi wj wi (Ne.symm hij) (by omega) (by omega) this
  have hlen : ∀ {A : List Nat}, (A.flatMap (fun i => (List.range (m + 1)).map (fun d => (i + d) % l.length))).length = A.length * (m + 1) := by
    intro A
    induction A with
    | nil => simp
    | cons i A ih => rw [List.flatMap_cons, List.length_append, ih, List.length_map, List.length_range, List.length_cons, Nat.succ_mul]; omega
  rw [← hlen]
  refine few_below (hnd (List.nodup_range.filter _) (fun i hi => ?_)) (fun x hx => ?_)
  · obtain ⟨h1, h2⟩ := List.mem_filter.1 hi
    have h1 := List.mem_range.1 h1
    exact ⟨h1, (ha.2 i h1).1 h2⟩
  · obtain ⟨i, _, hx⟩ := List.mem_flatMap.1 hx
    obtain ⟨d, _, rfl⟩ := List.mem_map.1 hx
    exact Nat.mod_lt _ h.pos
where
  mod_shift {n a b c : Nat} (h : (a + c) % n = (b + c) % n) : a % n = b % n := by
    rcases Nat.eq_zero_or_pos n with h0 | h0
    · subst h0; simp at h; rw [h]
    · have h1 := mod_inj (n := n) (i := c) (a := a % n) (b := b % n) (Nat.mod_lt _ h0) (Nat.mod_lt _ h0) (by rw [Nat.add_mod_mod, Nat.add_mod_mod, Nat.add_comm c a, Nat.add_comm c b]; exact h)
      exact h1
theorem cost_low {l : List Int} {m : Nat} (hm : 1 ≤ m) {act : List Bool} (ha : ∀ i, i < l.length → act.getD i false = true) : 2 * (l.length : Int) ≤ costF l m act := by
  have := sumN_le (f := fun _ => (2 : Int)) (g := fun i => if act.getD i false = true then (sendF l true i m).1 + (sendF l false i m).1 else 0) (n := l.length) (fun i hi => by
    have h1 := (send_spec (s := true) hi hm).1
    have h2 := (send_spec (s := false) hi hm).1
    show 2 ≤ if act.getD i false = true then _ else _
    rw [if_pos (ha i hi)]; omega)
  rw [sumN_const] at this
  unfold costF; omega
theorem cost_nn {l : List Int} {m : Nat} (hm : 1 ≤ m) {act : List Bool} : 0 ≤ costF l m act := by
  have := sumN_le (f := fun _ => (0 : Int)) (g := fun i => if act.getD i false = true then (sendF l true i m).1 + (sendF l false i m).1 else 0) (n := l.length) (fun i hi => by
    have h1 := (send_spec (s := true) hi hm).1
    have h2 := (send_spec (s := false) hi hm).1
    show 0 ≤ if act.getD i false = true then _ else _
    split <;> omega)
  rw [sumN_const] at this
  unfold costF; omega
theorem cost_high {l : List Int} {m : Nat} (hm : 1 ≤ m) {act : List Bool} : costF l m act ≤ (((List.range l.length).filter (fun i => act.getD i false)).length : Int) * (4 * (m : Int)) := by
  rw [cnt_sumN]
  have h1 : ∀ {n : Nat}, sumN (fun j => if act.getD j false = true then (1 : Int) else 0) n * (4 * (m : Int)) = sumN (fun j => if act.getD j false = true then 4 * (m : Int) else 0) n := by
    intro n
    induction n with
    | zero => simp [sumN]
    | succ n ih => rw [sumN, sumN, Int.add_mul, ih]; split <;> simp
  rw [h1]
  refine sumN_le (fun i hi => ?_)
  have h1 := (send_spec (s := true) hi hm).2.1
  have h2 := (send_spec (s := false) hi hm).2.1
  show (if act.getD i false = true then _ else _) ≤ if act.getD i false = true then _ else _
  split <;> omega
end Go.Proofs.Ytcafiieffenohaa
