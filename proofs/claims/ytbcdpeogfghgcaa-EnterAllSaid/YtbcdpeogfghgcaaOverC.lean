/- Work, acknowledgements and bosses: what holds of hands at work (Dijkstra, Scholten), in plain terms. -/
import Derived.Test.YtbcdpeogfghgcaaOverB
namespace Go.Proofs.Ytbcdpeogfghgcaa
open Go.Ex
def bs (t : OverD) (q : Nat) : Int := (t.1.getD q hand0).2.1
def ow (t : OverD) (q : Nat) : Int := (t.1.getD q hand0).2.2.1
def bz (t : OverD) (q : Nat) : Bool := (t.1.getD q hand0).1
/-- does a word count for p: work that it sent, an answer that comes to it? -/
def dW (p : Int) (w : WordD) : Int := if (w.2.2.1 = 1 ∧ w.1 = p) ∨ (w.2.2.1 = 0 ∧ w.2.1 = p) then 1 else 0
def wsum (p : Int) : List WordD → Int
  | [] => 0
  | w :: l => dW p w + wsum p l
theorem dW_nn (p : Int) (w : WordD) : 0 ≤ dW p w := by unfold dW; split <;> decide
theorem wsum_nn (p : Int) : ∀ l, 0 ≤ wsum p l
  | [] => Int.le_refl _
  | w :: l => by have := wsum_nn p l; have := dW_nn p w; simp only [wsum]; omega
theorem wsum_app (p : Int) : ∀ l m, wsum p (l ++ m) = wsum p l + wsum p m
  | [], m => by simp [wsum]
  | w :: l, m => by simp only [List.cons_append, wsum, wsum_app p l m]; omega
theorem wsum_mem {p : Int} {w : WordD} : ∀ {l : List WordD}, w ∈ l → dW p w ≤ wsum p l
  | x :: l, h => by
    have h1 := wsum_nn p l
    have h2 := dW_nn p x
    simp only [wsum]
    rcases List.mem_cons.1 h with rfl | h
    · omega
    · have := wsum_mem (p := p) h; omega
def cb (p : Int) (t : OverD) (n : Nat) : Int := sumN (fun q => if bs t q = p then 1 else 0) n
theorem sumN_nn {f : Nat → Int} (h : ∀ i, 0 ≤ f i) : ∀ n, 0 ≤ sumN f n
  | 0 => Int.le_refl _
  | n + 1 => by have := sumN_nn h n; have := h n; simp only [sumN]; omega
theorem sumN_pt {f : Nat → Int} (h : ∀ i, 0 ≤ f i) {k : Nat} : ∀ {n}, k < n → f k ≤ sumN f n
  | 0, hk => by omega
  | n + 1, hk => by
    simp only [sumN]
    rcases Nat.lt_succ_iff_lt_or_eq.1 hk with h1 | rfl
    · have := sumN_pt h h1; have := h n; omega
    · have := sumN_nn h k; omega
theorem sumN_upd {f : Nat → Int} {k : Nat} {g : Int} : ∀ {n}, k < n → sumN (fun i => if i = k then g else f i) n = sumN f n + (g - f k)
  | 0, hk => by omega
  | n + 1, hk => by
    simp only [sumN]
    rcases Nat.lt_succ_iff_lt_or_eq.1 hk with h1 | rfl
    · rw [sumN_upd h1, if_neg (by omega)]; omega
    · rw [if_pos rfl, sumN_congr (g := f) (fun i hi => by rw [if_neg (by omega)])]; omega
theorem cb_nn {p : Int} {t : OverD} {n : Nat} : 0 ≤ cb p t n := sumN_nn (fun i => by split <;> decide) n
theorem cb_pt {p : Int} {t : OverD} {n q : Nat} (hq : q < n) (h : bs t q = p) : 1 ≤ cb p t n := by
  have := sumN_pt (f := fun q => if bs t q = p then (1 : Int) else 0) (fun i => by split <;> decide) hq
  simp only [h, if_true] at this
  exact this
/-- what holds of hands at work, but for this: who has a boss is busy, or owed something -/
structure JO (n : Nat) (t : OverD) : Prop where
  n1 : 1 ≤ n ∧ n ≤ 6
  len : t.1.length = n
  wl : t.2.1.length ≤ 100
  w : ∀ x ∈ t.2.1, (0 ≤ x.1 ∧ x.1 < n) ∧ (0 ≤ x.2.1 ∧ x.2.1 < n) ∧ x.1 ≠ x.2.1 ∧ (x.2.2.1 = 0 ∨ x.2.2.1 = 1)
  owed : ∀ p : Nat, p < n → ow t p = wsum p t.2.1 + cb p t n
  boss : ∀ p : Nat, p < n → -1 ≤ bs t p ∧ bs t p < n
  root : bs t 0 = -1
  idle : ∀ p : Nat, p < n → p ≠ 0 → bs t p = -1 → bz t p = false ∧ ow t p = 0
  rank : ∃ r : Nat → Nat, ∀ p : Nat, p < n → 0 ≤ bs t p → bs t p = 0 ∨ (0 ≤ bs t (bs t p).toNat ∧ r (bs t p).toNat < r p)
def Leaf (t : OverD) (q : Nat) : Prop := 0 ≤ bs t q → bz t q = true ∨ 0 < ow t q
structure J (n : Nat) (t : OverD) : Prop extends JO n t where
  leaf : ∀ q, q < n → Leaf t q
section
variable {n : Nat} {t : OverD}
theorem wsum_le (p : Int) : ∀ l, wsum p l ≤ (l.length : Int)
  | [] => by simp [wsum]
  | w :: l => by
    have := wsum_le p l
    have : dW p w ≤ 1 := by unfold dW; split <;> decide
    simp only [wsum, List.length_cons]; omega
theorem cb_le {p : Int} {t : OverD} : ∀ {n : Nat}, cb p t n ≤ n
  | 0 => by simp [cb, sumN]
  | n + 1 => by
    have h := cb_le (p := p) (t := t) (n := n)
    have : (if bs t n = p then (1 : Int) else 0) ≤ 1 := by split <;> decide
    simp only [cb, sumN] at h ⊢; omega
theorem JO.ow_in (h : JO n t) {p : Nat} (hp : p < n) : 0 ≤ ow t p ∧ ow t p ≤ 106 := by
  have h1 := h.owed p hp
  have h2 := wsum_nn p t.2.1
  have h3 := cb_nn (p := p) (t := t) (n := n)
  have h4 := wsum_le p t.2.1
  have h5 := cb_le (p := p) (t := t) (n := n)
  have := h.wl
  have := h.n1
  omega
theorem JO.no_self (h : JO n t) {p : Nat} (hp : p < n) : bs t p ≠ p := by
  intro e
  obtain ⟨r, hr⟩ := h.rank
  rcases hr p hp (by omega) with h1 | ⟨_, h2⟩
  · have : p = 0 := by omega
    subst this
    have := h.root; omega
  · rw [e, Int.toNat_natCast] at h2; omega
theorem JO.ook (h : JO n t) : OOk t := by
  refine ⟨by rw [h.len]; exact h.n1, fun i hi => ?_, h.wl, fun k hk => ?_⟩
  · rw [h.len] at hi ⊢
    have h1 := h.boss i hi
    have h2 := h.ow_in hi
    refine ⟨h1, ⟨h2.1, by have := h2.2; show ow t i ≤ _; omega⟩, h.no_self hi, fun e => ?_, fun e1 e2 => ?_⟩
    · subst e; exact h.root
    · obtain ⟨q1, q2⟩ := h.idle i hi e1 e2
      exact ⟨q1, Int.le_of_eq q2⟩
  · obtain ⟨q1, q2, q3, q4⟩ := h.w _ (getD_mem (d := word0) hk)
    rw [h.len]
    exact ⟨q1, q2, q3, by omega⟩
theorem JO.ok (h : JO n t) : ocheck t = 0 := ocheck_iff.2 h.ook
/-- hands of which one has turned -/
theorem set_bs {ws : List WordD} {u : Unit} {k : Nat} {h : HandD} (hk : k < t.1.length) (q : Nat) : bs (t.1.set k h, ws, u) q = if q = k then h.2.1 else bs t q := by
  simp only [bs, getD_set hk]; split <;> rfl
theorem set_ow {ws : List WordD} {u : Unit} {k : Nat} {h : HandD} (hk : k < t.1.length) (q : Nat) : ow (t.1.set k h, ws, u) q = if q = k then h.2.2.1 else ow t q := by
  simp only [ow, getD_set hk]; split <;> rfl
theorem set_bz {ws : List WordD} {u : Unit} {k : Nat} {h : HandD} (hk : k < t.1.length) (q : Nat) : bz (t.1.set k h, ws, u) q = if q = k then h.1 else bz t q := by
  simp only [bz, getD_set hk]; split <;> rfl
theorem set_cb {ws : List WordD} {u : Unit} {k n : Nat} {h : HandD} (hk : k < t.1.length) (hn : k < n) (p : Int) : cb p (t.1.set k h, ws, u) n = cb p t n + ((if h.2.1 = p then 1 else 0) - (if bs t k = p then 1 else 0)) := by
  have : cb p (t.1.set k h, ws, u) n = sumN (fun i => if i = k then (if h.2.1 = p then (1 : Int) else 0) else (if bs t i = p then 1 else 0)) n :=
    sumN_congr (fun i _ => by rw [set_bs hk]; split <;> rfl)
  rw [this, sumN_upd hn]; rfl
theorem at_bs (p : Nat) : (hAt t p).2.1 = bs t p := rfl
theorem at_ow (p : Nat) : (hAt t p).2.2.1 = ow t p := rfl
theorem at_bz (p : Nat) : (hAt t p).1 = bz t p := rfl
theorem ite_same' {a b : Int} {c : Prop} [Decidable c] (h : c → a = b) : (if c then a else b) = b := by
  split
  · rename_i e; exact h e
  · rfl
/-- what one detaches -/
theorem odet_J {p : Nat} (h : JO n t) (hp : p < n) (hw : t.2.1.length ≤ 99) (hl : ∀ q, q < n → q ≠ p → Leaf t q) : J n (odet t p) := by
  have hlen : t.1.length = n := h.len
  have hpo := h.ow_in hp
  rw [odet]
  simp only [at_bs, at_bz, Int.toNat_natCast]
  split
  · rename_i hd
    refine ⟨h, fun q hq => ?_⟩
    by_cases e : q = p
    · subst e
      intro h0
      simp only [detB, Bool.or_eq_true, decide_eq_true_eq] at hd
      simp only [at_bs, at_bz, at_ow] at hd
      rcases hd with ((hd | hd) | hd) | hd
      · have : q = 0 := by omega
        subst this
        have := h.root; omega
      · omega
      · exact .inl hd
      · exact .inr hd
    · exact hl q hq e
  · rename_i hd
    simp only [detB, Bool.or_eq_true, decide_eq_true_eq, not_or] at hd
    simp only [at_bs, at_bz, at_ow] at hd
    obtain ⟨⟨⟨d1, d2⟩, d3⟩, d4⟩ := hd
    have d3 : bz t p = false := by simpa using d3
    have hb0 := h.boss p hp
    have hk : p < t.1.length := by omega
    have e0 : ow t p = 0 := by omega
    have hop := h.owed p hp
    have hcb0 : cb p t n = 0 := by
      have := wsum_nn p t.2.1; have := cb_nn (p := p) (t := t) (n := n)
      omega
    have nochild : ∀ q, q < n → bs t q ≠ p := fun q hq e => by
      have := cb_pt hq e; omega
    have hns := h.no_self hp
    obtain ⟨B, hB⟩ : ∃ B, bs t p = B := ⟨_, rfl⟩
    rw [hB] at hb0 hns d2 ⊢
    refine ⟨⟨h.n1, by simp only [List.length_set]; exact hlen, ?_, ?_, ?_, ?_, ?_, ?_, ?_⟩, ?_⟩
    · simp only [List.length_append, List.length_cons, List.length_nil]; omega
    · intro x hx
      rcases List.mem_append.1 hx with hx | hx
      · exact h.w x hx
      · simp only [List.mem_cons, List.not_mem_nil, or_false] at hx
        subst hx
        exact ⟨by show 0 ≤ (p : Int) ∧ (p : Int) < n; omega, by show 0 ≤ B ∧ B < n; omega, by show (p : Int) ≠ B; omega, .inl rfl⟩
    · intro q hq
      have h1 := h.owed q hq
      rw [set_ow hk, set_cb hk hp, wsum_app, hB]
      have e1 : (if (-1 : Int) = q then (1 : Int) else 0) = 0 := by rw [if_neg (by omega)]
      have e2 : dW q (p, B, 0, ()) = if B = q then 1 else 0 := by
        unfold dW; simp
      have e3 : (if q = p then ow t p else ow t q) = ow t q := ite_same' (fun e => by rw [e])
      show (if q = p then ow t p else ow t q) = wsum q t.2.1 + (dW q (p, B, 0, ()) + 0) + (cb q t n + ((if (-1 : Int) = q then 1 else 0) - (if B = q then 1 else 0)))
      rw [e1, e2, e3, h1]; omega
    · intro q hq
      rw [set_bs hk]
      split
      · exact ⟨by show (-1 : Int) ≤ -1; omega, by show (-1 : Int) < n; omega⟩
      · exact h.boss q hq
    · rw [set_bs hk]
      split
      · rfl
      · exact h.root
    · intro q hq hq0 hb1
      rw [set_bs hk] at hb1
      rw [set_bz hk, set_ow hk]
      by_cases e : q = p
      · rw [if_pos e, if_pos e]
        exact ⟨d3, e0⟩
      · rw [if_neg e] at hb1
        rw [if_neg e, if_neg e]
        exact h.idle q hq hq0 hb1
    · obtain ⟨r, hr⟩ := h.rank
      refine ⟨r, fun q hq h0 => ?_⟩
      rw [set_bs hk] at h0 ⊢
      by_cases e : q = p
      · rw [if_pos e] at h0
        exact absurd h0 (by show ¬ (0 : Int) ≤ -1; omega)
      · rw [if_neg e] at h0 ⊢
        rcases hr q hq h0 with h1 | ⟨h1, h2⟩
        · exact .inl h1
        · refine .inr ⟨?_, h2⟩
          rw [set_bs hk, if_neg]
          · exact h1
          · intro e9
            exact nochild q hq (by omega)
    · intro q hq h0
      rw [set_bs hk] at h0
      rw [set_bz hk, set_ow hk]
      by_cases e : q = p
      · rw [if_pos e] at h0
        exact absurd h0 (by show ¬ (0 : Int) ≤ -1; omega)
      · rw [if_neg e] at h0
        rw [if_neg e, if_neg e]
        exact hl q hq e h0
/-- who is owed something, or does something, has a boss or is the first -/
theorem JO.act (h : JO n t) {p : Nat} (hp : p < n) (ha : bz t p = true ∨ 0 < ow t p) : p = 0 ∨ 0 ≤ bs t p := by
  by_cases e : p = 0
  · exact .inl e
  · refine .inr ?_
    have h1 := h.boss p hp
    by_cases e1 : bs t p = -1
    · obtain ⟨q1, q2⟩ := h.idle p hp e e1
      rcases ha with ha | ha
      · rw [q1] at ha; cases ha
      · omega
    · omega
theorem give_J {p q : Nat} (h : J n t) (hp : p < n) (hq : q < n) (hpq : p ≠ q) (hb : bz t p = true) (hw : t.2.1.length ≤ 99) : J n (give1 t p q) := by
  have hk : p < t.1.length := by rw [h.len]; exact hp
  rw [give1]
  simp only [at_bs, at_bz, at_ow, Int.toNat_natCast]
  have eb : ∀ r, bs (t.1.set p (bz t p, bs t p, ow t p + 1, (hAt t p).2.2.2), t.2.1 ++ [((p : Int), (q : Int), 1, ())], ()) r = bs t r := fun r => by
    rw [set_bs hk]; exact ite_same' (fun e => by rw [e])
  have ez : ∀ r, bz (t.1.set p (bz t p, bs t p, ow t p + 1, (hAt t p).2.2.2), t.2.1 ++ [((p : Int), (q : Int), 1, ())], ()) r = bz t r := fun r => by
    rw [set_bz hk]; split
    · rename_i e; rw [e]
    · rfl
  have eo : ∀ r, ow (t.1.set p (bz t p, bs t p, ow t p + 1, (hAt t p).2.2.2), t.2.1 ++ [((p : Int), (q : Int), 1, ())], ()) r = if r = p then ow t p + 1 else ow t r := fun r => set_ow hk r
  refine ⟨⟨h.n1, by simp only [List.length_set]; exact h.len, ?_, ?_, ?_, ?_, ?_, ?_, ?_⟩, ?_⟩
  · simp only [List.length_append, List.length_cons, List.length_nil]; omega
  · intro x hx
    rcases List.mem_append.1 hx with hx | hx
    · exact h.w x hx
    · simp only [List.mem_cons, List.not_mem_nil, or_false] at hx
      subst hx
      exact ⟨by show 0 ≤ (p : Int) ∧ (p : Int) < n; omega, by show 0 ≤ (q : Int) ∧ (q : Int) < n; omega, by show (p : Int) ≠ q; omega, .inr rfl⟩
  · intro r hr
    have h1 := h.owed r hr
    rw [eo, set_cb hk hp, wsum_app]
    have e2 : dW r (p, q, 1, ()) = if (p : Int) = r then 1 else 0 := by unfold dW; simp
    show (if r = p then ow t p + 1 else ow t r) = wsum r t.2.1 + (dW r (p, q, 1, ()) + 0) + (cb r t n + ((if bs t p = r then 1 else 0) - (if bs t p = r then 1 else 0)))
    rw [e2]
    by_cases e : r = p
    · subst e; rw [if_pos rfl, if_pos rfl, h1]; omega
    · rw [if_neg e, if_neg (by omega), h1]; omega
  · intro r hr; rw [eb]; exact h.boss r hr
  · rw [eb]; exact h.root
  · intro r hr h0 h1
    rw [eb] at h1; rw [ez, eo]
    obtain ⟨q1, q2⟩ := h.idle r hr h0 h1
    refine ⟨q1, ?_⟩
    rw [if_neg]
    · exact q2
    · rintro rfl; rw [q1] at hb; cases hb
  · obtain ⟨r, hr⟩ := h.rank
    refine ⟨r, fun a ha h0 => ?_⟩
    rw [eb] at h0 ⊢
    rw [eb]
    exact hr a ha h0
  · intro r hr h0
    rw [eb] at h0; rw [ez, eo]
    have h9 := (h.ow_in hp).1
    rcases h.leaf r hr h0 with h1 | h1
    · exact .inl h1
    · refine .inr ?_; split <;> omega
theorem rest_J {p : Nat} (h : J n t) (hp : p < n) (hw : t.2.1.length ≤ 99) : J n (rest1 t p) := by
  have hk : p < t.1.length := by rw [h.len]; exact hp
  rw [rest1]
  have eb : ∀ r, bs (t.1.set (p : Int).toNat (false, (hAt t p).2), t.2.1, ()) r = bs t r := fun r => by
    rw [Int.toNat_natCast, set_bs hk]; exact ite_same' (fun e => by rw [e]; rfl)
  have eo : ∀ r, ow (t.1.set (p : Int).toNat (false, (hAt t p).2), t.2.1, ()) r = ow t r := fun r => by
    rw [Int.toNat_natCast, set_ow hk]; exact ite_same' (fun e => by rw [e]; rfl)
  have ez : ∀ r, bz (t.1.set (p : Int).toNat (false, (hAt t p).2), t.2.1, ()) r = if r = p then false else bz t r := fun r => by
    rw [Int.toNat_natCast, set_bz hk]
  have ec : ∀ q, cb q (t.1.set (p : Int).toNat (false, (hAt t p).2), t.2.1, ()) n = cb q t n := fun q => sumN_congr (fun i _ => by rw [eb])
  refine odet_J ⟨h.n1, by simp only [List.length_set]; exact h.len, by have := h.wl; exact this, h.w, ?_, ?_, ?_, ?_, ?_⟩ hp hw ?_
  · intro r hr; rw [eo, ec]; exact h.owed r hr
  · intro r hr; rw [eb]; exact h.boss r hr
  · rw [eb]; exact h.root
  · intro r hr h0 h1
    rw [eb] at h1; rw [ez, eo]
    obtain ⟨q1, q2⟩ := h.idle r hr h0 h1
    refine ⟨?_, q2⟩
    split
    · rfl
    · exact q1
  · obtain ⟨r, hr⟩ := h.rank
    refine ⟨r, fun a ha h0 => ?_⟩
    rw [eb] at h0 ⊢
    rw [eb]
    exact hr a ha h0
  · intro q hq hqp h0
    rw [eb] at h0; rw [ez, eo, if_neg hqp]
    exact h.leaf q hq h0
theorem del_split {α : Type} {l : List α} {k : Nat} (hk : k < l.length) (d : α) : l = l.take k ++ l.getD k d :: l.drop (k + 1) := by
  rw [List.getD_eq_getElem?_getD, List.getElem?_eq_getElem hk]
  simp
theorem take_J {k : Nat} (h : J n t) (hk : k < t.2.1.length) : J n (take1 t k) := by
  have hwd := del_split hk word0
  have hmem : t.2.1.getD k word0 ∈ t.2.1 := getD_mem hk
  obtain ⟨w1, w2, w3, w4⟩ := h.w _ hmem
  have hdl : delW t k = t.2.1.take k ++ t.2.1.drop (k + 1) := by
    rw [delW]; rfl
  have hsum : ∀ p, wsum p t.2.1 = wsum p (delW t k) + dW p (t.2.1.getD k word0) := fun p => by
    rw [hdl, wsum_app]
    conv => lhs; rw [hwd]
    rw [wsum_app]
    simp only [wsum]; omega
  have hdw : ∀ x ∈ delW t k, x ∈ t.2.1 := fun x hx => by
    rw [hdl] at hx
    rcases List.mem_append.1 hx with hx | hx
    · exact List.mem_of_mem_take hx
    · exact List.mem_of_mem_drop hx
  have hdlen : (delW t k).length ≤ 99 := by
    rw [hdl]
    have := h.wl
    simp only [List.length_append, List.length_take, List.length_drop]; omega
  have hwa : wAt t k = t.2.1.getD k word0 := rfl
  rw [take1, hwa]
  generalize hW : t.2.1.getD k word0 = w at *
  obtain ⟨f, y, z, u⟩ := w
  simp only at w1 w2 w3 w4 ⊢
  obtain ⟨p, rfl⟩ : ∃ p : Nat, y = p := ⟨y.toNat, by omega⟩
  obtain ⟨g, rfl⟩ : ∃ g : Nat, f = g := ⟨f.toNat, by omega⟩
  have hp : p < n := by omega
  have hg : g < n := by omega
  have hkp : p < t.1.length := by rw [h.len]; exact hp
  simp only [Int.toNat_natCast]
  split
  · -- an answer
    rename_i hz
    subst hz
    have hd1 : dW p ((g : Int), (p : Int), 0, u) = 1 := by unfold dW; simp
    have hdq : ∀ q : Nat, dW q ((g : Int), (p : Int), 0, u) = if (p : Int) = q then 1 else 0 := fun q => by
      unfold dW; simp
    have ho1 : 1 ≤ ow t p := by
      have h9 := wsum_mem (p := p) hmem; have := h.owed p hp; have := cb_nn (p := p) (t := t) (n := n)
      rw [hd1] at h9
      omega
    have eb : ∀ r, bs (t.1.set p (ackH (hAt t p)), delW t k, ()) r = bs t r := fun r => by
      rw [set_bs hkp]; exact ite_same' (fun e => by rw [e]; rfl)
    have eo : ∀ r, ow (t.1.set p (ackH (hAt t p)), delW t k, ()) r = if r = p then ow t p - 1 else ow t r := fun r => by
      rw [set_ow hkp]
      have : (ackH (hAt t p)).2.2.1 = ow t p - 1 := by show dec0 (ow t p) = _; unfold dec0; split <;> omega
      rw [this]
    have ez : ∀ r, bz (t.1.set p (ackH (hAt t p)), delW t k, ()) r = bz t r := fun r => by
      rw [set_bz hkp]; split
      · rename_i e; rw [e]; rfl
      · rfl
    have ec : ∀ q, cb q (t.1.set p (ackH (hAt t p)), delW t k, ()) n = cb q t n := fun q => sumN_congr (fun i _ => by rw [eb])
    refine odet_J ⟨h.n1, by simp only [List.length_set]; exact h.len, by show (delW t k).length ≤ 100; omega, fun x hx => h.w x (hdw x hx), ?_, ?_, ?_, ?_, ?_⟩ hp hdlen ?_
    · intro r hr
      rw [eo, ec]
      have h1 := h.owed r hr
      rw [hsum, hdq] at h1
      show _ = wsum r (delW t k) + cb r t n
      by_cases e : r = p
      · subst e; rw [if_pos rfl] at h1; rw [if_pos rfl]; omega
      · rw [if_neg (by omega)] at h1; rw [if_neg e]; omega
    · intro r hr; rw [eb]; exact h.boss r hr
    · rw [eb]; exact h.root
    · intro r hr h0 h1
      rw [eb] at h1; rw [ez, eo]
      obtain ⟨q1, q2⟩ := h.idle r hr h0 h1
      refine ⟨q1, ?_⟩
      split
      · rename_i e; subst e; omega
      · exact q2
    · obtain ⟨r, hr⟩ := h.rank
      refine ⟨r, fun a ha h0 => ?_⟩
      rw [eb] at h0 ⊢
      rw [eb]
      exact hr a ha h0
    · intro q hq hqp h0
      rw [eb] at h0; rw [ez, eo, if_neg hqp]
      exact h.leaf q hq h0
  · -- work
    rename_i hz
    have hz1 : z = 1 := w4.resolve_left hz
    subst hz1
    have hdq : ∀ q : Nat, dW q ((g : Int), (p : Int), 1, u) = if (g : Int) = q then 1 else 0 := fun q => by
      unfold dW; simp
    have hog : 1 ≤ ow t g := by
      have h9 := wsum_mem (p := g) hmem; have := h.owed g hg; have := cb_nn (p := g) (t := t) (n := n)
      rw [hdq, if_pos rfl] at h9
      omega
    have hgact := h.act hg (.inr (by omega))
    have hgp : g ≠ p := by omega
    by_cases hc : (p : Int) ≠ 0 ∧ (hAt t (p : Int)).2.1 = -1
    · -- it becomes a child
      rw [if_pos hc]
      obtain ⟨hc1, hc2⟩ := hc
      have hc2 : bs t p = -1 := hc2
      have hp0 : p ≠ 0 := by omega
      obtain ⟨i1, i2⟩ := h.idle p hp hp0 hc2
      have nochild : ∀ q, q < n → bs t q ≠ p := fun q hq e => by
        have := cb_pt hq e; have := h.owed p hp; have := wsum_nn p t.2.1; omega
      have eb : ∀ r, bs (t.1.set p (true, (g : Int), (hAt t p).2.2), delW t k, ()) r = if r = p then (g : Int) else bs t r := fun r => set_bs hkp r
      have eo : ∀ r, ow (t.1.set p (true, (g : Int), (hAt t p).2.2), delW t k, ()) r = ow t r := fun r => by
        rw [set_ow hkp]; exact ite_same' (fun e => by rw [e]; rfl)
      have ez : ∀ r, bz (t.1.set p (true, (g : Int), (hAt t p).2.2), delW t k, ()) r = if r = p then true else bz t r := fun r => set_bz hkp r
      refine ⟨⟨h.n1, by simp only [List.length_set]; exact h.len, by show (delW t k).length ≤ 100; omega, fun x hx => h.w x (hdw x hx), ?_, ?_, ?_, ?_, ?_⟩, ?_⟩
      · intro r hr
        rw [eo, set_cb hkp hp]
        have h1 := h.owed r hr
        rw [hsum, hdq] at h1
        show _ = wsum r (delW t k) + (cb r t n + ((if (g : Int) = r then 1 else 0) - (if bs t p = r then 1 else 0)))
        rw [hc2, if_neg (show ¬ (-1 : Int) = r by omega)]
        by_cases e : g = r
        · rw [if_pos (by omega)] at h1; rw [if_pos (by omega)]; omega
        · rw [if_neg (by omega)] at h1; rw [if_neg (by omega)]; omega
      · intro r hr; rw [eb]; split
        · omega
        · exact h.boss r hr
      · rw [eb, if_neg (Ne.symm hp0)]; exact h.root
      · intro r hr h0 h1
        rw [eb] at h1; rw [ez, eo]
        by_cases e : r = p
        · rw [if_pos e] at h1; omega
        · rw [if_neg e] at h1; rw [if_neg e]; exact h.idle r hr h0 h1
      · obtain ⟨r, hr⟩ := h.rank
        refine ⟨fun q => if q = p then r g + 1 else r q, fun a ha h0 => ?_⟩
        rw [eb] at h0 ⊢
        by_cases e : a = p
        · rw [if_pos e]
          rcases hgact with h1 | h1
          · exact .inl (by omega)
          · refine .inr ?_
            rw [Int.toNat_natCast, eb, if_neg hgp]
            refine ⟨h1, ?_⟩
            show (if g = p then r g + 1 else r g) < (if a = p then r g + 1 else r a)
            rw [if_pos e, if_neg hgp]; omega
        · rw [if_neg e] at h0 ⊢
          rcases hr a ha h0 with h1 | ⟨h1, h2⟩
          · exact .inl h1
          · refine .inr ?_
            have hne : (bs t a).toNat ≠ p := fun e9 => nochild a ha (by omega)
            rw [eb, if_neg hne]
            refine ⟨h1, ?_⟩
            show (if (bs t a).toNat = p then r g + 1 else r (bs t a).toNat) < (if a = p then r g + 1 else r a)
            rw [if_neg hne, if_neg e]; exact h2
      · intro q hq h0
        rw [eb] at h0; rw [ez, eo]
        by_cases e : q = p
        · rw [if_pos e]; exact .inl rfl
        · rw [if_neg e] at h0; rw [if_neg e]; exact h.leaf q hq h0
    · -- it answers at once
      rw [if_neg hc]
      have eb : ∀ r ws, bs (t.1.set p (true, (hAt t p).2), ws, ()) r = bs t r := fun r ws => by
        rw [set_bs hkp]; exact ite_same' (fun e => by rw [e]; rfl)
      have eo : ∀ r ws, ow (t.1.set p (true, (hAt t p).2), ws, ()) r = ow t r := fun r ws => by
        rw [set_ow hkp]; exact ite_same' (fun e => by rw [e]; rfl)
      have ez : ∀ r ws, bz (t.1.set p (true, (hAt t p).2), ws, ()) r = if r = p then true else bz t r := fun r ws => set_bz hkp r
      have ec : ∀ q ws, cb q (t.1.set p (true, (hAt t p).2), ws, ()) n = cb q t n := fun q ws => sumN_congr (fun i _ => by rw [eb])
      refine ⟨⟨h.n1, by simp only [List.length_set]; exact h.len, ?_, ?_, ?_, ?_, ?_, ?_, ?_⟩, ?_⟩
      · simp only [List.length_append, List.length_cons, List.length_nil]; omega
      · intro x hx
        rcases List.mem_append.1 hx with hx | hx
        · exact h.w x (hdw x hx)
        · simp only [List.mem_cons, List.not_mem_nil, or_false] at hx
          subst hx
          exact ⟨by show 0 ≤ (p : Int) ∧ (p : Int) < n; omega, by show 0 ≤ (g : Int) ∧ (g : Int) < n; omega, by show (p : Int) ≠ g; omega, .inl rfl⟩
      · intro r hr
        rw [eo, ec, wsum_app]
        have h1 := h.owed r hr
        rw [hsum, hdq] at h1
        have e2 : dW r (p, g, 0, ()) = if (g : Int) = r then 1 else 0 := by unfold dW; simp
        show _ = wsum r (delW t k) + (dW r (p, g, 0, ()) + 0) + cb r t n
        rw [e2]; omega
      · intro r hr; rw [eb]; exact h.boss r hr
      · rw [eb]; exact h.root
      · intro r hr h0 h1
        rw [eb] at h1; rw [ez, eo]
        by_cases e : r = p
        · subst e; exact absurd ⟨by omega, h1⟩ hc
        · rw [if_neg e]; exact h.idle r hr h0 h1
      · obtain ⟨r, hr⟩ := h.rank
        refine ⟨r, fun a ha h0 => ?_⟩
        rw [eb] at h0 ⊢
        rw [eb]
        exact hr a ha h0
      · intro q hq h0
        rw [eb] at h0; rw [ez, eo]
        by_cases e : q = p
        · rw [if_pos e]; exact .inl rfl
        · rw [if_neg e]; exact h.leaf q hq h0
end
end Go.Proofs.Ytbcdpeogfghgcaa
