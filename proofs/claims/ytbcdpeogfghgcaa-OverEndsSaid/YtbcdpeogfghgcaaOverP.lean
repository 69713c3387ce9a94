/- Hands at work: what follows from what holds. -/
import Derived.Test.YtbcdpeogfghgcaaOverC
namespace Go.Proofs.Ytbcdpeogfghgcaa
open Go.Ex
section
variable {n : Nat} {t : OverD}
theorem new_J (h1 : 1 ≤ n) (h2 : n ≤ 6) : J n (onew1 n) := by
  have hl : 0 < (List.replicate n ((false, -1, 0, ()) : HandD)).length := by simp; omega
  have g : ∀ q, (onew1 n).1.getD q hand0 = if q = 0 then (true, -1, 0, ()) else (List.replicate n ((false, -1, 0, ()) : HandD)).getD q hand0 := fun q => getD_set hl
  have hb : ∀ q, q < n → bs (onew1 n) q = -1 := fun q hq => by
    rw [bs, g]; split
    · rfl
    · rw [repF _ _ hq]
  have ho : ∀ q, q < n → ow (onew1 n) q = 0 := fun q hq => by
    rw [ow, g]; split
    · rfl
    · rw [repF _ _ hq]
  refine ⟨⟨⟨h1, h2⟩, by simp [onew1], by simp [onew1], by simp [onew1], fun p hp => ?_, fun p hp => ?_, hb 0 (by omega), fun p hp h0 _ => ⟨?_, ho p hp⟩, ⟨fun _ => 0, fun p hp h0 => ?_⟩⟩, fun q hq h0 => ?_⟩
  · rw [ho p hp]
    have : cb p (onew1 n) n = 0 := by
      rw [cb, sumN_congr (g := fun _ => 0) (fun i hi => by rw [hb i hi, if_neg (by omega)]), sumN_const]; simp
    rw [this]; rfl
  · rw [hb p hp]; omega
  · rw [bz, g, if_neg h0, repF _ _ hp]
  · rw [hb p hp] at h0; omega
  · rw [hb q hq] at h0; omega
theorem step_J {x : WorkD} (h : J n t) : J n (ostep n t x) := by
  have hok := h.ok
  have hnk : ¬ ocheck t ≠ 0 := by simp [hok]
  have hln := h.len
  unfold ostep
  split
  · rename_i h0
    unfold ostep1 at h0 ⊢
    split at h0
    · rename_i e; rw [if_pos e]
      generalize rest x.2.1 n = p at *
      generalize rest x.2.2.1 n = q at *
      unfold ogive at h0 ⊢
      rw [if_neg hnk] at h0 ⊢
      split at h0
      · cases h0
      · rename_i c1
        rw [if_neg c1]
        simp only [not_or, Bool.not_eq_false] at c1
        have hp := inF_iff.1 c1.1
        have hq := inF_iff.1 c1.2.1
        split at h0
        · cases h0
        · rename_i c2
          rw [if_neg c2]
          split at h0
          · cases h0
          · rename_i c3
            rw [if_neg c3]
            obtain ⟨P, rfl⟩ : ∃ P : Nat, p = P := ⟨p.toNat, by omega⟩
            obtain ⟨Q, rfl⟩ : ∃ Q : Nat, q = Q := ⟨q.toNat, by omega⟩
            have := h.wl
            exact give_J h (by omega) (by omega) (by omega) (by have c2 : ¬ bz t P = false := c2; simpa using c2) (by omega)
    · rename_i e
      rw [if_neg e]
      split at h0
      · rename_i e2; rw [if_pos e2]
        generalize rest x.2.1 n = p at *
        unfold orest at h0 ⊢
        rw [if_neg hnk] at h0 ⊢
        split at h0
        · cases h0
        · rename_i c1
          rw [if_neg c1]
          have hp := inF_iff.1 (Bool.not_eq_false _ ▸ c1)
          split at h0
          · cases h0
          · rename_i c2
            rw [if_neg c2]
            split at h0
            · cases h0
            · rename_i c3
              rw [if_neg c3]
              obtain ⟨P, rfl⟩ : ∃ P : Nat, p = P := ⟨p.toNat, by omega⟩
              have := h.wl
              exact rest_J h (by omega) (by omega)
      · rename_i e2; rw [if_neg e2]
        generalize rest x.2.2.1 _ = k at *
        unfold otake at h0 ⊢
        rw [if_neg hnk] at h0 ⊢
        split at h0
        · cases h0
        · rename_i c1
          rw [if_neg c1]
          have hk := inF_iff.1 (Bool.not_eq_false _ ▸ c1)
          obtain ⟨K, rfl⟩ : ∃ K : Nat, k = K := ⟨k.toNat, by omega⟩
          exact take_J h (by omega)
  · exact h
theorem fold_J : ∀ {l : List WorkD} {s : OverD}, J n s → J n (l.foldl (ostep n) s)
  | [], _, h => h
  | x :: l, s, h => fold_J (l := l) (s := ostep n s x) (step_J h)
theorem hands_J {l : List WorkD} {m : Int} (h1 : 1 ≤ m) (h2 : m ≤ 6) : J m.toNat (ohands m l) := by
  rw [ohands, onew_ok h1 h2]
  obtain ⟨N, rfl⟩ : ∃ N : Nat, m = N := ⟨m.toNat, by omega⟩
  exact fold_J (new_J (by omega) (by omega))
/-! what is owed together -/
theorem dW_one {w : WordD} (h : (0 ≤ w.1 ∧ w.1 < n) ∧ (0 ≤ w.2.1 ∧ w.2.1 < n) ∧ w.1 ≠ w.2.1 ∧ (w.2.2.1 = 0 ∨ w.2.2.1 = 1)) : sumN (fun p => dW p w) n = 1 := by
  obtain ⟨h1, h2, h3, h4⟩ := h
  have key : ∀ k : Nat, k < n → (∀ p : Nat, dW p w = if p = k then 1 else 0) → sumN (fun p => dW p w) n = 1 := by
    intro k hk hd
    rw [sumN_congr (g := fun i => if i = k then (1 : Int) else (fun _ => (0 : Int)) i) (fun i _ => hd i), sumN_upd hk, sumN_const]; simp
  rcases h4 with h4 | h4
  · refine key w.2.1.toNat (by omega) (fun p => ?_)
    unfold dW
    by_cases e : p = w.2.1.toNat
    · rw [if_pos e, if_pos (.inr ⟨h4, by omega⟩)]
    · rw [if_neg e, if_neg (by rintro (⟨a, b⟩ | ⟨a, b⟩) <;> omega)]
  · refine key w.1.toNat (by omega) (fun p => ?_)
    unfold dW
    by_cases e : p = w.1.toNat
    · rw [if_pos e, if_pos (.inl ⟨h4, by omega⟩)]
    · rw [if_neg e, if_neg (by rintro (⟨a, b⟩ | ⟨a, b⟩) <;> omega)]
theorem wsum_all : ∀ {l : List WordD}, (∀ w ∈ l, (0 ≤ w.1 ∧ w.1 < (n : Int)) ∧ (0 ≤ w.2.1 ∧ w.2.1 < (n : Int)) ∧ w.1 ≠ w.2.1 ∧ (w.2.2.1 = 0 ∨ w.2.2.1 = 1)) → sumN (fun p => wsum p l) n = (l.length : Int)
  | [], _ => by simp only [wsum, sumN_const]; simp
  | w :: l, h => by
    simp only [wsum, sumN_add, dW_one (h w (by simp)), wsum_all (l := l) (fun x hx => h x (by simp [hx])), List.length_cons]; omega
def nb (t : OverD) (n : Nat) : Int := sumN (fun q => if 0 ≤ bs t q then 1 else 0) n
theorem cb_all (h : JO n t) : sumN (fun p => cb p t n) n = nb t n := by
  show sumN (fun p : Nat => sumN (fun q => if bs t q = (p : Int) then (1 : Int) else 0) n) n = _
  rw [sumN_swap]
  refine sumN_congr (fun q hq => ?_)
  have hb := h.boss q hq
  by_cases e : 0 ≤ bs t q
  · rw [if_pos e]
    rw [sumN_congr (g := fun i => if i = (bs t q).toNat then (1 : Int) else (fun _ => (0 : Int)) i) (fun i _ => by
      by_cases e2 : i = (bs t q).toNat
      · rw [if_pos e2, if_pos (by omega)]
      · rw [if_neg e2, if_neg (by omega)]), sumN_upd (by omega), sumN_const]; simp
  · rw [if_neg e, sumN_congr (g := fun _ => (0 : Int)) (fun i _ => by rw [if_neg (by omega)]), sumN_const]; simp
theorem owed_all (h : JO n t) : sumN (ow t) n = (t.2.1.length : Int) + nb t n := by
  rw [sumN_congr (fun p hp => h.owed p hp), sumN_add, wsum_all h.w, cb_all h]
/-! nobody has a boss -/
theorem none_bossed (h : JO n t) (hno : ∀ p, p < n → ow t p = 0 → ∀ q, q < n → bs t q ≠ p) (h0 : ow t 0 = 0) : ∀ q, q < n → bs t q = -1 := by
  have h1 := h.n1
  obtain ⟨r, hr⟩ := h.rank
  have key : ∀ m q, r q < m → q < n → ¬ 0 ≤ bs t q := by
    intro m
    induction m with
    | zero => intro q h; omega
    | succ m ih =>
      intro q hq hqn hb
      rcases hr q hqn hb with e | ⟨e1, e2⟩
      · exact hno 0 (by omega) h0 q hqn (by omega)
      · have := h.boss q hqn
        exact ih (bs t q).toNat (by omega) (by omega) e1
  intro q hq
  have := key (r q + 1) q (by omega) hq
  have := h.boss q hq
  omega
theorem nochild (h : JO n t) {p : Nat} (hp : p < n) (h0 : ow t p = 0) {q : Nat} (hq : q < n) : bs t q ≠ p := fun e => by
  have := cb_pt hq e
  have := h.owed p hp
  have := wsum_nn p t.2.1
  omega
theorem safe (h : J n t) (hb : bz t 0 = false) (h0 : ow t 0 = 0) : (∀ q, q < n → bz t q = false ∧ ow t q = 0) ∧ t.2.1 = [] := by
  have hno := none_bossed h.toJO (fun p hp h0 q hq => nochild h.toJO hp h0 hq) h0
  have hall : ∀ q, q < n → bz t q = false ∧ ow t q = 0 := fun q hq => by
    by_cases e : q = 0
    · subst e; exact ⟨hb, h0⟩
    · exact h.idle q hq e (hno q hq)
  refine ⟨hall, ?_⟩
  have := owed_all h.toJO
  rw [sumN_congr (g := fun _ => (0 : Int)) (fun p hp => (hall p hp).2), sumN_const] at this
  have hnb : 0 ≤ nb t n := sumN_nn (fun i => by split <;> decide) n
  exact List.length_eq_zero_iff.1 (by omega)
/-- where all rest and nothing is on its way, all is done -/
theorem ended (h : J n t) (hw : t.2.1 = []) (hz : ∀ q, q < n → bz t q = false) : ow t 0 = 0 := by
  have h1 := h.n1
  -- who has a boss is owed something, so has a child; the greatest rank has none
  obtain ⟨r, hr⟩ := h.rank
  have hown : ∀ p, p < n → ow t p = cb p t n := fun p hp => by
    have := h.owed p hp; rw [hw] at this; simpa [wsum] using this
  have hchild : ∀ p, p < n → 0 < ow t p → ∃ q, q < n ∧ bs t q = p := by
    intro p hp h0
    rw [hown p hp] at h0
    refine Decidable.byContradiction (fun hc => ?_)
    have : cb p t n = 0 := by
      rw [cb, sumN_congr (g := fun _ => (0 : Int)) (fun i hi => by rw [if_neg (fun e => hc ⟨i, hi, e⟩)]), sumN_const]; simp
    omega
  have hmax : ∀ k : Nat, ∃ M : Nat, ∀ q, q < k → r q ≤ M := by
    intro k
    induction k with
    | zero => exact ⟨0, fun q h => by omega⟩
    | succ k ih =>
      obtain ⟨M, hM⟩ := ih
      refine ⟨max M (r k), fun q hq => ?_⟩
      by_cases e : q = k
      · subst e; omega
      · have := hM q (by omega); omega
  obtain ⟨M, hM⟩ := hmax n
  have key : ∀ m q, M - r q < m → q < n → ¬ 0 ≤ bs t q := by
    intro m
    induction m with
    | zero => intro q h; omega
    | succ m ih =>
      intro q hq hqn hb
      have hl := (h.leaf q hqn hb).resolve_left (by rw [hz q hqn]; simp)
      obtain ⟨c, hc, e⟩ := hchild q hqn hl
      rcases hr c hc (by omega) with e1 | ⟨e1, e2⟩
      · have : q = 0 := by omega
        subst this
        have := h.root; omega
      · rw [e, Int.toNat_natCast] at e2
        have := hM c hc; have := hM q hqn
        exact ih c (by omega) hc (by omega)
  have h0 := (h.ow_in (p := 0) (by omega)).1
  rcases Int.lt_or_le 0 (ow t 0) with h9 | h9
  · obtain ⟨c, hc, e⟩ := hchild 0 (by omega) h9
    exact absurd (by omega) (key (M - r c + 1) c (by omega) hc)
  · omega
/-! how much there is to do -/
def wphi : List WordD → Int
  | [] => 0
  | w :: l => (if w.2.2.1 = 1 then 3 else 1) + wphi l
theorem wphi_app : ∀ l m, wphi (l ++ m) = wphi l + wphi m
  | [], m => by simp [wphi]
  | w :: l, m => by simp only [List.cons_append, wphi, wphi_app l m]; omega
theorem wphi_nn : ∀ l, 0 ≤ wphi l
  | [] => Int.le_refl _
  | w :: l => by have := wphi_nn l; simp only [wphi]; split <;> omega
theorem wphi_le : ∀ l, wphi l ≤ 3 * (l.length : Int)
  | [] => by simp [wphi]
  | w :: l => by have := wphi_le l; simp only [wphi, List.length_cons]; split <;> omega
def nz (t : OverD) (n : Nat) : Int := sumN (fun q => if bz t q = true then 1 else 0) n
def phi (t : OverD) (n : Nat) : Int := wphi t.2.1 + nb t n + nz t n
theorem set_nb {ws : List WordD} {u : Unit} {k : Nat} {h : HandD} (hk : k < t.1.length) (hn : k < n) : nb (t.1.set k h, ws, u) n = nb t n + ((if 0 ≤ h.2.1 then 1 else 0) - (if 0 ≤ bs t k then 1 else 0)) := by
  have : nb (t.1.set k h, ws, u) n = sumN (fun i => if i = k then (if 0 ≤ h.2.1 then (1 : Int) else 0) else (if 0 ≤ bs t i then 1 else 0)) n :=
    sumN_congr (fun i _ => by rw [set_bs hk]; split <;> rfl)
  rw [this, sumN_upd hn]; rfl
theorem set_nz {ws : List WordD} {u : Unit} {k : Nat} {h : HandD} (hk : k < t.1.length) (hn : k < n) : nz (t.1.set k h, ws, u) n = nz t n + ((if h.1 = true then 1 else 0) - (if bz t k = true then 1 else 0)) := by
  have : nz (t.1.set k h, ws, u) n = sumN (fun i => if i = k then (if h.1 = true then (1 : Int) else 0) else (if bz t i = true then 1 else 0)) n :=
    sumN_congr (fun i _ => by rw [set_bz hk]; split <;> rfl)
  rw [this, sumN_upd hn]; rfl
theorem phi_le (hl : t.2.1.length ≤ 100) (hn : n ≤ 6) : phi t n ≤ 312 := by
  have h1 := wphi_le t.2.1
  have h2 : nb t n ≤ sumN (fun _ => (1 : Int)) n := sumN_le (fun i _ => by split <;> decide)
  have h3 : nz t n ≤ sumN (fun _ => (1 : Int)) n := sumN_le (fun i _ => by split <;> decide)
  rw [sumN_const] at h2 h3
  unfold phi; omega
theorem phi_nn : 0 ≤ phi t n := by
  have h1 := wphi_nn t.2.1
  have h2 : 0 ≤ nb t n := sumN_nn (fun i => by split <;> decide) n
  have h3 : 0 ≤ nz t n := sumN_nn (fun i => by split <;> decide) n
  unfold phi; omega
theorem phi_det {p : Nat} (hl : t.1.length = n) (hp : p < n) (hb : -1 ≤ bs t p) : phi (odet t p) n ≤ phi t n := by
  have hk : p < t.1.length := by omega
  rw [odet]
  split
  · exact Int.le_refl _
  · rename_i hd
    simp only [detB, Bool.or_eq_true, decide_eq_true_eq, not_or] at hd
    have d2 : bs t p ≠ -1 := hd.1.1.2
    show wphi (t.2.1 ++ _) + nb (t.1.set (p : Int).toNat _, _, ()) n + nz (t.1.set (p : Int).toNat _, _, ()) n ≤ _
    rw [Int.toNat_natCast, set_nb hk hp, set_nz hk hp, wphi_app]
    show wphi t.2.1 + ((if (0 : Int) = 1 then 3 else 1) + 0) + (nb t n + ((if (0 : Int) ≤ -1 then 1 else 0) - (if 0 ≤ bs t p then 1 else 0))) + (nz t n + ((if bz t p = true then 1 else 0) - (if bz t p = true then 1 else 0))) ≤ _
    rw [if_neg (show ¬ (0 : Int) ≤ -1 by omega), if_pos (show 0 ≤ bs t p by omega), if_neg (show ¬ (0 : Int) = 1 by omega)]
    unfold phi; omega
theorem phi_rest {p : Nat} (h : J n t) (hp : p < n) (hb : bz t p = true) : phi (rest1 t p) n + 1 ≤ phi t n := by
  have hk : p < t.1.length := by rw [h.len]; exact hp
  rw [rest1]
  have hbs := h.boss p hp
  have := phi_det (t := (t.1.set (p : Int).toNat (false, (hAt t p).2), t.2.1, ())) (n := n) (p := p) (by simp only [List.length_set]; exact h.len) hp (by
    rw [Int.toNat_natCast, set_bs hk, if_pos rfl]; exact hbs.1)
  refine Int.le_trans (Int.add_le_add_right this 1) ?_
  show wphi t.2.1 + nb (t.1.set (p : Int).toNat _, _, ()) n + nz (t.1.set (p : Int).toNat _, _, ()) n + 1 ≤ _
  rw [Int.toNat_natCast, set_nb hk hp, set_nz hk hp]
  show wphi t.2.1 + (nb t n + ((if 0 ≤ bs t p then 1 else 0) - (if 0 ≤ bs t p then 1 else 0))) + (nz t n + ((if false = true then 1 else 0) - (if bz t p = true then 1 else 0))) + 1 ≤ _
  rw [if_pos hb, if_neg (show ¬ false = true by simp)]
  unfold phi; omega
theorem phi_take {k : Nat} (h : J n t) (hk : k < t.2.1.length) : phi (take1 t k) n + 1 ≤ phi t n := by
  have hwd := del_split hk word0
  obtain ⟨w1, w2, w3, w4⟩ := h.w _ (getD_mem (d := word0) hk)
  have hdl : delW t k = t.2.1.take k ++ t.2.1.drop (k + 1) := by
    rw [delW]; rfl
  have hsum : wphi t.2.1 = wphi (delW t k) + (if (t.2.1.getD k word0).2.2.1 = 1 then 3 else 1) := by
    rw [hdl, wphi_app]
    conv => lhs; rw [hwd]
    rw [wphi_app]
    simp only [wphi]; omega
  have hwa : wAt t k = t.2.1.getD k word0 := rfl
  rw [take1, hwa]
  generalize hW : t.2.1.getD k word0 = w at *
  obtain ⟨f, y, z, u⟩ := w
  simp only at w1 w2 w3 w4 hsum ⊢
  obtain ⟨p, rfl⟩ : ∃ p : Nat, y = p := ⟨y.toNat, by omega⟩
  have hp : p < n := by omega
  have hkp : p < t.1.length := by rw [h.len]; exact hp
  have hbs := h.boss p hp
  simp only [Int.toNat_natCast]
  split
  · rename_i hz
    rw [hz, if_neg (by decide)] at hsum
    have := phi_det (t := (t.1.set p (ackH (hAt t p)), delW t k, ())) (n := n) (p := p) (by simp only [List.length_set]; exact h.len) hp (by
      rw [set_bs hkp, if_pos rfl]; exact hbs.1)
    refine Int.le_trans (Int.add_le_add_right this 1) ?_
    show wphi (delW t k) + nb (t.1.set p _, _, ()) n + nz (t.1.set p _, _, ()) n + 1 ≤ _
    rw [set_nb hkp hp, set_nz hkp hp]
    show wphi (delW t k) + (nb t n + ((if 0 ≤ bs t p then 1 else 0) - (if 0 ≤ bs t p then 1 else 0))) + (nz t n + ((if bz t p = true then 1 else 0) - (if bz t p = true then 1 else 0))) + 1 ≤ _
    unfold phi; omega
  · rename_i hz
    have hz1 : z = 1 := w4.resolve_left hz
    rw [hz1, if_pos rfl] at hsum
    have hnz : (if bz t p = true then (1 : Int) else 0) ≤ 1 ∧ 0 ≤ (if bz t p = true then (1 : Int) else 0) := by split <;> decide
    split
    · rename_i hc
      have hc2 : bs t p = -1 := hc.2
      show wphi (delW t k) + nb (t.1.set p _, _, ()) n + nz (t.1.set p _, _, ()) n + 1 ≤ _
      rw [set_nb hkp hp, set_nz hkp hp]
      show wphi (delW t k) + (nb t n + ((if 0 ≤ f then 1 else 0) - (if 0 ≤ bs t p then 1 else 0))) + (nz t n + ((if true = true then 1 else 0) - (if bz t p = true then 1 else 0))) + 1 ≤ _
      rw [if_pos rfl, hc2, if_neg (show ¬ (0 : Int) ≤ -1 by omega), if_pos w1.1]
      unfold phi; omega
    · show wphi (delW t k ++ _) + nb (t.1.set p _, _, ()) n + nz (t.1.set p _, _, ()) n + 1 ≤ _
      rw [set_nb hkp hp, set_nz hkp hp, wphi_app]
      show wphi (delW t k) + ((if (0 : Int) = 1 then 3 else 1) + 0) + (nb t n + ((if 0 ≤ bs t p then 1 else 0) - (if 0 ≤ bs t p then 1 else 0))) + (nz t n + ((if true = true then 1 else 0) - (if bz t p = true then 1 else 0))) + 1 ≤ _
      rw [if_pos rfl, if_neg (show ¬ (0 : Int) = 1 by omega)]
      unfold phi; omega
end
end Go.Proofs.Ytbcdpeogfghgcaa
