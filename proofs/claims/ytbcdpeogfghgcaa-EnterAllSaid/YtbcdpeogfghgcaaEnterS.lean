/- How long it takes until nobody wishes, in plain terms. -/
import Derived.Test.YtbcdpeogfghgcaaEnterR
namespace Go.Proofs.Ytbcdpeogfghgcaa
open Go.Ex
variable {n p : Nat} {f : Nat → DoorD} {ws : List WordD} {t : EnterD}
def ephi : List WordD → Int
  | [] => 0
  | w :: l => (if w.2.2.1 = 0 then 1 else 3) + ephi l
theorem ephi_app : ∀ l m, ephi (l ++ m) = ephi l + ephi m
  | [], m => by simp [ephi]
  | w :: l, m => by simp only [List.cons_append, ephi, ephi_app l m]; omega
theorem ephi_le : ∀ l, 0 ≤ ephi l ∧ ephi l ≤ 3 * (l.length : Int)
  | [] => by simp [ephi]
  | w :: l => by have := ephi_le l; simp only [ephi, List.length_cons]; split <;> omega
theorem ephi_map (l : List Int) : ephi (l.map fun q => (((p : Int), q, 0, ()) : WordD)) = l.length := by
  induction l with
  | nil => rfl
  | cons x l ih => simp only [List.map_cons, ephi, ih, List.length_cons]; rw [if_pos trivial]; omega
def lateN (f : Nat → DoorD) (n : Nat) : Int := sumN (fun q => ((f q).2.2.2.2.1.length : Int)) n
def nwish (f : Nat → DoorD) (n : Nat) : Int := sumN (fun q => if 0 < (f q).2.1 then 1 else 0) n
def aphi (f : Nat → DoorD) (ws : List WordD) (n : Nat) : Int := ephi ws + 2 * lateN f n + nwish f n
theorem lateN_upd {d : DoorD} (hp : p < n) : lateN (upd f p d) n = lateN f n + ((d.2.2.2.2.1.length : Int) - (f p).2.2.2.2.1.length) := by
  rw [lateN, lateN, ← sumN_upd (f := fun q => ((f q).2.2.2.2.1.length : Int)) (g := (d.2.2.2.2.1.length : Int)) hp]
  refine sumN_congr fun q _ => ?_
  by_cases e : q = p
  · subst e; rw [upd_same, if_pos rfl]
  · rw [upd_ne e, if_neg e]
theorem nwish_upd {d : DoorD} (hp : p < n) : nwish (upd f p d) n = nwish f n + ((if 0 < d.2.1 then 1 else 0) - (if 0 < (f p).2.1 then 1 else 0)) := by
  rw [nwish, nwish, ← sumN_upd (f := fun q => if 0 < (f q).2.1 then 1 else 0) (g := if 0 < d.2.1 then 1 else 0) hp]
  refine sumN_congr fun q _ => ?_
  by_cases e : q = p
  · subst e; rw [upd_same, if_pos rfl]
  · rw [upd_ne e, if_neg e]
theorem take_aphi (h : JE n t) {k : Nat} (hk : k < t.2.1.length) : aphi (fD (etake1 t k)) (etake1 t k).2.1 n + 1 ≤ aphi (fD t) t.2.1 n ∧ nwish (fD (etake1 t k)) n = nwish (fD t) n := by
  obtain ⟨x, y, z, u, u2, u3, A, B, -, hx, hy, hxy, hsp, hl, hc⟩ := take_cases h hk
  rw [hsp, aphi, aphi, ephi_app, ephi]
  rcases hc with ⟨rfl, h1, h2, h3⟩ | ⟨z0, h1, h2, h3⟩ | ⟨z0, h1, h2, h3⟩
  · rw [h2, h3, nwish_upd hy, lateN_upd hy, ephi_app]
    simp only [if_pos]
    exact ⟨by omega, by omega⟩
  · rw [h2, h3, nwish_upd hy, lateN_upd hy, ephi_app]
    simp only [if_neg z0, List.length_append, List.length_singleton]
    exact ⟨by omega, by omega⟩
  · rw [h2, h3, nwish_upd hy, lateN_upd hy, ephi_app, ephi_app, ephi, ephi]
    simp only [if_neg z0, if_pos]
    exact ⟨by omega, by omega⟩
theorem leave_aphi (h : JE n t) (hp : p < n) (hi : (fD t p).2.2.2.1 = true) : aphi (fD (leave1 t p)) (leave1 t p).2.1 n + 1 ≤ aphi (fD t) t.2.1 n ∧ nwish (fD (leave1 t p)) n + 1 = nwish (fD t) n := by
  obtain ⟨hs, ws, u⟩ := t
  have hlen : hs.length = n := h.len
  have hd : dAt (hs, ws, u) p = fD (hs, ws, u) p := by rw [dAt, Int.toNat_natCast]; rfl
  have hw := ((h.iv.i p hp).1 hi).1
  rw [leave1, hd, Int.toNat_natCast]
  show aphi (fD (hs.set p _, _, ())) (ws ++ _) n + 1 ≤ aphi _ ws n ∧ nwish (fD (hs.set p _, _, ())) n + 1 = _
  rw [fD_set (by omega) ws u, aphi, aphi, ephi_app, ephi_map, lateN_upd hp, nwish_upd hp, if_pos hw]
  simp only [List.length_nil]
  rw [if_neg (by omega)]
  exact ⟨by omega, by omega⟩
theorem aphi_le (h : JE n t) : 0 ≤ aphi (fD t) t.2.1 n ∧ aphi (fD t) t.2.1 n ≤ 378 := by
  have h1 := ephi_le t.2.1
  have h2 : t.2.1.length ≤ 100 := h.iv.l
  have h3 : lateN (fD t) n ≤ sumN (fun _ => (6 : Int)) n := sumN_le fun i hi => by have := h.iv.later hi; have := h.n1; show ((fD t i).2.2.2.2.1.length : Int) ≤ 6; omega
  have h4 : 0 ≤ lateN (fD t) n := sumN_nn (fun i => by show (0 : Int) ≤ ((fD t i).2.2.2.2.1.length : Int); omega) n
  have h5 : nwish (fD t) n ≤ sumN (fun _ => (1 : Int)) n := sumN_le fun i hi => by show (if 0 < (fD t i).2.1 then (1 : Int) else 0) ≤ 1; split <;> decide
  have h6 : 0 ≤ nwish (fD t) n := sumN_nn (fun i => by show (0 : Int) ≤ if 0 < (fD t i).2.1 then (1 : Int) else 0; split <;> decide) n
  rw [sumN_const] at h3 h5
  have := h.n1
  rw [aphi]
  omega
theorem JE.first (h : JE n t) (hp : p < n) (hi : (fD t p).2.2.2.1 = true) {q : Nat} (hq : q < n) (hne : q ≠ p) (hw : 0 < (fD t q).2.1) : bef (fD t) p q := by
  obtain ⟨a1, a2⟩ := (h.iv.i p hp).1 hi
  have e1 : ys (fD t) p q = 1 := by rw [ys, a2 q hq hne]; rfl
  exact h.iv.gr p q hp hq (fun e => hne e.symm) (by omega) hw
theorem JE.end (h : JE n t) (hws : t.2.1 = []) (hi : insideR t = []) : ∀ (m : Nat) {q : Nat}, q < n → (fD t q).2.1.toNat * 7 + q < m → ¬ 0 < (fD t q).2.1
  | 0, q, _, hm => by omega
  | m + 1, q, hq, hm => fun hw => by
    have hin : (fD t q).2.2.2.1 = true := (h.iv.i q hq).2 ⟨hw, fun r hr hne => by
      have hN := h.iv.N q r hq hr (fun e => hne e.symm)
      have e1 : rq t.2.1 q r = 0 := by rw [hws]; rfl
      have e2 : rp t.2.1 r q = 0 := by rw [hws]; rfl
      rw [if_pos hw, e1, e2] at hN
      by_cases hl : 0 < lt (fD t) r q
      · exfalso
        obtain ⟨a, h1, h2, h3, h4, h5⟩ := h.iv.lr r hr (q : Int) (List.count_pos_iff.1 hl)
        have : a = q := by omega
        subst this
        have hn := h.n1
        unfold bef at h5
        exact JE.end h hws hi m hr (by omega) h4
      · have hy : ys (fD t) q r = 1 := by omega
        unfold ys at hy
        cases hb : bit (fD t q).2.2.1 r with
        | true => rfl
        | false => rw [hb] at hy; cases hy⟩
    have := h.ins.2 ⟨q, rfl, hq, hin⟩
    rw [hi] at this
    cases this
theorem JE.done (h : JE n t) (hws : t.2.1 = []) (hi : insideR t = []) {q : Nat} (hq : q < n) : ¬ 0 < (fD t q).2.1 := h.end hws hi _ hq (Nat.lt_succ_self _)
theorem nwish_zero (h : ∀ q, q < n → ¬ 0 < (f q).2.1) : nwish f n = 0 := by
  rw [nwish, sumN_congr (g := fun _ => (0 : Int)) (fun q hq => if_neg (h q hq)), sumN_const]; simp
theorem take_ok (h : JE n t) {k : Nat} (hk : k < t.2.1.length) : etake t k = (etake1 t k, 0, ()) := by
  rw [etake, if_neg (by simp [h.ok]), if_neg]
  rw [inF_iff.2 (show 0 ≤ (k : Int) ∧ (k : Int) ≤ t.2.1.length - 1 by omega)]; simp
theorem leave_ok (h : JE n t) (hp : p < n) (hi : (fD t p).2.2.2.1 = true) (hws : t.2.1 = []) : eleave t p = (leave1 t p, 0, ()) := by
  have hl := h.len
  have hd : dAt t p = fD t p := by rw [dAt, Int.toNat_natCast]; rfl
  rw [eleave, if_neg (by simp [h.ok]), if_neg, if_neg, if_neg]
  · have h1 := h.iv.later hp
    have h2 := h.n1
    rw [hd, hws]; show ¬ (100 : Int) < ((0 : Nat) : Int) + _; omega
  · rw [hd, hi]; simp
  · rw [inF_iff.2 (show 0 ≤ (p : Int) ∧ (p : Int) ≤ t.1.length - 1 by omega)]; simp
end Go.Proofs.Ytbcdpeogfghgcaa
