/- Histories, in plain words: what came before an event; what a check that passes says; what the numbers are. -/
import Derived.Test.YtcafiieffenohaaStamp
namespace Go.Proofs.Ytcafiieffenohaa
open Go.Ex

def pr (h : List Ev) (i : Nat) : Nat := (h.getD i e0).1.toNat
def kd (h : List Ev) (i : Nat) : Int := (h.getD i e0).2.1
def ms (h : List Ev) (i : Nat) : Nat := (h.getD i e0).2.2.1.toNat
/-- the last event of a process before i; the last that sent a message before i -/
def lastIdx (h : List Ev) (p : Nat) : Nat → Option Nat
  | 0 => none
  | i + 1 => if pr h i = p then some i else lastIdx h p i
def sentIdx (h : List Ev) (m : Nat) : Nat → Option Nat
  | 0 => none
  | i + 1 => if kd h i = 2 ∧ ms h i = m then some i else sentIdx h m i
def tookB (h : List Ev) (m p : Nat) : Nat → Bool
  | 0 => false
  | i + 1 => (decide (kd h i = 3) && decide (ms h i = m) && decide (pr h i = p)) || tookB h m p i

theorem lastIdx_some {h : List Ev} {p : Nat} : ∀ {i j : Nat}, lastIdx h p i = some j → j < i ∧ pr h j = p ∧ ∀ k, j < k → k < i → pr h k ≠ p
  | 0, j, h => by cases h
  | i + 1, j, hh => by
    simp only [lastIdx] at hh
    split at hh
    · rename_i hp; cases hh; exact ⟨by omega, hp, fun k h1 h2 => by omega⟩
    · rename_i hp
      obtain ⟨a, b, c⟩ := lastIdx_some hh
      exact ⟨by omega, b, fun k h1 h2 => by
        by_cases e : k = i
        · subst e; exact hp
        · exact c k h1 (by omega)⟩
theorem lastIdx_none {h : List Ev} {p : Nat} : ∀ {i : Nat}, lastIdx h p i = none → ∀ k, k < i → pr h k ≠ p
  | 0, _, k, hk => by omega
  | i + 1, hh, k, hk => by
    simp only [lastIdx] at hh
    split at hh
    · cases hh
    · rename_i hp
      by_cases e : k = i
      · subst e; exact hp
      · exact lastIdx_none hh k (by omega)
theorem sentIdx_some {h : List Ev} {m : Nat} : ∀ {i j : Nat}, sentIdx h m i = some j → j < i ∧ kd h j = 2 ∧ ms h j = m ∧ ∀ k, j < k → k < i → ¬ (kd h k = 2 ∧ ms h k = m)
  | 0, j, h => by cases h
  | i + 1, j, hh => by
    simp only [sentIdx] at hh
    split at hh
    · rename_i hp; cases hh; exact ⟨by omega, hp.1, hp.2, fun k h1 h2 => by omega⟩
    · rename_i hp
      obtain ⟨a, b, c, d⟩ := sentIdx_some hh
      exact ⟨by omega, b, c, fun k h1 h2 => by
        by_cases e : k = i
        · subst e; exact hp
        · exact d k h1 (by omega)⟩
theorem sentIdx_none {h : List Ev} {m : Nat} : ∀ {i : Nat}, sentIdx h m i = none → ∀ k, k < i → ¬ (kd h k = 2 ∧ ms h k = m)
  | 0, _, k, hk => by omega
  | i + 1, hh, k, hk => by
    simp only [sentIdx] at hh
    split at hh
    · cases hh
    · rename_i hp
      by_cases e : k = i
      · subst e; exact hp
      · exact sentIdx_none hh k (by omega)
theorem tookB_iff {h : List Ev} {m p : Nat} : ∀ {i : Nat}, tookB h m p i = true ↔ ∃ j, j < i ∧ kd h j = 3 ∧ ms h j = m ∧ pr h j = p
  | 0 => by simp [tookB]
  | i + 1 => by
    simp only [tookB, Bool.or_eq_true, Bool.and_eq_true, decide_eq_true_eq, tookB_iff (i := i)]
    constructor
    · rintro (⟨⟨a, b⟩, c⟩ | ⟨j, a, b⟩)
      · exact ⟨i, by omega, a, b, c⟩
      · exact ⟨j, by omega, b⟩
    · rintro ⟨j, a, b, c, d⟩
      by_cases e : j = i
      · subst e; exact .inl ⟨⟨b, c⟩, d⟩
      · exact .inr ⟨j, by omega, b, c, d⟩

/-- what the checker knows before event i -/
structure CkOk (h : List Ev) (i : Nat) (c : CkD) : Prop where
  l1 : c.1.length = 30
  l2 : c.2.1.length = 30
  l3 : ∀ m, m < 30 → (c.2.1.getD m f6).length = 6
  s : ∀ m, m < 30 → c.1.getD m 0 = (match sentIdx h m i with | some j => (pr h j : Int) + 1 | none => 0)
  t : ∀ m p, m < 30 → p < 6 → (c.2.1.getD m f6).getD p false = tookB h m p i

/-- event i is as it should be -/
structure EvOk (h : List Ev) (i : Nat) : Prop where
  p : pr h i < 6
  m : ms h i < 30
  k : kd h i = 1 ∨ kd h i = 2 ∨ kd h i = 3
  loc : kd h i = 1 → ms h i = 0
  snd : kd h i = 2 → sentIdx h (ms h i) i = none
  rcv : kd h i = 3 → (∃ j, sentIdx h (ms h i) i = some j ∧ pr h j ≠ pr h i) ∧ tookB h (ms h i) (pr h i) i = false
  eq : h.getD i e0 = ((pr h i : Int), kd h i, (ms h i : Int), ())

theorem rep0 (n j : Nat) : (List.replicate n (0 : Int)).getD j 0 = 0 := by rw [List.getD_eq_getElem?_getD, List.getElem?_replicate]; split <;> rfl
theorem repF {α : Type} (n : Nat) (x : α) {j : Nat} (hj : j < n) (d : α) : (List.replicate n x).getD j d = x := by rw [List.getD_eq_getElem?_getD, List.getElem?_replicate, if_pos hj]; rfl

theorem ck_step {h : List Ev} {i : Nat} {c : CkD} (hc : CkOk h i c) (he : evErr c (h.getD i e0) = 0) : EvOk h i ∧ CkOk h (i + 1) (evSt c (h.getD i e0)) := by
  obtain ⟨⟨p0, p5⟩, ⟨m0, m5⟩, hk⟩ := evErr_rng he
  have hp : ((pr h i : Nat) : Int) = (h.getD i e0).1 := by simp only [pr]; omega
  have hm : ((ms h i : Nat) : Int) = (h.getD i e0).2.2.1 := by simp only [ms]; omega
  have hp6 : pr h i < 6 := by omega
  have hm30 : ms h i < 30 := by omega
  have heq : h.getD i e0 = ((pr h i : Int), kd h i, (ms h i : Int), ()) := by rw [hp, hm]; rfl
  have hin : inF (h.getD i e0).1 0 5 = true := inF_iff.2 ⟨p0, p5⟩
  have hin2 : inF (h.getD i e0).2.2.1 0 29 = true := inF_iff.2 ⟨m0, m5⟩
  have hS := hc.s (ms h i) hm30
  have hT := hc.t (ms h i) (pr h i) hm30 hp6
  have hkd : (h.getD i e0).2.1 = kd h i := rfl
  have hms : (h.getD i e0).2.2.1.toNat = ms h i := rfl
  have hpr : (h.getD i e0).1.toNat = pr h i := rfl
  have he' := he
  simp only [evErr, hin, hin2, Bool.true_eq_false, if_false, hkd, hms, hpr] at he'
  have hst : evSt c (h.getD i e0) = if kd h i = 2 then (c.1.set (ms h i) ((pr h i : Int) + 1), c.2) else if kd h i = 3 then (c.1, c.2.1.set (ms h i) ((c.2.1.getD (ms h i) f6).set (pr h i) true), ()) else c := by
    rw [evSt, if_neg (fun h => h he)]
    simp only [hkd, hms, hpr, hp]
  rw [hst]
  rcases hk with hk | hk | hk
  · have hk : kd h i = 1 := hk
    simp only [hk] at he' ⊢
    refine ⟨⟨hp6, hm30, .inl hk, fun _ => ?_, fun h2 => by rw [hk] at h2; omega, fun h2 => by rw [hk] at h2; omega, heq⟩, ?_⟩
    · by_cases e : (h.getD i e0).2.2.1 = 0
      · simp only [ms, e]; rfl
      · rw [if_pos e] at he'; simp at he'
    · rw [if_neg (by omega), if_neg (by omega)]
      exact ⟨hc.l1, hc.l2, hc.l3, fun m hm => by rw [hc.s m hm, sentIdx, if_neg (by rw [hk]; omega)], fun m p hm hp => by rw [hc.t m p hm hp, tookB, hk]; simp⟩
  · have hk : kd h i = 2 := hk
    simp only [hk] at he' ⊢
    have hnone : sentIdx h (ms h i) i = none := by
      cases hs : sentIdx h (ms h i) i with
      | none => rfl
      | some j => rw [hs] at hS; simp [-List.getD_eq_getElem?_getD] at he' hS; omega
    refine ⟨⟨hp6, hm30, .inr (.inl hk), fun h2 => by rw [hk] at h2; omega, fun _ => hnone, fun h2 => by rw [hk] at h2; omega, heq⟩, ?_⟩
    rw [if_pos trivial]
    refine ⟨by simp [hc.l1], hc.l2, hc.l3, fun m hm => ?_, fun m p hm hp => by rw [hc.t m p hm hp, tookB, hk]; simp⟩
    rw [getD_set (by rw [hc.l1]; exact hm30), sentIdx]
    by_cases e : m = ms h i
    · rw [if_pos e, if_pos ⟨hk, e.symm⟩]
    · rw [if_neg e, if_neg (fun h => e h.2.symm), hc.s m hm]
  · have hk : kd h i = 3 := hk
    simp only [hk] at he' ⊢
    simp only [show ¬ (3 : Int) = 1 by decide, show ¬ (3 : Int) = 2 by decide, if_false, if_true] at he'
    have hsome : ∃ j, sentIdx h (ms h i) i = some j ∧ pr h j ≠ pr h i := by
      cases hs : sentIdx h (ms h i) i with
      | none => rw [hs] at hS; simp only at hS; rw [if_pos hS] at he'; cases he'
      | some j =>
        refine ⟨j, rfl, fun e => ?_⟩
        rw [hs] at hS; simp only at hS
        rw [if_neg (by omega), if_pos (by rw [hS, ← hp, e])] at he'
        cases he'
    obtain ⟨j, hj, hne⟩ := hsome
    have htk : tookB h (ms h i) (pr h i) i = false := by
      cases ht : tookB h (ms h i) (pr h i) i with
      | false => rfl
      | true =>
        rw [ht] at hT; rw [hj] at hS; simp only at hS
        rw [if_neg (by omega), if_neg (by rw [hS, ← hp]; omega), if_pos hT] at he'
        cases he'
    refine ⟨⟨hp6, hm30, .inr (.inr hk), fun h2 => by rw [hk] at h2; omega, fun h2 => by rw [hk] at h2; omega, fun _ => ⟨⟨j, hj, hne⟩, htk⟩, heq⟩, ?_⟩
    rw [if_neg (by omega), if_pos trivial]
    refine ⟨hc.l1, by simp [hc.l2], fun m hm => ?_, fun m hm => by rw [hc.s m hm, sentIdx, if_neg (by rw [hk]; omega)], fun m p hm hp' => ?_⟩
    · show ((c.2.1.set _ _).getD m f6).length = 6
      rw [getD_set (by rw [hc.l2]; exact hm30)]
      split
      · rw [List.length_set]; exact hc.l3 (ms h i) hm30
      · exact hc.l3 m hm
    · show ((c.2.1.set _ _).getD m f6).getD p false = _
      rw [getD_set (by rw [hc.l2]; exact hm30), tookB, hk]
      by_cases e : m = ms h i
      · subst e
        rw [if_pos rfl, getD_set (by rw [hc.l3 _ hm30]; exact hp6)]
        by_cases e2 : p = pr h i
        · subst e2; simp
        · rw [if_neg e2, hc.t _ p hm30 hp']
          simp [show ¬ pr h i = p from fun h => e2 h.symm]
      · rw [if_neg e, hc.t m p hm hp']
        simp [show ¬ ms h i = m from fun h => e h.symm]

theorem ck_all {h : List Ev} : ∀ {n i : Nat} {c : CkD}, n + i = h.length → CkOk h i c → checkGo c (h.drop i) = 0 → ∀ k, i ≤ k → k < h.length → EvOk h k
  | 0, i, _, hn, _, _, k, h1, h2 => by omega
  | n + 1, i, c, hn, hc, hg, k, h1, h2 => by
    rw [drop_getD (show i < h.length by omega) e0, checkGo] at hg
    split at hg
    · rename_i hx; exact absurd hg hx
    · rename_i hx
      obtain ⟨a, b⟩ := ck_step hc (Decidable.of_not_not hx)
      by_cases e : k = i
      · subst e; exact a
      · exact ck_all (n := n) (i := i + 1) (by omega) b hg k (by omega) h2
/-- every event of a history that passes -/
theorem hist_ok {h : List Ev} (hh : scheck h = 0) {i : Nat} (hi : i < h.length) : EvOk h i := by
  refine ck_all (n := h.length) (i := 0) (c := ck0) rfl ⟨rfl, rfl, fun m hm => by rw [show ck0.2.1 = List.replicate 30 f6 from rfl, repF 30 f6 hm]; rfl, fun m hm => ?_, fun m p hm hp => ?_⟩ (scheck_ok hh).2 i (by omega) hi
  · show (List.replicate 30 (0 : Int)).getD m 0 = 0; exact rep0 _ _
  · show ((List.replicate 30 f6).getD m f6).getD p false = false
    rw [repF 30 f6 hm]
    match p, hp with
    | 0, _ | 1, _ | 2, _ | 3, _ | 4, _ | 5, _ => rfl

/-! the numbers -/
def valO (S : List Int) : Option Nat → Int
  | some j => S.getD j 0
  | none => 0
/-- the number of event i, from those before -/
def numOf (h : List Ev) (S : List Int) (i : Nat) : Int :=
  (if kd h i = 3 then (if valO S (lastIdx h (pr h i) i) < valO S (sentIdx h (ms h i) i) then valO S (sentIdx h (ms h i) i) else valO S (lastIdx h (pr h i) i)) else valO S (lastIdx h (pr h i) i)) + 1
theorem getD_drop' {α : Type} {l : List α} {i : Nat} {x : α} {r : List α} {d : α} (h : l.drop i = x :: r) : l.getD i d = x ∧ l.drop (i + 1) = r := by
  constructor
  · have := congrArg List.head? h
    rw [List.head?_drop] at this
    rw [List.getD_eq_getElem?_getD, this]; rfl
  · rw [← List.drop_drop, h]; rfl
theorem st_spec {h : List Ev} {S : List Int} (hok : ∀ k, k < h.length → EvOk h k) : ∀ {n i : Nat} {last sent : List Int}, n + i = h.length → last.length = 6 → sent.length = 30 → (∀ p, p < 6 → last.getD p 0 = valO S (lastIdx h p i)) → (∀ m, m < 30 → sent.getD m 0 = valO S (sentIdx h m i)) →
    S.drop i = stGo last sent (h.drop i) → ∀ k, i ≤ k → k < h.length → S.getD k 0 = numOf h S k
  | 0, i, _, _, hn, _, _, _, _, _, k, h1, h2 => by omega
  | n + 1, i, last, sent, hn, l1, l2, hl, hs, hS, k, h1, h2 => by
    rw [drop_getD (show i < h.length by omega) e0, stGo] at hS
    obtain ⟨g1, g2⟩ := getD_drop' (d := 0) hS
    have ho := hok i (by omega)
    have ht : tOf last sent (h.getD i e0) = numOf h S i := by
      have a := hl (pr h i) ho.p
      have b := hs (ms h i) ho.m
      show (if kd h i = 3 then (if last.getD (pr h i) 0 < sent.getD (ms h i) 0 then sent.getD (ms h i) 0 else last.getD (pr h i) 0) else last.getD (pr h i) 0) + 1 = _
      rw [a, b]; rfl
    by_cases e : k = i
    · subst e; rw [g1, ht]
    · refine st_spec hok (n := n) (i := i + 1) (by omega) (by simp [l1]) (by split <;> simp [l2]) (fun p hp => ?_) (fun m hm => ?_) g2 k (by omega) h2
      · show (last.set (pr h i) _).getD p 0 = _
        rw [getD_set (by rw [l1]; exact ho.p), lastIdx]
        by_cases e : p = pr h i
        · rw [if_pos e, if_pos e.symm, ← g1]; rfl
        · rw [if_neg e, if_neg (fun h => e h.symm), hl p hp]
      · show (if kd h i = 2 then sent.set (ms h i) _ else sent).getD m 0 = _
        rw [sentIdx]
        by_cases e : kd h i = 2
        · rw [if_pos e, getD_set (by rw [l2]; exact ho.m)]
          by_cases e2 : m = ms h i
          · rw [if_pos e2, if_pos ⟨e, e2.symm⟩, ← g1]; rfl
          · rw [if_neg e2, if_neg (fun h => e2 h.2.symm), hs m hm]
        · rw [if_neg e, if_neg (fun h => e h.1), hs m hm]
theorem stGo_len : ∀ {l : List Ev} {last sent : List Int}, (stGo last sent l).length = l.length
  | [], _, _ => rfl
  | e :: l, _, _ => by simp only [stGo, List.length_cons, stGo_len]
/-- the numbers of a history -/
theorem stamps_spec {h : List Ev} (hh : scheck h = 0) : (stamps h).1.length = h.length ∧ (stamps h).2.1 = 0 ∧ ∀ i, i < h.length → (stamps h).1.getD i 0 = numOf h (stamps h).1 i := by
  rw [stamps, if_neg (by simp [hh])]
  refine ⟨stGo_len, rfl, fun i hi => ?_⟩
  exact st_spec (fun k hk => hist_ok hh hk) (n := h.length) (i := 0) rfl rfl rfl (fun p hp => rep0 _ _) (fun m hm => rep0 _ _) rfl i (by omega) hi
theorem num_pos {h : List Ev} {S : List Int} (hS : ∀ i, i < h.length → S.getD i 0 = numOf h S i) : ∀ i, i < h.length → 1 ≤ S.getD i 0 := by
  intro i
  induction i using Nat.strongRecOn with
  | _ i ih =>
    intro hi
    rw [hS i hi]
    have hv : ∀ o : Option Nat, (∀ j, o = some j → j < i) → 0 ≤ valO S o := by
      rintro (_ | j) hj
      · exact Int.le_refl _
      · have := ih j (hj j rfl) (by have := hj j rfl; omega)
        show 0 ≤ S.getD j 0
        omega
    have a := hv (lastIdx h (pr h i) i) (fun j hj => (lastIdx_some hj).1)
    have b := hv (sentIdx h (ms h i) i) (fun j hj => (sentIdx_some hj).1)
    unfold numOf
    repeat' split
    all_goals omega
end Go.Proofs.Ytcafiieffenohaa
