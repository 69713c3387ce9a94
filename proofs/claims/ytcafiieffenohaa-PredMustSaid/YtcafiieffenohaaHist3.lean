/- Histories: what the vectors say. -/
import Derived.Test.YtcafiieffenohaaHist2
namespace Go.Proofs.Ytcafiieffenohaa
open Go.Ex

theorem hb_lt {h : List Ev} : ∀ {b a : Nat}, hb h b a = true → a < b := by
  intro b
  induction b using Nat.strongRecOn with
  | _ b ih =>
    intro a he
    obtain ⟨c, c1, c2, c3⟩ := hb_iff.1 he
    rcases c3 with rfl | c3
    · exact c1
    · have := ih c c1 c3; omega
theorem hb_trans {h : List Ev} {a j : Nat} : ∀ {c : Nat}, hb h c a = true → hb h a j = true → hb h c j = true := by
  intro c
  induction c using Nat.strongRecOn with
  | _ c ih =>
    intro h1 h2
    obtain ⟨d, d1, d2, d3⟩ := hb_iff.1 h1
    refine hb_iff.2 ⟨d, d1, d2, .inr ?_⟩
    rcases d3 with rfl | d3
    · exact h2
    · exact ih d d1 d3 h2

/-- how many events of p stand before i -/
def cnt (h : List Ev) (p : Nat) : Nat → Nat
  | 0 => 0
  | i + 1 => cnt h p i + (if pr h i = p then 1 else 0)
theorem cnt_mono {h : List Ev} {p a : Nat} : ∀ {b : Nat}, a ≤ b → cnt h p a ≤ cnt h p b
  | 0, hab => by rw [show a = 0 by omega]; exact Nat.le_refl _
  | b + 1, hab => by
    by_cases e : a = b + 1
    · rw [e]; exact Nat.le_refl _
    · have := cnt_mono (h := h) (p := p) (a := a) (b := b) (by omega)
      simp only [cnt]; omega
theorem cnt_lt {h : List Ev} {a b : Nat} (hab : a < b) : cnt h (pr h a) a + 1 ≤ cnt h (pr h a) b := by
  have := cnt_mono (h := h) (p := pr h a) (a := a + 1) (b := b) hab
  simp only [cnt, if_true] at this
  omega
theorem cnt_last {h : List Ev} {p : Nat} : ∀ {i : Nat}, (match lastIdx h p i with | some j => cnt h p j + 1 | none => 0) = cnt h p i
  | 0 => rfl
  | i + 1 => by
    by_cases e : pr h i = p
    · simp only [lastIdx, cnt, if_pos e]
    · simp only [lastIdx, cnt, if_neg e]; exact cnt_last
def valV (V : List (List Int)) : Option Nat → List Int
  | some j => V.getD j v0
  | none => v0
def vecOf (h : List Ev) (V : List (List Int)) (i : Nat) : List Int :=
  (if kd h i = 3 then vmax (valV V (lastIdx h (pr h i) i)) (valV V (sentIdx h (ms h i) i)) else valV V (lastIdx h (pr h i) i)).set (pr h i) ((cnt h (pr h i) i : Int) + 1)
theorem v_spec {h : List Ev} {V : List (List Int)} (hok : ∀ k, k < h.length → EvOk h k) : ∀ {n i : Nat} {last : List Int} {now sent : List (List Int)}, n + i = h.length → last.length = 6 → now.length = 6 → sent.length = 30 → (∀ p, p < 6 → last.getD p 0 = (cnt h p i : Int)) →
    (∀ p, p < 6 → now.getD p v0 = valV V (lastIdx h p i)) → (∀ m, m < 30 → sent.getD m v0 = valV V (sentIdx h m i)) → V.drop i = vGo last now sent (h.drop i) → ∀ k, i ≤ k → k < h.length → V.getD k v0 = vecOf h V k
  | 0, i, _, _, _, hn, _, _, _, _, _, _, _, k, h1, h2 => by omega
  | n + 1, i, last, now, sent, hn, l1, l2, l3, hl, hw, hs, hV, k, h1, h2 => by
    rw [drop_getD (show i < h.length by omega) e0, vGo] at hV
    obtain ⟨g1, g2⟩ := getD_drop' (d := v0) hV
    have ho := hok i (by omega)
    have ht : vOf last now sent (h.getD i e0) = vecOf h V i := by
      have a := hl (pr h i) ho.p
      have b := hw (pr h i) ho.p
      have c := hs (ms h i) ho.m
      show (if kd h i = 3 then vmax (now.getD (pr h i) v0) (sent.getD (ms h i) v0) else now.getD (pr h i) v0).set (pr h i) (last.getD (pr h i) 0 + 1) = _
      rw [a, b, c]; rfl
    by_cases e : k = i
    · subst e; rw [g1, ht]
    · refine v_spec hok (n := n) (i := i + 1) (by omega) (by simp [l1]) (by simp [l2]) (by split <;> simp [l3]) (fun p hp => ?_) (fun p hp => ?_) (fun m hm => ?_) g2 k (by omega) h2
      · show (last.set (pr h i) (last.getD (pr h i) 0 + 1)).getD p 0 = _
        rw [getD_set (by rw [l1]; exact ho.p), cnt]
        by_cases e : p = pr h i
        · rw [if_pos e, if_pos e.symm, hl _ ho.p, e]; omega
        · rw [if_neg e, if_neg (fun h => e h.symm), hl p hp]; omega
      · show (now.set (pr h i) _).getD p v0 = _
        rw [getD_set (by rw [l2]; exact ho.p), lastIdx]
        by_cases e : p = pr h i
        · rw [if_pos e, if_pos e.symm, ← g1]; rfl
        · rw [if_neg e, if_neg (fun h => e h.symm), hw p hp]
      · show (if kd h i = 2 then sent.set (ms h i) _ else sent).getD m v0 = _
        rw [sentIdx]
        by_cases e : kd h i = 2
        · rw [if_pos e, getD_set (by rw [l3]; exact ho.m)]
          by_cases e2 : m = ms h i
          · rw [if_pos e2, if_pos ⟨e, e2.symm⟩, ← g1]; rfl
          · rw [if_neg e2, if_neg (fun h => e2 h.2.symm), hs m hm]
        · rw [if_neg e, if_neg (fun h => e h.1), hs m hm]
theorem vGo_len : ∀ {l : List Ev} {last : List Int} {now sent : List (List Int)}, (vGo last now sent l).length = l.length
  | [], _, _, _ => rfl
  | e :: l, _, _, _ => by simp only [vGo, List.length_cons, vGo_len]
theorem vectors_spec {h : List Ev} (hh : scheck h = 0) : (vectors h).1.length = h.length ∧ (vectors h).2.1 = 0 ∧ ∀ i, i < h.length → (vectors h).1.getD i v0 = vecOf h (vectors h).1 i := by
  rw [vectors, if_neg (by simp [hh])]
  refine ⟨vGo_len, rfl, fun i hi => ?_⟩
  refine v_spec (fun k hk => hist_ok hh hk) (n := h.length) (i := 0) rfl rfl rfl rfl (fun p hp => rep0 _ _) (fun p hp => repF 6 v0 hp v0) (fun m hm => repF 30 v0 hm v0) rfl i (by omega) hi
theorem vectors_err {h : List Ev} : (vectors h).2.1 = scheck h := by
  by_cases hh : scheck h = 0
  · rw [(vectors_spec hh).2.1, hh]
  · rw [vectors, if_pos hh]
theorem vectors_bad {h : List Ev} (hh : scheck h ≠ 0) : vectors h = ([], scheck h, ()) := by rw [vectors, if_pos hh]

theorem vmax_at {a b : List Int} {p : Nat} (hp : p < 6) : (vmax a b).getD p 0 = maxI (a.getD p 0) (b.getD p 0) := getD_map_range _ _ hp
theorem vmax_len {a b : List Int} : (vmax a b).length = 6 := by simp [vmax]
theorem v0_at {p : Nat} : v0.getD p 0 = 0 := by
  match p with
  | 0 | 1 | 2 | 3 | 4 | 5 => rfl
  | n + 6 => rfl
theorem maxI_le {a b : Int} : a ≤ maxI a b ∧ b ≤ maxI a b ∧ (maxI a b = a ∨ maxI a b = b) := by unfold maxI; split <;> omega
theorem ext6 {a b : List Int} (ha : a.length = 6) (hb : b.length = 6) (h : ∀ p, p < 6 → a.getD p 0 = b.getD p 0) : a = b := eq_of_getD (by omega) (fun i hi => h i (by omega))
theorem within_iff {a b : List Int} (hb : b.length = 6) : within a b = true ↔ ∀ p, p < 6 → a.getD p 0 ≤ b.getD p 0 := by
  rw [within, decide_eq_true_eq]
  constructor
  · intro h p hp
    have := vmax_at (a := a) (b := b) hp
    rw [h] at this
    have := (maxI_le (a := a.getD p 0) (b := b.getD p 0)).1
    omega
  · intro h
    refine ext6 vmax_len hb (fun p hp => ?_)
    rw [vmax_at hp]
    have := h p hp
    unfold maxI; split <;> omega

section
variable {h : List Ev} (hh : scheck h = 0)
include hh

theorem vec_len {i : Nat} (hi : i < h.length) : ((vectors h).1.getD i v0).length = 6 := by
  induction i using Nat.strongRecOn with
  | _ i ih =>
    have hv : ∀ o : Option Nat, (∀ j, o = some j → j < i) → (valV (vectors h).1 o).length = 6 := by
      rintro (_ | j) hj
      · rfl
      · exact ih j (hj j rfl) (by have := hj j rfl; omega)
    rw [(vectors_spec hh).2.2 i hi, vecOf, List.length_set]
    split
    · exact vmax_len
    · exact hv _ (fun j hj => (lastIdx_some hj).1)
/-- the vector of i at p, p another process than its own -/
def baseV (h : List Ev) (V : List (List Int)) (i p : Nat) : Int := if kd h i = 3 then maxI ((valV V (lastIdx h (pr h i) i)).getD p 0) ((valV V (sentIdx h (ms h i) i)).getD p 0) else (valV V (lastIdx h (pr h i) i)).getD p 0
theorem vec_at {i p : Nat} (hi : i < h.length) (hp : p < 6) : ((vectors h).1.getD i v0).getD p 0 = if p = pr h i then (cnt h (pr h i) i : Int) + 1 else baseV h (vectors h).1 i p := by
  have hl : ∀ o : Option Nat, (∀ j, o = some j → j < i) → (valV (vectors h).1 o).length = 6 := by
    rintro (_ | j) hj
    · rfl
    · exact vec_len hh (by have := hj j rfl; omega)
  rw [(vectors_spec hh).2.2 i hi, vecOf, getD_set]
  · split
    · rfl
    · rw [baseV]; split
      · exact vmax_at hp
      · rfl
  · split
    · rw [vmax_len]; exact (hist_ok hh hi).p
    · rw [hl _ (fun j hj => (lastIdx_some hj).1)]; exact (hist_ok hh hi).p

theorem vec_reach {i p : Nat} (hi : i < h.length) (hp : p < 6) : 0 ≤ ((vectors h).1.getD i v0).getD p 0 ∧ (((vectors h).1.getD i v0).getD p 0 = 0 ∨ ∃ j, j ≤ i ∧ pr h j = p ∧ ((vectors h).1.getD i v0).getD p 0 = (cnt h p j : Int) + 1) := by
  induction i using Nat.strongRecOn with
  | _ i ih =>
    rw [vec_at hh hi hp]
    by_cases e : p = pr h i
    · rw [if_pos e]; exact ⟨by omega, .inr ⟨i, Nat.le_refl _, e.symm, by rw [e]⟩⟩
    · rw [if_neg e]
      have hv : ∀ o : Option Nat, (∀ j, o = some j → j < i) → 0 ≤ (valV (vectors h).1 o).getD p 0 ∧ ((valV (vectors h).1 o).getD p 0 = 0 ∨ ∃ j, j ≤ i ∧ pr h j = p ∧ (valV (vectors h).1 o).getD p 0 = (cnt h p j : Int) + 1) := by
        rintro (_ | j) hj
        · rw [show valV (vectors h).1 none = v0 from rfl, v0_at]; exact ⟨Int.le_refl _, .inl rfl⟩
        · have hj := hj j rfl
          obtain ⟨a, b⟩ := ih j hj (by omega)
          refine ⟨a, b.imp id ?_⟩
          rintro ⟨k, k1, k2⟩; exact ⟨k, by omega, k2⟩
      have a := hv (lastIdx h (pr h i) i) (fun j hj => (lastIdx_some hj).1)
      have b := hv (sentIdx h (ms h i) i) (fun j hj => (sentIdx_some hj).1)
      unfold baseV
      split
      · rcases (maxI_le (a := (valV (vectors h).1 (lastIdx h (pr h i) i)).getD p 0) (b := (valV (vectors h).1 (sentIdx h (ms h i) i)).getD p 0)).2.2 with e2 | e2
        · rw [e2]; exact a
        · rw [e2]; exact b
      · exact a

/-- FIDGE, MATTERN: what a vector has of an event's own process tells whether that event is ahead -/
theorem vec_tells {i j : Nat} (hi : i < h.length) (hj : j < h.length) : (j = i ∨ hb h i j = true) ↔ (cnt h (pr h j) j : Int) + 1 ≤ ((vectors h).1.getD i v0).getD (pr h j) 0 := by
  induction i using Nat.strongRecOn with
  | _ i ih =>
    have hp6 := (hist_ok hh hj).p
    rw [vec_at hh hi hp6]
    by_cases e : pr h j = pr h i
    · rw [if_pos e, ← e]
      constructor
      · rintro (rfl | h1)
        · exact Int.le_refl _
        · have := cnt_lt (h := h) (hb_lt h1); omega
      · intro hc
        by_cases hlt : j < i
        · exact .inr (hb_iff.2 ⟨j, hlt, (edge_iff (hist_ok hh hj) (hist_ok hh hi)).2 (.inl e), .inl rfl⟩)
        · by_cases e2 : j = i
          · exact .inl e2
          · have := cnt_lt (h := h) (a := i) (b := j) (by omega)
            rw [← e] at this; omega
    · rw [if_neg e]
      have hne : j ≠ i := by rintro rfl; exact e rfl
      have hprev : ∀ k, lastIdx h (pr h i) i = some k → k < i ∧ pr h k = pr h i ∧ ((hb h k j = true) ↔ (cnt h (pr h j) j : Int) + 1 ≤ ((vectors h).1.getD k v0).getD (pr h j) 0) := by
        intro k hk
        obtain ⟨k1, k2, _⟩ := lastIdx_some hk
        refine ⟨k1, k2, ?_⟩
        rw [← ih k k1 (by omega)]
        refine ⟨.inr, fun h => h.resolve_left ?_⟩
        rintro rfl; exact e k2
      have hsrc : ∀ k, sentIdx h (ms h i) i = some k → k < i ∧ kd h k = 2 ∧ ms h k = ms h i ∧ ((j = k ∨ hb h k j = true) ↔ (cnt h (pr h j) j : Int) + 1 ≤ ((vectors h).1.getD k v0).getD (pr h j) 0) := by
        intro k hk
        obtain ⟨k1, k2, k3, _⟩ := sentIdx_some hk
        exact ⟨k1, k2, k3, ih k k1 (by omega)⟩
      have hz : ∀ p, (valV (vectors h).1 none).getD p 0 = 0 := fun p => v0_at
      constructor
      · rintro (h1 | h1)
        · exact absurd h1 hne
        · obtain ⟨c, c1, c2, c3⟩ := hb_iff.1 h1
          rcases (edge_iff (hist_ok hh (by omega)) (hist_ok hh hi)).1 c2 with e1 | ⟨e1, e2, e3⟩
          · -- by way of the process itself
            obtain ⟨k, hk, hck⟩ := last_le c1 e1
            obtain ⟨k1, k2, k3⟩ := hprev k hk
            have hcj : hb h c j = true := c3.resolve_left (by rintro rfl; exact e e1)
            have hkj : hb h k j = true := by
              by_cases ec : c = k
              · rw [← ec]; exact hcj
              · exact hb_iff.2 ⟨c, by omega, (edge_iff (hist_ok hh (by omega)) (hist_ok hh (by omega))).2 (.inl (by rw [e1, k2])), .inr hcj⟩
            have := k3.1 hkj
            rw [baseV, hk]
            show _ ≤ if kd h i = 3 then maxI (((vectors h).1.getD k v0).getD (pr h j) 0) _ else ((vectors h).1.getD k v0).getD (pr h j) 0
            split
            · have := (maxI_le (a := ((vectors h).1.getD k v0).getD (pr h j) 0) (b := (valV (vectors h).1 (sentIdx h (ms h i) i)).getD (pr h j) 0)).1
              omega
            · exact this
          · have hs := sent_one (fun k hk => hist_ok hh hk) c1 (by omega) e1 e3
            obtain ⟨_, _, _, k3⟩ := hsrc c hs
            have := k3.1 c3
            rw [baseV, if_pos e2, hs]
            have := (maxI_le (a := (valV (vectors h).1 (lastIdx h (pr h i) i)).getD (pr h j) 0) (b := ((vectors h).1.getD c v0).getD (pr h j) 0)).2.1
            show _ ≤ maxI _ (((vectors h).1.getD c v0).getD (pr h j) 0)
            omega
      · intro hc
        right
        have viaP : (cnt h (pr h j) j : Int) + 1 ≤ (valV (vectors h).1 (lastIdx h (pr h i) i)).getD (pr h j) 0 → hb h i j = true := by
          intro hv
          cases hk : lastIdx h (pr h i) i with
          | none => rw [hk, hz] at hv; omega
          | some k =>
            rw [hk] at hv
            obtain ⟨k1, k2, k3⟩ := hprev k hk
            exact hb_iff.2 ⟨k, k1, (edge_iff (hist_ok hh (by omega)) (hist_ok hh hi)).2 (.inl k2), .inr (k3.2 hv)⟩
        have viaS : kd h i = 3 → (cnt h (pr h j) j : Int) + 1 ≤ (valV (vectors h).1 (sentIdx h (ms h i) i)).getD (pr h j) 0 → hb h i j = true := by
          intro hk3 hv
          cases hk : sentIdx h (ms h i) i with
          | none => rw [hk, hz] at hv; omega
          | some k =>
            rw [hk] at hv
            obtain ⟨k1, k2, k3, k4⟩ := hsrc k hk
            exact hb_iff.2 ⟨k, k1, (edge_iff (hist_ok hh (by omega)) (hist_ok hh hi)).2 (.inr ⟨k2, hk3, k3⟩), k4.2 hv⟩
        unfold baseV at hc
        split at hc
        · rename_i hk3
          rcases (maxI_le (a := (valV (vectors h).1 (lastIdx h (pr h i) i)).getD (pr h j) 0) (b := (valV (vectors h).1 (sentIdx h (ms h i) i)).getD (pr h j) 0)).2.2 with e2 | e2
          · rw [e2] at hc; exact viaP hc
          · rw [e2] at hc; exact viaS hk3 hc
        · exact viaP hc

theorem vec_own {i : Nat} (hi : i < h.length) : ((vectors h).1.getD i v0).getD (pr h i) 0 = (cnt h (pr h i) i : Int) + 1 := by
  rw [vec_at hh hi (hist_ok hh hi).p, if_pos rfl]
theorem vec_le {i k : Nat} (hi : i < h.length) (hk : k < h.length) : (∀ p, p < 6 → ((vectors h).1.getD i v0).getD p 0 ≤ ((vectors h).1.getD k v0).getD p 0) ↔ (i = k ∨ hb h k i = true) := by
  constructor
  · intro hl
    have := hl (pr h i) (hist_ok hh hi).p
    rw [vec_own hh hi] at this
    exact (vec_tells hh hk hi).2 this
  · intro hki p hp
    obtain ⟨h0, h1 | ⟨j, j1, j2, j3⟩⟩ := vec_reach hh hi hp
    · have := (vec_reach hh hk hp).1; omega
    · subst j2
      rw [j3]
      have hji := (vec_tells hh hi (show j < h.length by omega)).2 (by rw [j3]; exact Int.le_refl _)
      refine (vec_tells hh hk (show j < h.length by omega)).1 ?_
      rcases hki with rfl | hki
      · exact hji
      · rcases hji with rfl | hji
        · exact .inr hki
        · exact .inr (hb_trans hki hji)
theorem compare_tells {i k : Nat} (hi : i < h.length) (hk : k < h.length) : (compareV ((vectors h).1.getD i v0) ((vectors h).1.getD k v0) = 1 ↔ hb h k i = true) ∧ (compareV ((vectors h).1.getD i v0) ((vectors h).1.getD k v0) = 0 → i = k) := by
  have hw : ∀ {a b : Nat}, a < h.length → b < h.length → (within ((vectors h).1.getD a v0) ((vectors h).1.getD b v0) = true ↔ (a = b ∨ hb h b a = true)) := fun ha hb' => by
    rw [within_iff (vec_len hh hb'), vec_le hh ha hb']
  have hq : (vectors h).1.getD i v0 = (vectors h).1.getD k v0 → i = k := by
    intro he
    have h1 := (hw hi hk).1 (by rw [he]; exact (hw hk hk).2 (.inl rfl))
    have h2 := (hw hk hi).1 (by rw [← he]; exact (hw hi hi).2 (.inl rfl))
    rcases h1 with h1 | h1
    · exact h1
    · rcases h2 with h2 | h2
      · exact h2.symm
      · have := hb_lt h1; have := hb_lt h2; omega
  constructor
  · unfold compareV
    by_cases he : (vectors h).1.getD i v0 = (vectors h).1.getD k v0
    · rw [if_pos he]
      have := hq he
      subst this
      constructor
      · intro h; cases h
      · intro h; have := hb_lt h; omega
    · rw [if_neg he]
      have hik : i ≠ k := by rintro rfl; exact he rfl
      by_cases hwi : within ((vectors h).1.getD i v0) ((vectors h).1.getD k v0) = true
      · rw [if_pos hwi]
        exact ⟨fun _ => ((hw hi hk).1 hwi).resolve_left hik, fun _ => rfl⟩
      · rw [if_neg hwi]
        constructor
        · intro h; split at h <;> cases h
        · intro h; exact absurd ((hw hi hk).2 (.inr h)) hwi
  · intro hc
    unfold compareV at hc
    split at hc
    · rename_i he; exact hq he
    · repeat' split at hc
      all_goals cases hc
end
end Go.Proofs.Ytcafiieffenohaa
