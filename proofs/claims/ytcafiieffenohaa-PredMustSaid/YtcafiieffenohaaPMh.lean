/- What is reached without its being so, in plain words. -/
import Derived.Test.YtcafiieffenohaaPMst
namespace Go.Proofs.Ytcafiieffenohaa
open Go.Ex
set_option maxRecDepth 100000
inductive Rch (h : List Ev) (t : TrD) : List Int → Prop
  | zero : holdsB t v0 = false → Rch h t v0
  | step {b : List Int} {p : Nat} : Rch h t b → p < 6 → CutOf h (b.set p (b.getD p 0 + 1)) → OkC h (b.set p (b.getD p 0 + 1)) → holdsB t (b.set p (b.getD p 0 + 1)) = false → Rch h t (b.set p (b.getD p 0 + 1))
theorem Hv_mono {m c d : List Int} (hm : ∀ p, p < 6 → 0 ≤ m.getD p 0) : ∀ {n : Nat}, n ≤ 6 → (∀ j, j < n → c.getD j 0 ≤ d.getD j 0) → Hv m c n ≤ Hv m d n
  | 0, _, _ => Int.le_refl _
  | n + 1, hn, h => by
    have h1 := Hv_mono hm (n := n) (by omega) (fun j hj => h j (by omega))
    have h2 := h n (by omega)
    have h3 := hm n (by omega)
    have h4 : Hv m c n * (m.getD n 0 + 1) ≤ Hv m d n * (m.getD n 0 + 1) := Int.mul_le_mul_of_nonneg_right h1 (by omega)
    rw [Hv, Hv]; omega
theorem Hv_lt {m c d : List Int} (hm : ∀ p, p < 6 → 0 ≤ m.getD p 0) {p : Nat} : ∀ {n : Nat}, n ≤ 6 → (∀ j, j < n → c.getD j 0 ≤ d.getD j 0) → p < n → c.getD p 0 < d.getD p 0 → Hv m c n < Hv m d n
  | 0, _, _, h, _ => by omega
  | n + 1, hn, h, hp, hlt => by
    have h2 := h n (by omega)
    have h3 := hm n (by omega)
    rw [Hv, Hv]
    by_cases e : p = n
    · subst e
      have h1 := Hv_mono hm (n := p) (by omega) (fun j hj => h j (by omega))
      have h4 : Hv m c p * (m.getD p 0 + 1) ≤ Hv m d p * (m.getD p 0 + 1) := Int.mul_le_mul_of_nonneg_right h1 (by omega)
      omega
    · have h1 := Hv_lt hm (n := n) (by omega) (fun j hj => h j (by omega)) (by omega) hlt
      have h4 : (Hv m c n + 1) * (m.getD n 0 + 1) ≤ Hv m d n * (m.getD n 0 + 1) := Int.mul_le_mul_of_nonneg_right (by omega) (by omega)
      rw [Int.add_mul] at h4
      omega
theorem up_at {b : List Int} (hl : b.length = 6) {p q : Nat} (hp : p < 6) : (b.set p (b.getD p 0 + 1)).getD q 0 = if q = p then b.getD p 0 + 1 else b.getD q 0 := getD_set (by omega)
theorem up_le {b : List Int} (hl : b.length = 6) {p : Nat} (hp : p < 6) : Le6 b (b.set p (b.getD p 0 + 1)) := by
  intro q hq
  rw [up_at hl hp]; split
  · rename_i e; subst e; omega
  · exact Int.le_refl _
theorem up_down {b : List Int} (hl : b.length = 6) {p : Nat} (hp : p < 6) : (b.set p (b.getD p 0 + 1)).set p ((b.set p (b.getD p 0 + 1)).getD p 0 - 1) = b := by
  rw [up_at hl hp, if_pos rfl]
  refine ext6 (by simp [hl]) hl (fun q hq => ?_)
  rw [getD_set (by simp [hl]; omega), up_at hl hp]
  split
  · rename_i e; subst e; omega
  · rfl
theorem down_up {b : List Int} (hl : b.length = 6) {p : Nat} (hp : p < 6) : (b.set p (b.getD p 0 - 1)).set p ((b.set p (b.getD p 0 - 1)).getD p 0 + 1) = b := by
  have e0 : ∀ q, (b.set p (b.getD p 0 - 1)).getD q 0 = if q = p then b.getD p 0 - 1 else b.getD q 0 := fun q => getD_set (by omega)
  rw [e0, if_pos rfl]
  refine ext6 (by simp [hl]) hl (fun q hq => ?_)
  rw [getD_set (by simp [hl]; omega), e0]
  split
  · rename_i e; subst e; omega
  · rfl
theorem preB_iff {R : List (List Int)} {c : List Int} : ∀ {n : Nat}, preB R c n = true ↔ ∃ p, p < n ∧ c.set p (c.getD p 0 - 1) ∈ R
  | 0 => by simp [preB]
  | n + 1 => by
    rw [preB, Bool.or_eq_true, preB_iff (n := n), decide_eq_true_eq]
    constructor
    · rintro (⟨p, h1, h2⟩ | h1)
      · exact ⟨p, by omega, h2⟩
      · exact ⟨n, by omega, h1⟩
    · rintro ⟨p, h1, h2⟩
      by_cases e : p = n
      · subst e; exact .inr h2
      · exact .inl ⟨p, by omega, h2⟩
section
variable {h : List Ev} (hh : scheck h = 0) {t : TrD}
include hh
theorem rch_ok {c : List Int} (hc : Rch h t c) : CutOf h c ∧ OkC h c ∧ holdsB t c = false := by
  cases hc with
  | zero h1 => exact ⟨CutOf.zero hh, okC_zero hh, h1⟩
  | step _ _ h1 h2 h3 => exact ⟨h1, h2, h3⟩
theorem rch_zero {c : List Int} (hc : Rch h t c) : holdsB t v0 = false := by
  have _ := hh
  induction hc with
  | zero h1 => exact h1
  | step _ _ _ _ _ ih => exact ih
theorem mAll_to : ∀ {k : Nat}, k ≤ (room h).toNat → ∀ x, x ∈ mAll t (allTo h k) ↔ Rch h t x ∧ Hv (cntV h h.length) x 6 < k
  | 0, _, x => by
    refine ⟨fun h1 => ?_, fun h1 => ?_⟩
    · simp [allTo, mAll] at h1
    · have := (Hv_rng (box_cut.2 (rch_ok hh h1.1).1) (Nat.le_refl 6)).1
      omega
  | k + 1, hk, x => by
    have ih := mAll_to (k := k) (by omega)
    have hr := room_pos hh
    obtain ⟨bx, hv⟩ := odoN_spec (cntV_nn (h := h) (n := h.length)) (k := k) (by unfold room at *; omega)
    have hc := box_cut.1 bx
    have heq : ∀ {y}, Rch h t y → Hv (cntV h h.length) y 6 = k → y = odoN (cntV h h.length) k := fun hy h1 => box_ext (box_cut.2 (rch_ok hh hy).1) bx (by rw [h1, hv])
    rw [allTo_succ]
    generalize odoN (cntV h h.length) k = c at *
    have small : (Rch h t x ∧ Hv (cntV h h.length) x 6 < ((k + 1 : Nat) : Int)) ↔ (Rch h t x ∧ Hv (cntV h h.length) x 6 < k) ∨ (Rch h t c ∧ x = c) := by
      constructor
      · rintro ⟨h1, h2⟩
        by_cases e : Hv (cntV h h.length) x 6 = k
        · have := heq h1 e; subst this; exact .inr ⟨h1, rfl⟩
        · exact .inl ⟨h1, by omega⟩
      · rintro (⟨h1, h2⟩ | ⟨h1, rfl⟩)
        · exact ⟨h1, by omega⟩
        · exact ⟨h1, by omega⟩
    rw [small]
    by_cases ho : okB h c = true
    · have oc := (okB_iff hh hc).1 ho
      rw [if_pos ho, mAll, List.foldl_append]
      show x ∈ mStep t (mAll t (allTo h k)) c ↔ _
      rw [mStep]
      cases hb : holdsB t c with
      | true =>
        rw [if_pos rfl, ih x]
        exact ⟨.inl, fun h1 => h1.resolve_right (fun h2 => by have := (rch_ok hh h2.1).2.2; rw [hb] at this; cases this)⟩
      | false =>
        rw [if_neg (by simp)]
        have add : Rch h t c → (x ∈ mAll t (allTo h k) ++ [c] ↔ (Rch h t x ∧ Hv (cntV h h.length) x 6 < k) ∨ (Rch h t c ∧ x = c)) := fun hrc => by
          rw [List.mem_append, ih x, List.mem_singleton]
          exact or_congr Iff.rfl ⟨fun h1 => ⟨hrc, h1⟩, fun h1 => h1.2⟩
        by_cases hz : c = v0
        · rw [if_pos hz]
          refine add ?_
          rw [hz]; rw [hz] at hb; exact Rch.zero hb
        · rw [if_neg hz]
          cases hp : preB (mAll t (allTo h k)) c 6 with
          | true =>
            rw [if_pos rfl]
            obtain ⟨p, p1, p2⟩ := preB_iff.1 hp
            have h1 := ((ih _).1 p2).1
            have e := down_up hc.len p1
            have := Rch.step h1 p1 (by rw [e]; exact hc) (by rw [e]; exact oc) (by rw [e]; exact hb)
            rw [e] at this
            exact add this
          | false =>
            rw [if_neg (by simp), ih x]
            refine ⟨.inl, fun h1 => h1.resolve_right (fun h2 => ?_)⟩
            have hrc := h2.1
            cases hrc with
            | zero _ => exact hz rfl
            | @step b p b1 b2 b3 b4 b5 =>
              have hbl := (rch_ok hh b1).1.len
              have hlt := Hv_lt (m := cntV h h.length) (c := b) (d := b.set p (b.getD p 0 + 1)) cntV_nn (p := p) (Nat.le_refl 6) (fun j hj => up_le hbl b2 j hj) b2 (by rw [up_at hbl b2, if_pos rfl]; omega)
              have : preB (mAll t (allTo h k)) (b.set p (b.getD p 0 + 1)) 6 = true := preB_iff.2 ⟨p, b2, by rw [up_down hbl b2]; exact (ih b).2 ⟨b1, by omega⟩⟩
              rw [hp] at this; cases this
    · rw [if_neg ho, ih x]
      exact ⟨.inl, fun h1 => h1.resolve_right (fun h2 => ho ((okB_iff hh hc).2 (rch_ok hh h2.1).2.1))⟩
theorem must_ok (hf : fitB h t = true) : (4096 < room h ∧ mustR h t = (false, 2, ())) ∨ (¬ 4096 < room h ∧ ((Rch h t (cntV h h.length) ∧ mustR h t = (false, 0, ())) ∨ (¬ Rch h t (cntV h h.length) ∧ mustR h t = (true, 0, ())))) := by
  have hp := pErr_fit hh hf
  by_cases hr : 4096 < room h
  · exact .inl ⟨hr, by rw [mustR, if_neg (by simp [hp]), if_pos hr]⟩
  · have hpos := room_pos hh
    have hv := (Hv_rng (box_cut.2 (CutOf.full hh)) (Nat.le_refl 6)).2
    have e : mustR h t = (!decide (cntV h h.length ∈ mAll t (allL h)), 0, ()) := by rw [mustR, if_neg (by simp [hp]), if_neg hr]
    have key : cntV h h.length ∈ mAll t (allL h) ↔ Rch h t (cntV h h.length) := by
      rw [allL, mAll_to hh (Nat.le_refl _)]
      refine ⟨fun h1 => h1.1, fun h1 => ⟨h1, ?_⟩⟩
      unfold room at *; omega
    refine .inr ⟨hr, ?_⟩
    by_cases hR : Rch h t (cntV h h.length)
    · exact .inl ⟨hR, by rw [e, decide_eq_true (key.2 hR)]; rfl⟩
    · exact .inr ⟨hR, by rw [e, decide_eq_false (fun h1 => hR (key.1 h1))]; rfl⟩
/-- if it is so nowhere, all is reached -/
theorem rch_full (hn : ∀ d, ¬ Good h t d) : Rch h t (cntV h h.length) := by
  have hb : ∀ c, CutOf h c → OkC h c → holdsB t c = false := fun c h1 h2 => by
    cases hc : holdsB t c with
    | false => rfl
    | true => exact absurd ⟨h1, h2, hc⟩ (hn c)
  have key : ∀ n : Nat, ∀ c, Rch h t c → gap h c 6 = n → Rch h t (cntV h h.length) := by
    intro n
    induction n using Nat.strongRecOn with
    | _ n ih =>
      intro c hc hg
      obtain ⟨c1, c2, -⟩ := rch_ok hh hc
      by_cases e : c = cntV h h.length
      · rw [← e]; exact hc
      · obtain ⟨p, p1, p2, p3⟩ := ok_next hh c1 c2 e
        have hlt := gap_lt c1 p2 (up_le c1.len p1) (p := p) (Nat.le_refl 6) p1 (by rw [up_at c1.len p1, if_pos rfl]; omega)
        exact ih _ (by omega) _ (Rch.step hc p1 p2 p3 (hb _ p2 p3)) rfl
  exact key _ v0 (Rch.zero (hb v0 (CutOf.zero hh) (okC_zero hh))) rfl
end
theorem rch_more {h : List Ev} {t t' : TrD} (hb : ∀ c, holdsB t c = true → holdsB t' c = true) {c : List Int} (hc : Rch h t' c) : Rch h t c := by
  have hf : ∀ c, holdsB t' c = false → holdsB t c = false := fun c h1 => by
    cases h2 : holdsB t c with
    | false => rfl
    | true => rw [hb c h2] at h1; cases h1
  induction hc with
  | zero h1 => exact Rch.zero (hf _ h1)
  | step _ p1 p2 p3 p4 ih => exact Rch.step ih p1 p2 p3 (hf _ p4)
end Go.Proofs.Ytcafiieffenohaa
