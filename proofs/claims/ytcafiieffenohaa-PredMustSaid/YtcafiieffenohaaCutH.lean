/- Cuts of histories, in plain words: the events of each process, consistent cuts, the least one above, the greatest one below. -/
import Derived.Test.YtcafiieffenohaaHist3
namespace Go.Proofs.Ytcafiieffenohaa
open Go.Ex

def evs (h : List Ev) (p : Nat) : Nat → List Nat
  | 0 => []
  | i + 1 => if pr h i = p then evs h p i ++ [i] else evs h p i
theorem evs_len {h : List Ev} {p : Nat} : ∀ {i : Nat}, (evs h p i).length = cnt h p i
  | 0 => rfl
  | i + 1 => by
    simp only [evs, cnt]
    split
    · simp [evs_len (i := i)]
    · rw [evs_len (i := i)]; simp
theorem getD_app_left {α : Type} {l m : List α} {i : Nat} {d : α} (h : i < l.length) : (l ++ m).getD i d = l.getD i d := by
  rw [List.getD_eq_getElem?_getD, List.getD_eq_getElem?_getD, List.getElem?_append_left h]
theorem getD_app_last {α : Type} {l : List α} {x d : α} : (l ++ [x]).getD l.length d = x := by
  rw [List.getD_eq_getElem?_getD]; simp
theorem cnt_step {h : List Ev} {p i : Nat} : cnt h p (i + 1) = if pr h i = p then cnt h p i + 1 else cnt h p i := by
  rw [cnt]; split <;> omega
/-- the k-th event of p -/
theorem evs_mem {h : List Ev} {p k : Nat} : ∀ {n : Nat}, k < cnt h p n → (evs h p n).getD k 0 < n ∧ pr h ((evs h p n).getD k 0) = p ∧ cnt h p ((evs h p n).getD k 0) = k
  | 0, hk => by simp [cnt] at hk
  | n + 1, hk => by
    rw [cnt_step] at hk
    by_cases e : pr h n = p
    · rw [if_pos e] at hk
      rw [evs, if_pos e]
      by_cases e2 : k < cnt h p n
      · rw [getD_app_left (by rw [evs_len]; exact e2)]
        obtain ⟨a, b, c⟩ := evs_mem e2
        exact ⟨by omega, b, c⟩
      · have e3 : k = (evs h p n).length := by rw [evs_len]; omega
        rw [e3, getD_app_last]
        exact ⟨by omega, e, by rw [evs_len]⟩
    · rw [if_neg e] at hk
      rw [evs, if_neg e]
      obtain ⟨a, b, c⟩ := evs_mem hk
      exact ⟨by omega, b, c⟩
theorem evs_at {h : List Ev} {p j : Nat} (hp : pr h j = p) : ∀ {n : Nat}, j < n → (evs h p n).getD (cnt h p j) 0 = j
  | 0, hj => by omega
  | n + 1, hj => by
    by_cases e2 : j < n
    · have h1 := cnt_lt (h := h) e2
      rw [hp] at h1
      have := evs_at hp e2
      rw [evs]
      split
      · rw [getD_app_left (by rw [evs_len]; omega)]; exact this
      · exact this
    · have e : j = n := by omega
      subst e
      rw [evs, if_pos hp, ← evs_len, getD_app_last]

/-- the vector of the k-th event of p, counted from 1 -/
def vk (h : List Ev) (p k : Nat) : List Int := (vectors h).1.getD ((evs h p h.length).getD (k - 1) 0) v0
def vecsOf (h : List Ev) (p n : Nat) : List (List Int) := (evs h p n).map (fun j => (vectors h).1.getD j v0)
def vecsL (h : List Ev) (n : Nat) : List (List (List Int)) := (List.range 6).map (fun p => vecsOf h p n)
def cntV (h : List Ev) (n : Nat) : List Int := (List.range 6).map (fun p => (cnt h p n : Int))
theorem cntV_at {h : List Ev} {i p : Nat} (hp : p < 6) : (cntV h i).getD p 0 = cnt h p i := getD_map_range _ _ hp
theorem cntV_set {h : List Ev} {i : Nat} (hp : pr h i < 6) : (cntV h i).set (pr h i) ((cnt h (pr h i) i : Int) + 1) = cntV h (i + 1) := by
  rw [cntV, set_map_range _ _ hp]
  refine List.map_congr_left (fun p _ => ?_)
  by_cases e : p = pr h i
  · rw [if_pos e, cnt, if_pos e.symm, e]; omega
  · rw [if_neg e, cnt, if_neg (fun h => e h.symm)]; omega
theorem cntV_len {h : List Ev} {i : Nat} : (cntV h i).length = 6 := by simp [cntV]
theorem cnt_le' {h : List Ev} {p : Nat} : ∀ {i : Nat}, cnt h p i ≤ i
  | 0 => Nat.le_refl _
  | i + 1 => by have := cnt_le' (h := h) (p := p) (i := i); simp only [cnt]; split <;> omega
theorem vecsOf_len {h : List Ev} {p n : Nat} : (vecsOf h p n).length = cnt h p n := by rw [vecsOf, List.length_map, evs_len]
theorem vecsL_at {h : List Ev} {p n : Nat} (hp : p < 6) : (vecsL h n).getD p [] = vecsOf h p n := getD_map_range _ _ hp
theorem vecsL_len {h : List Ev} {n : Nat} : (vecsL h n).length = 6 := by simp [vecsL]
theorem vecsL_set {h : List Ev} {i : Nat} (hp : pr h i < 6) : (vecsL h i).set (pr h i) (vecsOf h (pr h i) i ++ [(vectors h).1.getD i v0]) = vecsL h (i + 1) := by
  rw [vecsL, set_map_range _ _ hp]
  refine List.map_congr_left (fun p _ => ?_)
  by_cases e : p = pr h i
  · rw [if_pos e, vecsOf, vecsOf, evs, if_pos e.symm, e]; simp
  · rw [if_neg e, vecsOf, vecsOf, evs, if_neg (fun h => e h.symm)]
theorem getD_map' {α β : Type} {f : α → β} {l : List α} {i : Nat} {d : β} {d' : α} (hi : i < l.length) : (l.map f).getD i d = f (l.getD i d') := by
  rw [List.getD_eq_getElem?_getD, List.getD_eq_getElem?_getD, List.getElem?_map, List.getElem?_eq_getElem hi]; rfl
theorem vecsL_vk {h : List Ev} {p k : Nat} (hp : p < 6) (hk : k < cnt h p h.length) : ((vecsL h h.length).getD p []).getD k v0 = vk h p (k + 1) := by
  rw [vecsL_at hp, vecsOf, getD_map' (d' := 0) (by rw [evs_len]; exact hk), vk]; rfl

/-- within, by parts -/
def Le6 (a b : List Int) : Prop := ∀ q, q < 6 → a.getD q 0 ≤ b.getD q 0
theorem Le6.trans {a b c : List Int} (h : Le6 a b) (h' : Le6 b c) : Le6 a c := fun q hq => Int.le_trans (h q hq) (h' q hq)
theorem Le6.refl {a : List Int} : Le6 a a := fun q hq => Int.le_refl _
theorem Le6.anti {a b : List Int} (ha : a.length = 6) (hb : b.length = 6) (h : Le6 a b) (h' : Le6 b a) : a = b := ext6 ha hb (fun p hp => Int.le_antisymm (h p hp) (h' p hp))
theorem Le6.vmax {a b c : List Int} : Le6 (vmax a b) c ↔ Le6 a c ∧ Le6 b c := by
  constructor
  · intro h
    refine ⟨fun q hq => ?_, fun q hq => ?_⟩
    all_goals
      have := h q hq
      rw [vmax_at hq] at this
      have := maxI_le (a := a.getD q 0) (b := b.getD q 0)
      omega
  · rintro ⟨h1, h2⟩ q hq
    rw [vmax_at hq]
    have := h1 q hq
    have := h2 q hq
    have := maxI_le (a := a.getD q 0) (b := b.getD q 0)
    omega
theorem vmin_at {a b : List Int} {p : Nat} (hp : p < 6) : (vmin a b).getD p 0 = minI (a.getD p 0) (b.getD p 0) := getD_map_range _ _ hp
theorem vmin_len {a b : List Int} : (vmin a b).length = 6 := by simp [vmin]
theorem minI_le {a b : Int} : minI a b ≤ a ∧ minI a b ≤ b ∧ (minI a b = a ∨ minI a b = b) := by unfold minI; split <;> omega
theorem within_le {a b : List Int} (hb : b.length = 6) : within a b = true ↔ Le6 a b := within_iff hb

/-- a cut of a history -/
structure CutOf (h : List Ev) (c : List Int) : Prop where
  len : c.length = 6
  lo : ∀ p, p < 6 → 0 ≤ c.getD p 0
  hi : ∀ p, p < 6 → c.getD p 0 ≤ cnt h p h.length
def OkC (h : List Ev) (c : List Int) : Prop := ∀ p, p < 6 → 0 < c.getD p 0 → Le6 (vk h p (c.getD p 0).toNat) c

section
variable {h : List Ev} (hh : scheck h = 0)
include hh
theorem vk_evs {p k : Nat} (hk1 : 1 ≤ k) (hk : k ≤ cnt h p h.length) : ∃ e, e < h.length ∧ pr h e = p ∧ cnt h p e + 1 = k ∧ vk h p k = (vectors h).1.getD e v0 := by
  have _ := hh
  obtain ⟨a, b, c⟩ := evs_mem (h := h) (p := p) (k := k - 1) (n := h.length) (by omega)
  exact ⟨_, a, b, by omega, rfl⟩
theorem vk_of {e : Nat} (he : e < h.length) : vk h (pr h e) (cnt h (pr h e) e + 1) = (vectors h).1.getD e v0 := by
  have _ := hh
  rw [vk, Nat.add_sub_cancel, evs_at rfl he]
theorem vk_closed {p k q : Nat} (hk1 : 1 ≤ k) (hk : k ≤ cnt h p h.length) (hq : q < 6) :
    0 ≤ (vk h p k).getD q 0 ∧ (vk h p k).getD q 0 ≤ cnt h q h.length ∧ (0 < (vk h p k).getD q 0 → Le6 (vk h q ((vk h p k).getD q 0).toNat) (vk h p k)) := by
  obtain ⟨e, e1, e2, e3, e4⟩ := vk_evs hh hk1 hk
  rw [e4]
  obtain ⟨r1, r2⟩ := vec_reach hh e1 hq
  refine ⟨r1, ?_, ?_⟩
  · rcases r2 with r2 | ⟨j, j1, j2, j3⟩
    · omega
    · have := cnt_lt (h := h) (a := j) (b := h.length) (by omega)
      rw [j2] at this; omega
  · intro hpos
    rcases r2 with r2 | ⟨j, j1, j2, j3⟩
    · omega
    · have hj : j < h.length := by omega
      rw [j3]
      have e5 : ((cnt h q j : Int) + 1).toNat = cnt h q j + 1 := by omega
      rw [e5, ← j2, vk_of hh hj]
      have := (vec_tells hh e1 hj).2 (by rw [j2, j3]; exact Int.le_refl _)
      exact (vec_le hh hj e1).2 (this.imp id id)
theorem vk_own {p k : Nat} (hk1 : 1 ≤ k) (hk : k ≤ cnt h p h.length) : (vk h p k).getD p 0 = k := by
  obtain ⟨e, e1, e2, e3, e4⟩ := vk_evs hh hk1 hk
  rw [e4]
  have := vec_own hh e1
  rw [e2] at this
  rw [this]; omega
theorem vk_len {p k : Nat} (hk1 : 1 ≤ k) (hk : k ≤ cnt h p h.length) : (vk h p k).length = 6 := by
  obtain ⟨e, e1, e2, e3, e4⟩ := vk_evs hh hk1 hk
  rw [e4]; exact vec_len hh e1
theorem vk_mono {p k k' : Nat} (hk1 : 1 ≤ k) (hkk : k ≤ k') (hk : k' ≤ cnt h p h.length) : Le6 (vk h p k) (vk h p k') := by
  obtain ⟨e, e1, e2, e3, e4⟩ := vk_evs hh hk1 (show k ≤ cnt h p h.length by omega)
  obtain ⟨f, f1, f2, f3, f4⟩ := vk_evs hh (show 1 ≤ k' by omega) hk
  rw [e4, f4]
  have hown := vec_own hh f1
  rw [f2] at hown
  have := (vec_tells hh f1 e1).2 (by rw [e2, hown]; omega)
  exact (vec_le hh e1 f1).2 (this.imp id id)
theorem CutOf.zero : CutOf h v0 := have _ := hh; ⟨rfl, fun p hp => by rw [v0_at]; exact Int.le_refl _, fun p hp => by rw [v0_at]; omega⟩
theorem CutOf.full : CutOf h (cntV h h.length) := have _ := hh; ⟨cntV_len, fun p hp => by rw [cntV_at hp]; omega, fun p hp => by rw [cntV_at hp]; exact Int.le_refl _⟩
theorem okC_zero : OkC h v0 := have _ := hh; fun p hp hpos => by rw [v0_at] at hpos; omega
theorem okC_full : OkC h (cntV h h.length) := fun p hp hpos q hq => by
  rw [cntV_at hp] at hpos ⊢
  rw [cntV_at hq]
  exact (vk_closed hh (by omega) (by simp) hq).2.1

/-- a cut's least consistent cut above -/
theorem vk_ok {p k : Nat} (hk1 : 1 ≤ k) (hk : k ≤ cnt h p h.length) : OkC h (vk h p k) := fun q hq hpos => (vk_closed hh hk1 hk hq).2.2 hpos
theorem CutOf.vmax {a b : List Int} (ha : CutOf h a) (hb : CutOf h b) : CutOf h (vmax a b) := by
  have _ := hh
  refine ⟨vmax_len, fun p hp => ?_, fun p hp => ?_⟩
  all_goals
    rw [vmax_at hp]
    have := maxI_le (a := a.getD p 0) (b := b.getD p 0)
    have := ha.lo p hp
    have := ha.hi p hp
    have := hb.hi p hp
    omega
theorem CutOf.vmin {a b : List Int} (ha : CutOf h a) (hb : CutOf h b) : CutOf h (vmin a b) := by
  have _ := hh
  refine ⟨vmin_len, fun p hp => ?_, fun p hp => ?_⟩
  all_goals
    rw [vmin_at hp]
    have := minI_le (a := a.getD p 0) (b := b.getD p 0)
    have := ha.lo p hp
    have := ha.hi p hp
    have := hb.lo p hp
    omega
theorem OkC.vmax {a b : List Int} (ha : OkC h a) (hb : OkC h b) : OkC h (vmax a b) := by
  have _ := hh
  intro p hp hpos
  have hm := Le6.vmax.1 (Le6.refl (a := Proofs.Ytcafiieffenohaa.vmax a b))
  rw [vmax_at hp] at hpos ⊢
  rcases (maxI_le (a := a.getD p 0) (b := b.getD p 0)).2.2 with e | e
  · rw [e] at hpos ⊢; exact (ha p hp hpos).trans hm.1
  · rw [e] at hpos ⊢; exact (hb p hp hpos).trans hm.2
theorem OkC.vmin {a b : List Int} (ca : CutOf h a) (cb : CutOf h b) (ha : OkC h a) (hb : OkC h b) : OkC h (vmin a b) := by
  intro p hp hpos q hq
  rw [vmin_at hp] at hpos ⊢
  rw [vmin_at hq]
  have hm := minI_le (a := a.getD p 0) (b := b.getD p 0)
  have hq2 := minI_le (a := a.getD q 0) (b := b.getD q 0)
  have h1 := ca.hi p hp
  have h2 := cb.hi p hp
  have m1 := vk_mono hh (p := p) (k := (minI (a.getD p 0) (b.getD p 0)).toNat) (k' := (a.getD p 0).toNat) (by omega) (by omega) (by omega) q hq
  have m2 := vk_mono hh (p := p) (k := (minI (a.getD p 0) (b.getD p 0)).toNat) (k' := (b.getD p 0).toNat) (by omega) (by omega) (by omega) q hq
  have g1 := ha p hp (by omega) q hq
  have g2 := hb p hp (by omega) q hq
  rcases hq2.2.2 with e | e <;> rw [e] <;> omega
end

/-- what grown computes, from the lists -/
def grGo (l : List (List (List Int))) (c : List Int) : Nat → List Int
  | 0 => c
  | p + 1 => if 0 < c.getD p 0 then vmax (grGo l c p) ((l.getD p []).getD (c.getD p 0 - 1).toNat v0) else grGo l c p
def growF (h : List Ev) (c : List Int) : List Int := grGo (vecsL h h.length) c 6
section
variable {h : List Ev} (hh : scheck h = 0) {c : List Int} (hc : CutOf h c)
include hh hc
theorem gr_vk {p : Nat} (hp : p < 6) (hpos : 0 < c.getD p 0) : ((vecsL h h.length).getD p []).getD (c.getD p 0 - 1).toNat v0 = vk h p (c.getD p 0).toNat := by
  have _ := hh
  have := hc.hi p hp
  rw [vecsL_vk hp (by omega)]
  congr 1; omega
theorem gr_len : ∀ {n : Nat}, (grGo (vecsL h h.length) c n).length = 6
  | 0 => hc.len
  | n + 1 => by
    have _ := hh
    rw [grGo]; split
    · exact vmax_len
    · exact gr_len (n := n)
theorem gr_le {y : List Int} : ∀ {n : Nat}, n ≤ 6 → (Le6 (grGo (vecsL h h.length) c n) y ↔ Le6 c y ∧ ∀ p, p < n → 0 < c.getD p 0 → Le6 (vk h p (c.getD p 0).toNat) y)
  | 0, _ => by simp [grGo]
  | n + 1, hn => by
    rw [grGo]
    have ih := gr_le (y := y) (n := n) (by omega)
    split
    · rename_i hpos
      rw [Le6.vmax, ih, gr_vk hh hc (by omega) hpos]
      constructor
      · rintro ⟨⟨a, b⟩, d⟩
        exact ⟨a, fun p hp h0 => by
          by_cases e : p = n
          · subst e; exact d
          · exact b p (by omega) h0⟩
      · rintro ⟨a, b⟩
        exact ⟨⟨a, fun p hp h0 => b p (by omega) h0⟩, b n (by omega) hpos⟩
    · rename_i hpos
      rw [ih]
      constructor
      · rintro ⟨a, b⟩
        exact ⟨a, fun p hp h0 => by
          by_cases e : p = n
          · subst e; exact absurd h0 hpos
          · exact b p (by omega) h0⟩
      · rintro ⟨a, b⟩
        exact ⟨a, fun p hp h0 => b p (by omega) h0⟩
theorem gr_ok : ∀ {n : Nat}, n ≤ 6 → CutOf h (grGo (vecsL h h.length) c n) ∧ ∀ q, q < 6 → 0 < (grGo (vecsL h h.length) c n).getD q 0 → ((grGo (vecsL h h.length) c n).getD q 0 = c.getD q 0 ∨ Le6 (vk h q ((grGo (vecsL h h.length) c n).getD q 0).toNat) (grGo (vecsL h h.length) c n))
  | 0, _ => ⟨hc, fun q hq _ => .inl rfl⟩
  | n + 1, hn => by
    obtain ⟨i1, i2⟩ := gr_ok (n := n) (by omega)
    rw [grGo]
    split
    · rename_i hpos
      rw [gr_vk hh hc (by omega) hpos]
      have hci := hc.hi n (by omega)
      have k1 : 1 ≤ (c.getD n 0).toNat := by omega
      have k2 : (c.getD n 0).toNat ≤ cnt h n h.length := by omega
      have hv : CutOf h (vk h n (c.getD n 0).toNat) := ⟨vk_len hh k1 k2, fun p hp => (vk_closed hh k1 k2 hp).1, fun p hp => (vk_closed hh k1 k2 hp).2.1⟩
      refine ⟨CutOf.vmax hh i1 hv, fun q hq h0 => ?_⟩
      have hm := Le6.vmax.1 (Le6.refl (a := vmax (grGo (vecsL h h.length) c n) (vk h n (c.getD n 0).toNat)))
      rw [vmax_at hq] at h0 ⊢
      rcases (maxI_le (a := (grGo (vecsL h h.length) c n).getD q 0) (b := (vk h n (c.getD n 0).toNat).getD q 0)).2.2 with e | e
      · rw [e] at h0 ⊢
        rcases i2 q hq h0 with i3 | i3
        · exact .inl i3
        · exact .inr (i3.trans hm.1)
      · rw [e] at h0 ⊢
        exact .inr (((vk_closed hh k1 k2 hq).2.2 h0).trans hm.2)
    · exact ⟨i1, i2⟩
theorem grow_cut : CutOf h (growF h c) := (gr_ok hh hc (Nat.le_refl 6)).1
theorem grow_le {y : List Int} : Le6 (growF h c) y ↔ Le6 c y ∧ ∀ p, p < 6 → 0 < c.getD p 0 → Le6 (vk h p (c.getD p 0).toNat) y := gr_le hh hc (Nat.le_refl 6)
theorem grow_above : Le6 c (growF h c) := ((grow_le hh hc).1 Le6.refl).1
theorem grow_ok : OkC h (growF h c) := by
  intro q hq h0
  rcases (gr_ok hh hc (Nat.le_refl 6)).2 q hq h0 with e | e
  · have e : (growF h c).getD q 0 = c.getD q 0 := e
    rw [e] at h0 ⊢
    exact ((grow_le hh hc).1 Le6.refl).2 q hq h0
  · exact e
theorem grow_least {y : List Int} (hy : CutOf h y) (oy : OkC h y) (hle : Le6 c y) : Le6 (growF h c) y := by
  refine (grow_le hh hc).2 ⟨hle, fun p hp h0 => ?_⟩
  have h1 := hle p hp
  have h2 := hy.hi p hp
  exact (vk_mono hh (by omega) (by omega) (by omega)).trans (oy p hp (by omega))
theorem grow_fix : growF h c = c ↔ OkC h c := by
  constructor
  · intro e; rw [← e]; exact grow_ok hh hc
  · intro o; exact Le6.anti (gr_len hh hc) hc.len (grow_least hh hc hc o Le6.refl) (grow_above hh hc)
end

/-! the greatest one below -/
/-- so many of p's events, from the first on, lie within c -/
def shGo (l : List (List Int)) (c : List Int) (n : Int) : Nat → Nat → Nat
  | 0, k => k
  | f + 1, k => if (k : Int) < n ∧ within (l.getD k v0) c = true then shGo l c n f (k + 1) else k
def shrinkF (h : List Ev) (c : List Int) : List Int := (List.range 6).map (fun p => (shGo ((vecsL h h.length).getD p []) c (c.getD p 0) 60 0 : Int))
theorem shGo_le {l : List (List Int)} {c : List Int} {n : Int} : ∀ {f k : Nat}, k ≤ shGo l c n f k ∧ ((k : Int) ≤ n → (shGo l c n f k : Int) ≤ n)
  | 0, k => ⟨Nat.le_refl _, fun h => h⟩
  | f + 1, k => by
    rw [shGo]
    split
    · rename_i h
      have := shGo_le (l := l) (c := c) (n := n) (f := f) (k := k + 1)
      exact ⟨by omega, fun _ => this.2 (by omega)⟩
    · exact ⟨Nat.le_refl _, fun h => h⟩
theorem shGo_in {l : List (List Int)} {c : List Int} {n : Int} : ∀ {f k j : Nat}, k ≤ j → j < shGo l c n f k → within (l.getD j v0) c = true
  | 0, k, j, h1, h2 => by simp [shGo] at h2; omega
  | f + 1, k, j, h1, h2 => by
    rw [shGo] at h2
    split at h2
    · rename_i h
      by_cases e : j = k
      · subst e; exact h.2
      · exact shGo_in (k := k + 1) (by omega) h2
    · omega
theorem shGo_stop {l : List (List Int)} {c : List Int} {n : Int} : ∀ {f k : Nat}, n ≤ k + f → (shGo l c n f k : Int) < n → within (l.getD (shGo l c n f k) v0) c = false
  | 0, k, h1, h2 => by simp only [shGo] at h2; omega
  | f + 1, k, h1, h2 => by
    rw [shGo] at h2 ⊢
    split
    · rename_i h
      rw [if_pos h] at h2
      exact shGo_stop (by omega) h2
    · rename_i h
      rw [if_neg h] at h2
      cases hw : within (l.getD k v0) c with
      | false => rfl
      | true => exact absurd ⟨h2, hw⟩ h
section
variable {h : List Ev} (hh : scheck h = 0) {c : List Int} (hc : CutOf h c)
include hh hc
theorem shrink_at {p : Nat} (hp : p < 6) : (shrinkF h c).getD p 0 = shGo ((vecsL h h.length).getD p []) c (c.getD p 0) 60 0 := have _ := hh; have _ := hc; getD_map_range _ _ hp
theorem shrink_lt {p k : Nat} (hp : p < 6) (hk : (k : Int) < c.getD p 0) : (k : Int) < (shrinkF h c).getD p 0 ↔ Le6 (vk h p (k + 1)) c := by
  have hci := hc.hi p hp
  have hl := (scheck_ok hh).1
  have hcn := cnt_le' (h := h) (p := p) (i := h.length)
  rw [shrink_at hh hc hp, ← vecsL_vk hp (by omega)]
  constructor
  · intro h1
    exact (within_le hc.len).1 (shGo_in (n := c.getD p 0) (f := 60) (k := 0) (Nat.zero_le _) (by omega))
  · intro h1
    by_cases e : (k : Int) < shGo ((vecsL h h.length).getD p []) c (c.getD p 0) 60 0
    · exact e
    · exfalso
      generalize hs : shGo ((vecsL h h.length).getD p []) c (c.getD p 0) 60 0 = s at *
      have hst := shGo_stop (l := (vecsL h h.length).getD p []) (c := c) (n := c.getD p 0) (f := 60) (k := 0) (by omega) (by rw [hs]; omega)
      rw [hs] at hst
      have : within (((vecsL h h.length).getD p []).getD s v0) c = true := by
        rw [within_le hc.len]
        rw [vecsL_vk hp (by omega)] at h1 ⊢
        exact (vk_mono hh (by omega) (by omega) (by omega)).trans h1
      rw [this] at hst; cases hst
theorem shrink_cut : CutOf h (shrinkF h c) := by
  refine ⟨by simp [shrinkF], fun p hp => ?_, fun p hp => ?_⟩
  · rw [shrink_at hh hc hp]; omega
  · rw [shrink_at hh hc hp]
    have := (shGo_le (l := (vecsL h h.length).getD p []) (c := c) (n := c.getD p 0) (f := 60) (k := 0)).2 (hc.lo p hp)
    have := hc.hi p hp
    omega
theorem shrink_below : Le6 (shrinkF h c) c := fun p hp => by
  rw [shrink_at hh hc hp]
  exact (shGo_le (l := (vecsL h h.length).getD p []) (c := c) (n := c.getD p 0) (f := 60) (k := 0)).2 (hc.lo p hp)
theorem shrink_ok : OkC h (shrinkF h c) := by
  intro p hp h0 q hq
  have b1 := shrink_below hh hc p hp
  have b2 := hc.hi p hp
  generalize hs : (shrinkF h c).getD p 0 = s at *
  have k1 : 1 ≤ s.toNat := by omega
  have k2 : s.toNat ≤ cnt h p h.length := by omega
  have h1 : Le6 (vk h p s.toNat) c := by
    have := (shrink_lt hh hc hp (k := s.toNat - 1) (by omega)).1 (by omega)
    rwa [Nat.sub_add_cancel k1] at this
  obtain ⟨c1, c2, c3⟩ := vk_closed hh k1 k2 hq
  by_cases e : 0 < (vk h p s.toNat).getD q 0
  · have hle := h1 q hq
    have := (shrink_lt hh hc hq (k := ((vk h p s.toNat).getD q 0).toNat - 1) (by omega)).2 (by
      rw [Nat.sub_add_cancel (by omega)]
      exact (c3 e).trans h1)
    omega
  · have := (shrink_cut hh hc).lo q hq
    omega
theorem shrink_most {b : List Int} (hb : CutOf h b) (ob : OkC h b) (hle : Le6 b c) : Le6 b (shrinkF h c) := by
  intro p hp
  by_cases e : 0 < b.getD p 0
  · have h1 := hle p hp
    have := (shrink_lt hh hc hp (k := (b.getD p 0).toNat - 1) (by omega)).2 (by
      rw [Nat.sub_add_cancel (by omega)]
      exact (ob p hp e).trans hle)
    omega
  · have := (shrink_cut hh hc).lo p hp
    omega
end
end Go.Proofs.Ytcafiieffenohaa
