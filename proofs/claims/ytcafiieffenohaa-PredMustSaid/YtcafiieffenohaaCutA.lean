/- All cuts of a history, one after the other; steps from cut to cut. -/
import Derived.Test.YtcafiieffenohaaCut
namespace Go.Proofs.Ytcafiieffenohaa
open Go.Ex
set_option maxRecDepth 100000

def odoGo (m c : List Int) : Nat → List Int
  | 0 => c
  | p + 1 => if c.getD p 0 < m.getD p 0 then c.set p (c.getD p 0 + 1) else odoGo m (c.set p 0) p
def odoN (m : List Int) : Nat → List Int
  | 0 => v0
  | k + 1 => odoGo m (odoN m k) 6
def Hv (m c : List Int) : Nat → Int
  | 0 => 0
  | p + 1 => Hv m c p * (m.getD p 0 + 1) + c.getD p 0
def Tv (m : List Int) : Nat → Int
  | 0 => 1
  | p + 1 => Tv m p * (m.getD p 0 + 1)
structure Box (m c : List Int) : Prop where
  len : c.length = 6
  lo : ∀ p, p < 6 → 0 ≤ c.getD p 0
  hi : ∀ p, p < 6 → c.getD p 0 ≤ m.getD p 0
theorem Box.set {m c : List Int} (h : Box m c) {p : Nat} (hp : p < 6) {x : Int} (h0 : 0 ≤ x) (h1 : x ≤ m.getD p 0) : Box m (c.set p x) := by
  refine ⟨by simp [h.len], fun q hq => ?_, fun q hq => ?_⟩
  all_goals
    rw [getD_set (by rw [h.len]; exact hp)]
    split
    · rename_i e; subst e; assumption
    · first | exact h.lo q hq | exact h.hi q hq
theorem Hv_congr {m c d : List Int} : ∀ {p : Nat}, (∀ j, j < p → c.getD j 0 = d.getD j 0) → Hv m c p = Hv m d p
  | 0, _ => rfl
  | p + 1, h => by rw [Hv, Hv, Hv_congr (fun j hj => h j (by omega)), h p (by omega)]
theorem Hv_rng {m c : List Int} (h : Box m c) : ∀ {p : Nat}, p ≤ 6 → 0 ≤ Hv m c p ∧ Hv m c p < Tv m p
  | 0, _ => by simp [Hv, Tv]
  | p + 1, hp => by
    obtain ⟨h1, h2⟩ := Hv_rng h (p := p) (by omega)
    have a := h.lo p (by omega)
    have b := h.hi p (by omega)
    rw [Hv, Tv]
    have g1 : 0 ≤ Hv m c p * (m.getD p 0 + 1) := Int.mul_nonneg h1 (by omega)
    have g2 : (Hv m c p + 1) * (m.getD p 0 + 1) ≤ Tv m p * (m.getD p 0 + 1) := Int.mul_le_mul_of_nonneg_right (by omega) (by omega)
    rw [Int.add_mul] at g2
    omega
theorem odo_spec {m : List Int} : ∀ {p : Nat} {c : List Int}, p ≤ 6 → Box m c → Box m (odoGo m c p) ∧ (∀ j, p ≤ j → (odoGo m c p).getD j 0 = c.getD j 0) ∧
    (Hv m c p + 1 < Tv m p → Hv m (odoGo m c p) p = Hv m c p + 1)
  | 0, c, _, h => ⟨h, fun _ _ => rfl, fun h1 => by simp [Hv, Tv] at h1⟩
  | p + 1, c, hp, h => by
    rw [odoGo]
    have a := h.lo p (by omega)
    have b := h.hi p (by omega)
    split
    · rename_i hlt
      refine ⟨h.set (by omega) (by omega) (by omega), fun j hj => ?_, fun _ => ?_⟩
      · rw [getD_set (by rw [h.len]; omega), if_neg (by omega)]
      · rw [Hv, Hv, Hv_congr (d := c) (fun j hj => by rw [getD_set (by rw [h.len]; omega), if_neg (by omega)]), getD_set (by rw [h.len]; omega), if_pos rfl]; omega
    · rename_i hge
      have hb : Box m (c.set p 0) := h.set (by omega) (by omega) (by omega)
      obtain ⟨i1, i2, i3⟩ := odo_spec (p := p) (c := c.set p 0) (by omega) hb
      refine ⟨i1, fun j hj => ?_, fun h1 => ?_⟩
      · rw [i2 j (by omega), getD_set (by rw [h.len]; omega), if_neg (by omega)]
      · have e0 : Hv m (c.set p 0) p = Hv m c p := Hv_congr (fun j hj => by rw [getD_set (by rw [h.len]; omega), if_neg (by omega)])
        have ep : c.getD p 0 = m.getD p 0 := by omega
        rw [Hv, Tv] at h1
        have hlt : Hv m c p + 1 < Tv m p := by
          have g := (Hv_rng h (p := p) (by omega)).2
          have hc : Hv m c p + 1 ≤ Tv m p := by omega
          by_cases e : Hv m c p + 1 = Tv m p
          · exfalso
            rw [← e, Int.add_mul, ep] at h1
            omega
          · omega
        rw [e0] at i3
        rw [Hv, Hv, i3 hlt, i2 p (Nat.le_refl _), getD_set (by rw [h.len]; omega), if_pos rfl, Int.add_mul, ep]
        omega
theorem Hv_inj {m c d : List Int} (hc : Box m c) (hd : Box m d) : ∀ {p : Nat}, p ≤ 6 → Hv m c p = Hv m d p → ∀ j, j < p → c.getD j 0 = d.getD j 0
  | 0, _, _, j, hj => by omega
  | p + 1, hp, h, j, hj => by
    rw [Hv, Hv] at h
    have a1 := hc.lo p (by omega)
    have a2 := hc.hi p (by omega)
    have b1 := hd.lo p (by omega)
    have b2 := hd.hi p (by omega)
    have key : ∀ {x y u v M : Int}, 0 ≤ u → u ≤ M → 0 ≤ v → v ≤ M → x * (M + 1) + u = y * (M + 1) + v → ¬ x < y := by
      intro x y u v M h1 h2 h3 h4 h5 h6
      have := Int.mul_le_mul_of_nonneg_right (show x + 1 ≤ y by omega) (show 0 ≤ M + 1 by omega)
      rw [Int.add_mul] at this
      omega
    have e : Hv m c p = Hv m d p := by
      have k1 := key a1 a2 b1 b2 h
      have k2 := key b1 b2 a1 a2 h.symm
      omega
    by_cases ej : j = p
    · subst ej; rw [e] at h; omega
    · exact Hv_inj hc hd (by omega) e j (by omega)
theorem box_ext {m c d : List Int} (hc : Box m c) (hd : Box m d) (h : Hv m c 6 = Hv m d 6) : c = d := ext6 hc.len hd.len (fun p hp => Hv_inj hc hd (Nat.le_refl _) h p hp)
section
variable {m : List Int} (hm : ∀ p, p < 6 → 0 ≤ m.getD p 0)
include hm
theorem Tv_pos : ∀ {p : Nat}, p ≤ 6 → 1 ≤ Tv m p
  | 0, _ => Int.le_refl _
  | p + 1, hp => by
    have := Tv_pos (p := p) (by omega)
    have h1 := hm p (by omega)
    have := Int.mul_le_mul_of_nonneg_right this (show 0 ≤ m.getD p 0 + 1 by omega)
    rw [Tv]; omega
theorem odoN_spec : ∀ {k : Nat}, (k : Int) < Tv m 6 → Box m (odoN m k) ∧ Hv m (odoN m k) 6 = k
  | 0, _ => by
    have hz : ∀ {p : Nat}, Hv m v0 p = 0 := by
      intro p
      induction p with
      | zero => rfl
      | succ p ih => rw [Hv, ih, v0_at]; simp
    exact ⟨⟨rfl, fun p hp => by rw [odoN, v0_at]; exact Int.le_refl _, fun p hp => by rw [odoN, v0_at]; exact hm p hp⟩, hz⟩
  | k + 1, hk => by
    obtain ⟨h1, h2⟩ := odoN_spec (k := k) (by omega)
    obtain ⟨i1, _, i3⟩ := odo_spec (Nat.le_refl 6) h1
    exact ⟨i1, by rw [odoN, i3 (by rw [h2]; omega), h2]; omega⟩
theorem odoN_all {c : List Int} (hc : Box m c) : ∃ k : Nat, (k : Int) < Tv m 6 ∧ odoN m k = c := by
  obtain ⟨h1, h2⟩ := Hv_rng hc (Nat.le_refl 6)
  refine ⟨(Hv m c 6).toNat, by omega, ?_⟩
  obtain ⟨k1, k2⟩ := odoN_spec hm (k := (Hv m c 6).toNat) (by omega)
  exact box_ext k1 hc (by rw [k2]; omega)
end
theorem cntV_nn {h : List Ev} {n : Nat} : ∀ p, p < 6 → 0 ≤ (cntV h n).getD p 0 := fun p hp => by rw [cntV_at hp]; omega
theorem box_cut {h : List Ev} {c : List Int} : Box (cntV h h.length) c ↔ CutOf h c :=
  ⟨fun b => ⟨b.len, b.lo, fun p hp => by have := b.hi p hp; rwa [cntV_at hp] at this⟩, fun b => ⟨b.len, b.lo, fun p hp => by rw [cntV_at hp]; exact b.hi p hp⟩⟩
def room (h : List Ev) : Int := Tv (cntV h h.length) 6
theorem Tv_le {h : List Ev} (hl : h.length ≤ 60) : ∀ {p : Nat}, p ≤ 6 → Tv (cntV h h.length) p ≤ 61 ^ p
  | 0, _ => by simp [Tv]
  | p + 1, hp => by
    have h1 := Tv_le hl (p := p) (by omega)
    have h0 := Tv_pos (cntV_nn (h := h) (n := h.length)) (p := p) (by omega)
    have h2 := cnt_le' (h := h) (p := p) (i := h.length)
    rw [Tv, cntV_at (by omega), Int.pow_succ]
    exact Int.mul_le_mul h1 (by omega) (by omega) (by have : (0 : Int) ≤ 61 ^ p := Int.pow_nonneg (by omega); exact this)
def okB (h : List Ev) (c : List Int) : Bool := decide (growF h c = c)
def allTo (h : List Ev) (k : Nat) : List (List Int) := ((List.range k).map (odoN (cntV h h.length))).filter (okB h)
def allL (h : List Ev) : List (List Int) := allTo h (room h).toNat
theorem allTo_succ {h : List Ev} {k : Nat} : allTo h (k + 1) = if okB h (odoN (cntV h h.length) k) = true then allTo h k ++ [odoN (cntV h h.length) k] else allTo h k := by
  rw [allTo, List.range_succ, List.map_append, List.filter_append]
  simp only [List.map_cons, List.map_nil, List.filter_cons, List.filter_nil]
  split
  · rfl
  · simp [allTo]
theorem allTo_len {h : List Ev} : ∀ {k : Nat}, (allTo h k).length ≤ k
  | 0 => Nat.le_refl _
  | k + 1 => by
    have := allTo_len (h := h) (k := k)
    rw [allTo_succ]; split
    · simp; omega
    · omega
section
variable {h : List Ev} (hh : scheck h = 0)
include hh
theorem okB_iff {c : List Int} (hc : CutOf h c) : okB h c = true ↔ OkC h c := by rw [okB, decide_eq_true_eq]; exact grow_fix hh hc
theorem room_pos : 1 ≤ room h := have _ := hh; Tv_pos cntV_nn (Nat.le_refl 6)
theorem odo_cut {k : Nat} (hk : k < (room h).toNat) : CutOf h (odoN (cntV h h.length) k) := box_cut.1 (odoN_spec cntV_nn (by have := room_pos hh; unfold room at *; omega)).1
theorem mem_all {c : List Int} : c ∈ allL h ↔ CutOf h c ∧ OkC h c := by
  rw [allL, allTo, List.mem_filter, List.mem_map]
  constructor
  · rintro ⟨⟨k, hk, rfl⟩, ho⟩
    have hc := odo_cut hh (List.mem_range.1 hk)
    exact ⟨hc, (okB_iff hh hc).1 ho⟩
  · rintro ⟨hc, ho⟩
    obtain ⟨k, h1, h2⟩ := odoN_all cntV_nn (box_cut.2 hc)
    exact ⟨⟨k, List.mem_range.2 (by unfold room; omega), h2⟩, (okB_iff hh hc).2 ho⟩
theorem all_first : ∃ l, allL h = v0 :: l := by
  have hp := room_pos hh
  obtain ⟨n, hn⟩ : ∃ n, (room h).toNat = n + 1 := ⟨(room h).toNat - 1, by omega⟩
  rw [allL, hn, allTo, List.range_succ_eq_map, List.map_cons, List.filter_cons]
  have : okB h (odoN (cntV h h.length) 0) = true := (okB_iff hh (CutOf.zero hh)).2 (okC_zero hh)
  rw [if_pos this]
  exact ⟨_, rfl⟩
theorem all_last : ∃ l, allL h = l ++ [cntV h h.length] := by
  have hp := room_pos hh
  obtain ⟨n, hn⟩ : ∃ n, (room h).toNat = n + 1 := ⟨(room h).toNat - 1, by omega⟩
  obtain ⟨k, h1, h2⟩ := odoN_all cntV_nn (box_cut.2 (CutOf.full hh))
  have hbx : ∀ {p : Nat}, p ≤ 6 → Hv (cntV h h.length) (cntV h h.length) p + 1 = Tv (cntV h h.length) p := by
    intro p
    induction p with
    | zero => intro _; rfl
    | succ p ih =>
      intro hp
      rw [Hv, Tv, ← ih (by omega), Int.add_mul]
      omega
  have h3 := (odoN_spec cntV_nn (k := k) h1).2
  rw [h2] at h3
  have h4 := hbx (Nat.le_refl 6)
  have hk : k = n := by unfold room at hn; omega
  subst hk
  rw [allL, hn, allTo_succ, h2, if_pos ((okB_iff hh (CutOf.full hh)).2 (okC_full hh))]
  exact ⟨_, rfl⟩

/-- from each consistent cut but the last one goes a step -/
theorem ok_next {a : List Int} (ha : CutOf h a) (oa : OkC h a) (hne : a ≠ cntV h h.length) : ∃ p, p < 6 ∧ CutOf h (a.set p (a.getD p 0 + 1)) ∧ OkC h (a.set p (a.getD p 0 + 1)) := by
  -- an event that is not in the cut
  have hex : ∃ i, i < h.length ∧ a.getD (pr h i) 0 ≤ cnt h (pr h i) i := by
    by_cases e : ∀ p, p < 6 → a.getD p 0 = cnt h p h.length
    · exact absurd (ext6 ha.len cntV_len (fun p hp => by rw [cntV_at hp]; exact e p hp)) hne
    · obtain ⟨p, hp⟩ := Classical.not_forall.1 e
      have hp6 : p < 6 := by
        rcases Nat.lt_or_ge p 6 with h1 | h1
        · exact h1
        · exact absurd (fun h2 => by omega) hp
      have h1 := ha.hi p hp6
      have h2 : a.getD p 0 ≠ cnt h p h.length := fun h3 => hp (fun _ => h3)
      have h0 := ha.lo p hp6
      obtain ⟨c1, c2, c3⟩ := evs_mem (h := h) (p := p) (k := (a.getD p 0).toNat) (n := h.length) (by omega)
      exact ⟨_, c1, by rw [c2, c3]; omega⟩
  have least : ∀ n, n < h.length → a.getD (pr h n) 0 ≤ cnt h (pr h n) n → ∃ i, i < h.length ∧ a.getD (pr h i) 0 ≤ cnt h (pr h i) i ∧ ∀ j, j < i → (cnt h (pr h j) j : Int) < a.getD (pr h j) 0 := by
    intro n
    induction n using Nat.strongRecOn with
    | _ n ih =>
      intro h1 h2
      by_cases e : ∀ j, j < n → (cnt h (pr h j) j : Int) < a.getD (pr h j) 0
      · exact ⟨n, h1, h2, e⟩
      · obtain ⟨j, hj⟩ := Classical.not_forall.1 e
        have hjn : j < n := by
          rcases Nat.lt_or_ge j n with h3 | h3
          · exact h3
          · exact absurd (fun h2 => by omega) hj
        exact ih j hjn (by omega) (by
          have : ¬ (cnt h (pr h j) j : Int) < a.getD (pr h j) 0 := fun h3 => hj (fun _ => h3)
          omega)
  obtain ⟨n, n1, n2⟩ := hex
  obtain ⟨i, i1, i2, i3⟩ := least n n1 n2
  have hp := (hist_ok hh i1).p
  have hset : ∀ q, (a.set (pr h i) (a.getD (pr h i) 0 + 1)).getD q 0 = if q = pr h i then a.getD (pr h i) 0 + 1 else a.getD q 0 := fun q => getD_set (by rw [ha.len]; exact hp)
  -- all that came before is in the cut
  have hcnt : (cnt h (pr h i) i : Int) ≤ a.getD (pr h i) 0 := by
    by_cases e : cnt h (pr h i) i = 0
    · have := ha.lo _ hp; omega
    · obtain ⟨c1, c2, c3⟩ := evs_mem (h := h) (p := pr h i) (k := cnt h (pr h i) i - 1) (n := i) (by omega)
      have := i3 _ c1
      rw [c2, c3] at this
      omega
  have hclt := cnt_lt (h := h) i1
  refine ⟨pr h i, hp, ⟨by simp [ha.len], fun q hq => ?_, fun q hq => ?_⟩, fun q hq h0 r hr => ?_⟩
  · rw [hset q]; split
    · have := ha.lo _ hp; omega
    · exact ha.lo q hq
  · rw [hset q]; split
    · rename_i e; subst e; omega
    · exact ha.hi q hq
  · rw [hset q] at h0 ⊢
    rw [hset r]
    by_cases e : q = pr h i
    · rw [if_pos e]
      subst e
      have ek : (a.getD (pr h i) 0 + 1).toNat = cnt h (pr h i) i + 1 := by omega
      rw [ek, vk_of hh i1]
      by_cases er : r = pr h i
      · rw [if_pos er, er, vec_own hh i1]; omega
      · rw [if_neg er]
        obtain ⟨r1, r2⟩ := vec_reach hh i1 hr
        rcases r2 with r2 | ⟨j, j1, j2, j3⟩
        · have := ha.lo r hr; omega
        · have hji : j < i := by
            rcases Nat.lt_or_ge j i with h9 | h9
            · exact h9
            · have : j = i := by omega
              subst this; exact absurd j2.symm er
          have := i3 j hji
          rw [j2] at this
          omega
    · rw [if_neg e] at h0 ⊢
      have := oa q hq h0 r hr
      split
      · rename_i e2; subst e2; omega
      · exact this

/-- the cuts that end with each event -/
theorem pre_cut {i : Nat} (hi : i ≤ h.length) : CutOf h (cntV h i) ∧ OkC h (cntV h i) := by
  refine ⟨⟨cntV_len, fun p hp => by rw [cntV_at hp]; omega, fun p hp => by rw [cntV_at hp]; exact Int.ofNat_le.2 (cnt_mono hi)⟩, fun p hp h0 q hq => ?_⟩
  rw [cntV_at hp] at h0 ⊢
  rw [cntV_at hq]
  obtain ⟨c1, c2, c3⟩ := evs_mem (h := h) (p := p) (k := cnt h p i - 1) (n := i) (by omega)
  have e1 := vk_of hh (e := (evs h p i).getD (cnt h p i - 1) 0) (by omega)
  rw [c2, c3, Nat.sub_add_cancel (by omega)] at e1
  rw [Int.toNat_natCast, e1]
  obtain ⟨r1, r2⟩ := vec_reach hh (i := (evs h p i).getD (cnt h p i - 1) 0) (by omega) hq
  rcases r2 with r2 | ⟨j, j1, j2, j3⟩
  · omega
  · have := cnt_lt (h := h) (a := j) (b := i) (by omega)
    rw [j2] at this; omega
end
end Go.Proofs.Ytcafiieffenohaa
