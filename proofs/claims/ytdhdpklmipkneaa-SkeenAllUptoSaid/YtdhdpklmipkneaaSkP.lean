/- Skeen's numbers: what a process may be, what an offer and a fixing make of it (plain). No condition but those named. -/
import Derived.Test.YtdhdpklmipkneaaSkA
namespace Go.Proofs.Ytdhdpklmipkneaa
open Go.Ex Go.Sort
set_option maxRecDepth 100000
abbrev SkD : Type := Int × Int × List WaitD × Unit
abbrev dW : WaitD := (0, (0, 0, ()), false, ())
def waitE (me clk : Int) (ws : List WaitD) (i : Nat) : Int :=
  if inF (ws.getD i dW).2.1.1 1 clk = false then 1 else if inF (ws.getD i dW).2.1.2.1 0 5 = false then 1 else if (ws.getD i dW).1 < 0 then 1
  else if (ws.getD i dW).2.2.1 = false ∧ (ws.getD i dW).2.1.2.1 ≠ me then 4 else if 0 < i ∧ ncmp (ws.getD i dW).2.1 (ws.getD (i - 1) dW).2.1 ≤ 0 then 4
  else if (ws.take i).any (sameId (ws.getD i dW).1) = true then 4 else 0
def firstE (f : Nat → Int) : List Nat → Int
  | [] => 0
  | i :: l => if f i ≠ 0 then f i else firstE f l
def headF : List WaitD → Bool
  | [] => false
  | w :: _ => w.2.2.1
def checkE (s : SkD) : Int :=
  if inF s.1 0 5 = false then 1 else if inF s.2.1 0 16777215 = false then 1 else if 40 < s.2.2.1.length then 2
  else if firstE (waitE s.1 s.2.1 s.2.2.1) (List.range' 0 s.2.2.1.length) ≠ 0 then firstE (waitE s.1 s.2.1 s.2.2.1) (List.range' 0 s.2.2.1.length)
  else if headF s.2.2.1 = true then 4 else 0
def noS : SkD := (0, 0, [], ())
def noN : NumD := (0, 0, ())
def offerF (s : SkD) (id : Int) : SkD × NumD × Int × Unit :=
  if checkE s ≠ 0 then (noS, noN, checkE s, ()) else if id < 0 then (noS, noN, 1, ()) else if s.2.2.1.any (sameId id) = true then (noS, noN, 7, ()) else if s.2.2.1.length = 40 then (noS, noN, 8, ())
  else if s.2.1 = 16777215 then (noS, noN, 8, ()) else ((s.1, s.2.1 + 1, s.2.2.1 ++ [(id, (s.2.1 + 1, s.1, ()), false, ())], ()), (s.2.1 + 1, s.1, ()), 0, ())
def fixedW (w : WaitD) : Bool := w.2.2.1
def fixL (ws : List WaitD) (id : Int) (n : NumD) : List WaitD := sortBy (ltD wcmp) (ws.set (idxOf (openId id) ws).toNat ((ws.getD (idxOf (openId id) ws).toNat dW).1, n, true, ()))
def fixF (s : SkD) (id : Int) (n : NumD) : SkD × List Int × Int × Unit :=
  if checkE s ≠ 0 then (noS, [], checkE s, ()) else if inF n.1 1 16777215 = false then (noS, [], 1, ()) else if inF n.2.1 0 5 = false then (noS, [], 1, ()) else if idxOf (openId id) s.2.2.1 < 0 then (noS, [], 6, ())
  else if ncmp n (s.2.2.1.getD (idxOf (openId id) s.2.2.1).toNat dW).2.1 < 0 then (noS, [], 10, ()) else if s.2.2.1.any (taken id n) = true then (noS, [], 10, ())
  else ((s.1, if s.2.1 < n.1 then n.1 else s.2.1, (fixL s.2.2.1 id n).dropWhile fixedW, ()), ((fixL s.2.2.1 id n).takeWhile fixedW).map (·.1), 0, ())

/-! ### what checks say -/
theorem firstE_ok {f : Nat → Int} : ∀ {l : List Nat}, firstE f l = 0 ↔ ∀ i ∈ l, f i = 0
  | [] => by simp [firstE]
  | i :: l => by
    unfold firstE
    by_cases h : f i = 0
    · rw [if_neg (fun g => g h), firstE_ok (l := l)]
      simp [h]
    · rw [if_pos h]
      exact ⟨fun g => absurd g h, fun g => absurd (g i (by simp)) h⟩
def WOk (me clk : Int) (w : WaitD) : Prop := (1 ≤ w.2.1.1 ∧ w.2.1.1 ≤ clk) ∧ (0 ≤ w.2.1.2.1 ∧ w.2.1.2.1 ≤ 5) ∧ 0 ≤ w.1 ∧ (w.2.2.1 = false → w.2.1.2.1 = me)
theorem ncmp_gt {a b : NumD} : ¬ ncmp a b ≤ 0 ↔ ncmp b a < 0 := by rw [ncmp_le, ncmp_lt]; omega
theorem waitE_ok {me clk : Int} {ws : List WaitD} {i : Nat} : waitE me clk ws i = 0 ↔ WOk me clk (ws.getD i dW) ∧ (0 < i → ncmp (ws.getD (i - 1) dW).2.1 (ws.getD i dW).2.1 < 0) ∧ (ws.take i).any (sameId (ws.getD i dW).1) = false := by
  unfold waitE WOk
  generalize ws.getD i dW = w
  generalize ws.getD (i - 1) dW = v
  generalize (ws.take i).any (sameId w.1) = an
  simp only [inF_not, ← ncmp_gt]
  split
  · rename_i h; exact ⟨fun g => (by cases g), fun g => absurd g.1.1 h⟩
  · rename_i h1
    split
    · rename_i h; exact ⟨fun g => (by cases g), fun g => absurd g.1.2.1 h⟩
    · rename_i h2
      split
      · rename_i h; exact ⟨fun g => (by cases g), fun g => by have := g.1.2.2.1; omega⟩
      · rename_i h3
        split
        · rename_i h; exact ⟨fun g => (by cases g), fun g => absurd (g.1.2.2.2 h.1) h.2⟩
        · rename_i h4
          split
          · rename_i h; exact ⟨fun g => (by cases g), fun g => absurd h.2 (g.2.1 h.1)⟩
          · rename_i h5
            split
            · rename_i h; exact ⟨fun g => (by cases g), fun g => by rw [g.2.2] at h; cases h⟩
            · rename_i h6
              refine ⟨fun _ => ⟨⟨Decidable.not_not.1 h1, Decidable.not_not.1 h2, by omega, fun hf => ?_⟩, fun hi hc => h5 ⟨hi, hc⟩, by simpa using h6⟩, fun _ => rfl⟩
              exact Decidable.not_not.1 (fun hne => h4 ⟨hf, hne⟩)
structure SkOk (s : SkD) : Prop where
  me : 0 ≤ s.1 ∧ s.1 ≤ 5
  clk : 0 ≤ s.2.1 ∧ s.2.1 ≤ 16777215
  len : s.2.2.1.length ≤ 40
  num : ∀ w ∈ s.2.2.1, WOk s.1 s.2.1 w
  inc : s.2.2.1.Pairwise (fun a b => ncmp a.2.1 b.2.1 < 0)
  ids : s.2.2.1.Pairwise (fun a b => a.1 ≠ b.1)
  hd : headF s.2.2.1 = false
theorem ncmp_trans {a b c : NumD} (h1 : ncmp a b < 0) (h2 : ncmp b c < 0) : ncmp a c < 0 := by rw [ncmp_lt] at *; omega
theorem waits_ok {me clk : Int} {ws : List WaitD} : (∀ i, i < ws.length → waitE me clk ws i = 0) ↔ (∀ w ∈ ws, WOk me clk w) ∧ ws.Pairwise (fun a b => ncmp a.2.1 b.2.1 < 0) ∧ ws.Pairwise (fun a b => a.1 ≠ b.1) := by
  have hg : ∀ i, (h : i < ws.length) → ws.getD i dW = ws[i] := fun i h => by rw [List.getD_eq_getElem?_getD, List.getElem?_eq_getElem h]; rfl
  constructor
  · intro h
    refine ⟨fun w hw => ?_, List.pairwise_iff_getElem.2 ?_, List.pairwise_iff_getElem.2 ?_⟩
    · obtain ⟨i, hi, rfl⟩ := List.getElem_of_mem hw
      rw [← hg i hi]
      exact (waitE_ok.1 (h i hi)).1
    · have key : ∀ j, (hj : j < ws.length) → ∀ i, (hi : i < j) → ncmp (ws[i]'(by omega)).2.1 ws[j].2.1 < 0 := by
        intro j
        induction j with
        | zero => intro _ i hi; omega
        | succ j ih =>
          intro hj i hi
          have h1 := (waitE_ok.1 (h (j + 1) hj)).2.1 (by omega)
          rw [Nat.add_sub_cancel, hg j (by omega), hg (j + 1) hj] at h1
          by_cases hij : i = j
          · subst hij; exact h1
          · exact ncmp_trans (ih (by omega) i (by omega)) h1
      intro i j hi hj hij
      exact key j hj i hij
    · intro i j hi hj hij e
      have h1 := (waitE_ok.1 (h j hj)).2.2
      rw [hg j hj, List.any_eq_false] at h1
      refine h1 ws[i] ?_ ?_
      · rw [List.mem_take_iff_getElem]
        exact ⟨i, by omega, rfl⟩
      · rw [sameId, decide_eq_true_eq]; exact e
  · rintro ⟨h1, h2, h3⟩ i hi
    rw [List.pairwise_iff_getElem] at h2 h3
    refine waitE_ok.2 ⟨by rw [hg i hi]; exact h1 _ (List.getElem_mem ..), fun h0 => ?_, ?_⟩
    · rw [hg i hi, hg (i - 1) (by omega)]
      exact h2 (i - 1) i (by omega) hi (by omega)
    · rw [List.any_eq_false]
      intro w hw
      obtain ⟨j, hj, rfl⟩ := List.mem_take_iff_getElem.1 hw
      rw [hg i hi, sameId, decide_eq_true_eq]
      exact h3 j i (by omega) hi (by omega)
theorem checkE_ok {s : SkD} : checkE s = 0 ↔ SkOk s := by
  have hw : firstE (waitE s.1 s.2.1 s.2.2.1) (List.range' 0 s.2.2.1.length) = 0 ↔ ∀ i, i < s.2.2.1.length → waitE s.1 s.2.1 s.2.2.1 i = 0 := by
    rw [firstE_ok]
    exact ⟨fun h i hi => h i (by rw [List.mem_range'_1]; omega), fun h i hi => h i (by rw [List.mem_range'_1] at hi; omega)⟩
  rw [waits_ok] at hw
  unfold checkE
  simp only [inF_not]
  constructor
  · intro h
    split at h
    · cases h
    · rename_i h1
      split at h
      · cases h
      · rename_i h2
        split at h
        · cases h
        · rename_i h3
          split at h
          · rename_i h4; exact absurd h h4
          · rename_i h4
            obtain ⟨g1, g2, g3⟩ := hw.1 (Decidable.not_not.1 h4)
            split at h
            · cases h
            · rename_i h5
              exact ⟨Decidable.not_not.1 h1, Decidable.not_not.1 h2, by omega, g1, g2, g3, by simpa using h5⟩
  · rintro ⟨h1, h2, h3, h4, h5, h6, h7⟩
    rw [if_neg (fun g => g h1), if_neg (fun g => g h2), if_neg (by omega), if_neg (fun g => g (hw.2 ⟨h4, h5, h6⟩)), if_neg (by rw [h7]; simp)]

/-! ### an offer -/
theorem offer_ok {s : SkD} (h : SkOk s) {id : Int} (h1 : 0 ≤ id) (h2 : s.2.2.1.any (sameId id) = false) (h3 : s.2.2.1.length ≠ 40) (h4 : s.2.1 ≠ 16777215) : SkOk (s.1, s.2.1 + 1, s.2.2.1 ++ [(id, (s.2.1 + 1, s.1, ()), false, ())], ()) := by
  obtain ⟨a1, a2, a3, a4, a5, a6, a7⟩ := h
  refine ⟨a1, ⟨?_, ?_⟩, ?_, fun w hw => ?_, ?_, ?_, ?_⟩
  · show 0 ≤ s.2.1 + 1; omega
  · show s.2.1 + 1 ≤ 16777215; omega
  · show (s.2.2.1 ++ [_]).length ≤ 40
    rw [List.length_append]
    show s.2.2.1.length + 1 ≤ 40
    omega
  · rcases List.mem_append.1 hw with hw | hw
    · obtain ⟨b1, b2⟩ := a4 w hw
      refine ⟨⟨b1.1, ?_⟩, b2⟩
      show w.2.1.1 ≤ s.2.1 + 1
      omega
    · rw [List.mem_singleton] at hw
      subst hw
      refine ⟨⟨?_, Int.le_refl _⟩, a1, h1, fun _ => rfl⟩
      show 1 ≤ s.2.1 + 1
      omega
  · refine List.pairwise_append.2 ⟨a5, List.pairwise_singleton .., fun a ha b hb => ?_⟩
    rw [List.mem_singleton] at hb
    subst hb
    rw [ncmp_lt]
    left
    show a.2.1.1 < s.2.1 + 1
    have := (a4 a ha).1.2
    omega
  · refine List.pairwise_append.2 ⟨a6, List.pairwise_singleton .., fun a ha b hb => ?_⟩
    rw [List.mem_singleton] at hb
    subst hb
    rw [List.any_eq_false] at h2
    have := h2 a ha
    rw [sameId, decide_eq_true_eq] at this
    exact this
  · show headF (s.2.2.1 ++ [_]) = false
    cases hl : s.2.2.1 with
    | nil => rfl
    | cons x l => rw [hl] at a7; exact a7

/-! ### a fixing -/
theorem wcmp_eq {a b : NumD} (h1 : ¬ ncmp a b < 0) (h2 : ¬ ncmp b a < 0) : a = b := by
  rw [ncmp_lt] at h1 h2
  obtain ⟨a1, a2, ⟨⟩⟩ := a
  obtain ⟨b1, b2, ⟨⟩⟩ := b
  have h1 : ¬ (a1 < b1 ∨ (a1 = b1 ∧ a2 < b2)) := h1
  have h2 : ¬ (b1 < a1 ∨ (b1 = a1 ∧ b2 < a2)) := h2
  rw [show a1 = b1 by omega, show a2 = b2 by omega]
theorem ncmp_self {a : NumD} : ¬ ncmp a a < 0 := by rw [ncmp_lt]; omega
theorem idxGo_in {α : Type} {p : α → Bool} {d : α} : ∀ {l : List α} {j : Nat}, ¬ idxGo p l j < 0 → ∃ k, idxGo p l j = ((j + k : Nat) : Int) ∧ k < l.length ∧ p (l.getD k d) = true
  | [], j, h => absurd (show idxGo p [] j < 0 by rw [idxGo]; decide) h
  | x :: l, j, h => by
    by_cases hx : p x = true
    · exact ⟨0, by rw [idxGo, if_pos hx]; rfl, by simp, hx⟩
    · rw [idxGo, if_neg hx] at h ⊢
      obtain ⟨k, h1, h2, h3⟩ := idxGo_in (d := d) h
      exact ⟨k + 1, by rw [h1]; congr 1; omega, by simp [h2], h3⟩
theorem idx_in {α : Type} {p : α → Bool} {l : List α} {d : α} (h : ¬ idxOf p l < 0) : (idxOf p l).toNat < l.length ∧ p (l.getD (idxOf p l).toNat d) = true := by
  obtain ⟨k, h1, h2, h3⟩ := idxGo_in (d := d) h
  have : idxOf p l = ((0 + k : Nat) : Int) := h1
  rw [this, Int.toNat_natCast, Nat.zero_add]
  exact ⟨h2, h3⟩
/-- what is at the place found -/
theorem openK {ws : List WaitD} {id : Int} (h : ¬ idxOf (openId id) ws < 0) : (idxOf (openId id) ws).toNat < ws.length ∧ (ws.getD (idxOf (openId id) ws).toNat dW).1 = id ∧ (ws.getD (idxOf (openId id) ws).toNat dW).2.2.1 = false := by
  obtain ⟨h1, h2⟩ := idx_in (d := dW) h
  simp only [openId, Bool.and_eq_true, decide_eq_true_eq, Bool.not_eq_true'] at h2
  exact ⟨h1, h2.1, h2.2⟩
section
variable {ws : List WaitD} {k : Nat} {id : Int} {n : NumD}
theorem set_ids (hk : k < ws.length) (hid : ws[k].1 = id) : (ws.set k (id, n, true, ())).map (·.1) = ws.map (·.1) := by
  refine List.ext_getElem (by simp) (fun i h1 h2 => ?_)
  simp only [List.getElem_map, List.getElem_set]
  split
  · rename_i e; subst e; exact hid.symm
  · rfl
theorem set_nums (hk : k < ws.length) (hid : ws[k].1 = id) (h5 : ws.Pairwise (fun a b => ncmp a.2.1 b.2.1 < 0)) (h6 : ws.Pairwise (fun a b => a.1 ≠ b.1)) (ht : ws.any (taken id n) = false) : (ws.set k (id, n, true, ())).Pairwise (fun a b => a.2.1 ≠ b.2.1) := by
  rw [List.pairwise_iff_getElem] at h5 h6 ⊢
  rw [List.any_eq_false] at ht
  have hother : ∀ i, (hi : i < ws.length) → i ≠ k → ws[i].2.1 ≠ n := by
    intro i hi hik e
    have := ht ws[i] (List.getElem_mem ..)
    rw [taken, Bool.and_eq_true, Bool.not_eq_true', decide_eq_false_iff_not, decide_eq_true_eq] at this
    refine this ⟨fun e2 => ?_, e⟩
    rcases Nat.lt_or_gt_of_ne hik with h | h
    · exact h6 i k hi hk h (e2.trans hid.symm)
    · exact h6 k i hk hi h (hid.trans e2.symm)
  intro i j hi hj hij
  rw [List.length_set] at hi hj
  rw [List.getElem_set, List.getElem_set]
  split
  · rename_i e
    rw [if_neg (by omega)]
    exact fun e9 => hother j hj (by omega) e9.symm
  · rename_i e
    split
    · exact hother i hi (by omega)
    · intro e9
      have := h5 i j hi hj hij
      rw [e9] at this
      exact ncmp_self this
theorem noTie {l : List WaitD} (h : l.Pairwise (fun a b => a.2.1 ≠ b.2.1)) : ∀ a ∈ l, ∀ b ∈ l, ltD wcmp a b = false → ltD wcmp b a = false → a = b := by
  intro a ha b hb h1 h2
  rw [ltD, decide_eq_false_iff_not, wcmp] at h1 h2
  have e := wcmp_eq h1 h2
  obtain ⟨i, hi, rfl⟩ := List.getElem_of_mem ha
  obtain ⟨j, hj, rfl⟩ := List.getElem_of_mem hb
  rw [List.pairwise_iff_getElem] at h
  rcases Nat.lt_trichotomy i j with g | g | g
  · exact absurd e (h i j hi hj g)
  · subst g; rfl
  · exact absurd e.symm (h j i hj hi g)
end
theorem set2 {ws : List WaitD} {k : Nat} (hk : k < ws.length) (v : Int) (n : NumD) : (ws.set k (v, n, (ws.getD k (0, (0, 0, ()), false, ())).2.2)).set k (((ws.set k (v, n, (ws.getD k (0, (0, 0, ()), false, ())).2.2)).getD k (0, (0, 0, ()), false, ())).1, ((ws.set k (v, n, (ws.getD k (0, (0, 0, ()), false, ())).2.2)).getD k (0, (0, 0, ()), false, ())).2.1, true, ((ws.set k (v, n, (ws.getD k (0, (0, 0, ()), false, ())).2.2)).getD k (0, (0, 0, ()), false, ())).2.2.2) = ws.set k (v, n, true, ()) := by
  have e : (ws.set k (v, n, (ws.getD k (0, (0, 0, ()), false, ())).2.2)).getD k (0, (0, 0, ()), false, ()) = (v, n, (ws.getD k (0, (0, 0, ()), false, ())).2.2) := by
    rw [List.getD_eq_getElem?_getD, List.getElem?_set_self hk]; rfl
  rw [e, List.set_set]
theorem fix_tie {me clk : Int} {ws : List WaitD} (h : SkOk (me, clk, ws, ())) {id : Int} {n : NumD} (h3 : ¬ idxOf (openId id) ws < 0) (h4 : ws.any (taken id n) = false) : ∀ a ∈ ws.set (idxOf (openId id) ws).toNat ((ws.getD (idxOf (openId id) ws).toNat dW).1, n, true, ()), ∀ b ∈ ws.set (idxOf (openId id) ws).toNat ((ws.getD (idxOf (openId id) ws).toNat dW).1, n, true, ()), ltD wcmp a b = false → ltD wcmp b a = false → a = b := by
  obtain ⟨k1, k2, k3⟩ := openK h3
  have a5 : ws.Pairwise (fun a b => ncmp a.2.1 b.2.1 < 0) := h.inc
  have a6 : ws.Pairwise (fun a b => a.1 ≠ b.1) := h.ids
  rw [k2]
  generalize (idxOf (openId id) ws).toNat = k at *
  have hg : ws.getD k dW = ws[k] := by rw [List.getD_eq_getElem?_getD, List.getElem?_eq_getElem k1]; rfl
  rw [hg] at k2
  exact noTie (set_nums k1 k2 a5 a6 h4)
theorem headF_drop : ∀ l : List WaitD, headF (l.dropWhile fixedW) = false
  | [] => rfl
  | w :: l => by
    rw [List.dropWhile_cons]
    split
    · exact headF_drop l
    · rename_i h; simpa [headF, fixedW] using h
/-- what is fixed is in order -/
theorem fix_ok {s : SkD} (h : SkOk s) {id : Int} {n : NumD} (h1 : 1 ≤ n.1 ∧ n.1 ≤ 16777215) (h2 : 0 ≤ n.2.1 ∧ n.2.1 ≤ 5) (h3 : ¬ idxOf (openId id) s.2.2.1 < 0) (h4 : s.2.2.1.any (taken id n) = false) :
    (fixL s.2.2.1 id n).Perm (s.2.2.1.set (idxOf (openId id) s.2.2.1).toNat (id, n, true, ())) ∧ (fixL s.2.2.1 id n).Pairwise (fun a b => ncmp a.2.1 b.2.1 < 0) ∧
    SkOk (s.1, if s.2.1 < n.1 then n.1 else s.2.1, (fixL s.2.2.1 id n).dropWhile fixedW, ()) := by
  obtain ⟨me, clk, ws, ⟨⟩⟩ := s
  obtain ⟨a1, a2, a3, a4, a5, a6, a7⟩ := h
  have a1 : 0 ≤ me ∧ me ≤ 5 := a1
  have a2 : 0 ≤ clk ∧ clk ≤ 16777215 := a2
  have a3 : ws.length ≤ 40 := a3
  have a4 : ∀ w ∈ ws, WOk me clk w := a4
  have a5 : ws.Pairwise (fun a b => ncmp a.2.1 b.2.1 < 0) := a5
  have a6 : ws.Pairwise (fun a b => a.1 ≠ b.1) := a6
  have h3 : ¬ idxOf (openId id) ws < 0 := h3
  have h4 : ws.any (taken id n) = false := h4
  obtain ⟨k1, k2, k3⟩ := openK h3
  show (fixL ws id n).Perm (ws.set (idxOf (openId id) ws).toNat (id, n, true, ())) ∧ (fixL ws id n).Pairwise (fun a b => ncmp a.2.1 b.2.1 < 0) ∧ SkOk (me, if clk < n.1 then n.1 else clk, (fixL ws id n).dropWhile fixedW, ())
  unfold fixL
  rw [k2]
  generalize (idxOf (openId id) ws).toNat = k at *
  have hg : ws.getD k dW = ws[k] := by rw [List.getD_eq_getElem?_getD, List.getElem?_eq_getElem k1]; rfl
  rw [hg] at k2 k3
  have hn := set_nums k1 k2 a5 a6 h4
  have hp := sortBy_perm (ltD wcmp) (ws.set k (id, n, true, ()))
  have hs := sortBy_sorted swoW (ws.set k (id, n, true, ()))
  generalize hL : sortBy (ltD wcmp) (ws.set k (id, n, true, ())) = L at *
  have hn2 : L.Pairwise (fun a b => a.2.1 ≠ b.2.1) := hp.symm.pairwise hn (fun h e => h e.symm)
  have hinc : L.Pairwise (fun a b => ncmp a.2.1 b.2.1 < 0) := (hs.and hn2).imp (fun {a b} h => by
    obtain ⟨g1, g2⟩ := h
    rw [ltD, decide_eq_false_iff_not, wcmp] at g1
    exact Decidable.by_contra (fun g3 => g2 (wcmp_eq g3 g1)))
  have hsub := List.dropWhile_sublist fixedW (l := L)
  have hwok : ∀ w ∈ L, WOk me (if clk < n.1 then n.1 else clk) w := by
    intro w hw
    have hw := hp.mem_iff.1 hw
    rcases List.mem_or_eq_of_mem_set hw with hw | hw
    · obtain ⟨b1, b2⟩ := a4 w hw
      exact ⟨⟨b1.1, by split <;> omega⟩, b2⟩
    · subst hw
      refine ⟨⟨h1.1, ?_⟩, h2, ?_, fun e => by cases e⟩
      · show n.1 ≤ _; split <;> omega
      · have := (a4 _ (List.getElem_mem k1)).2.2.1
        rw [k2] at this; exact this
  refine ⟨hp, hinc, ⟨a1, ?_, ?_, fun w hw => hwok w (hsub.subset hw), hinc.sublist hsub, ?_, headF_drop L⟩⟩
  · show 0 ≤ (if clk < n.1 then n.1 else clk) ∧ (if clk < n.1 then n.1 else clk) ≤ 16777215
    split <;> omega
  · have e1 := hsub.length_le
    have e2 := hp.length_eq
    rw [List.length_set] at e2
    show (L.dropWhile fixedW).length ≤ 40
    omega
  · have e1 : (ws.set k (id, n, true, ())).Pairwise (fun a b => a.1 ≠ b.1) := by
      have : ((ws.set k (id, n, true, ())).map (·.1)).Pairwise (· ≠ ·) := by rw [set_ids k1 k2]; exact List.pairwise_map.2 a6
      exact List.pairwise_map.1 this
    have e2 : L.Pairwise (fun a b => a.1 ≠ b.1) := hp.symm.pairwise e1 (fun h e => h e.symm)
    exact e2.sublist hsub
end Go.Proofs.Ytdhdpklmipkneaa
