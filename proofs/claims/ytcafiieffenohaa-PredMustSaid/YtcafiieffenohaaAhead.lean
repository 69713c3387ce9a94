/- stamp.Ahead: its contract: which events are ahead of which. -/
import Derived.Test.YtcafiieffenohaaBase
import Derived.Test.YtcafiieffenohaaHist
namespace Go.Proofs.Ytcafiieffenohaa
open Go.Ex
set_option maxRecDepth 100000
def edgeB (h : List Ev) (a b : Nat) : Bool := decide ((h.getD a e0).1 = (h.getD b e0).1) || (decide ((h.getD a e0).2.1 = 2) && decide ((h.getD b e0).2.1 = 3) && decide ((h.getD a e0).2.2.1 = (h.getD b e0).2.2.1))
def hbRow (h : List Ev) (T : Nat → Nat → Bool) (b : Nat) : Nat → Nat → Bool
  | 0, _ => false
  | a + 1, k => hbRow h T b a k || (edgeB h a b && (decide (k = a) || T a k))
def hbTab (h : List Ev) : Nat → Nat → Nat → Bool
  | 0, _, _ => false
  | n + 1, b, k => if b = n then hbRow h (hbTab h n) n n k else hbTab h n b k
/-- is k ahead of b? -/
def hb (h : List Ev) (b k : Nat) : Bool := hbTab h (b + 1) b k
def rowPairs (h : List Ev) (a : Nat) : Nat → List (Int × Int × Unit)
  | 0 => []
  | b + 1 => rowPairs h a b ++ (if hb h b a = true then [((a : Int), (b : Int), ())] else [])
def allPairs (h : List Ev) (n : Nat) : Nat → List (Int × Int × Unit)
  | 0 => []
  | a + 1 => allPairs h n a ++ rowPairs h a n
def aheadF (h : List Ev) : List (Int × Int × Unit) × Int × Unit := if scheck h ≠ 0 then ([], scheck h, ()) else (allPairs h h.length h.length, 0, ())
def cahead : Ctr := { ps := [.v Es], rs := [.slc true PairT, I64], pre := fun _ => True, fn := fun x => aheadF x.1, out := fun _ => () }

theorem hbTab_eq {h : List Ev} : ∀ {n b : Nat}, b < n → ∀ k, hbTab h n b k = hb h b k
  | 0, _, hb, _ => by omega
  | n + 1, b, hlt, k => by
    by_cases e : b = n
    · subst e; rfl
    · simp only [hbTab, if_neg e]; exact hbTab_eq (by omega) k
theorem hbRow_congr {h : List Ev} {T T' : Nat → Nat → Bool} {b : Nat} : ∀ {a : Nat}, (∀ c, c < a → ∀ k, T c k = T' c k) → ∀ k, hbRow h T b a k = hbRow h T' b a k
  | 0, _, _ => rfl
  | a + 1, hT, k => by simp only [hbRow, hbRow_congr (a := a) (fun c hc => hT c (by omega)), hT a (by omega)]
theorem hb_row {h : List Ev} {b k : Nat} : hb h b k = hbRow h (hb h) b b k := by
  rw [hb, hbTab, if_pos rfl]
  exact hbRow_congr (fun c hc k => hbTab_eq hc k) k
theorem hbRow_iff {h : List Ev} {T : Nat → Nat → Bool} {b k : Nat} : ∀ {a : Nat}, hbRow h T b a k = true ↔ ∃ c, c < a ∧ edgeB h c b = true ∧ (k = c ∨ T c k = true)
  | 0 => by simp [hbRow]
  | a + 1 => by
    simp only [hbRow, Bool.or_eq_true, Bool.and_eq_true, decide_eq_true_eq, hbRow_iff (a := a)]
    constructor
    · rintro (⟨c, a1, a2⟩ | ⟨a1, a2⟩)
      · exact ⟨c, by omega, a2⟩
      · exact ⟨a, by omega, a1, a2⟩
    · rintro ⟨c, a1, a2, a3⟩
      by_cases e : c = a
      · subst e; exact .inr ⟨a2, a3⟩
      · exact .inl ⟨c, by omega, a2, a3⟩
theorem hb_iff {h : List Ev} {b k : Nat} : hb h b k = true ↔ ∃ c, c < b ∧ edgeB h c b = true ∧ (k = c ∨ hb h c k = true) := by rw [hb_row, hbRow_iff]

/-! the table, as it grows -/
def rowL (h : List Ev) (b : Nat) : List Bool := (List.range h.length).map (hb h b)
def rowP (h : List Ev) (b a : Nat) : List Bool := (List.range h.length).map (hbRow h (hb h) b a)
/-- behind k's turn, when a is ahead of b -/
def rowQ (h : List Ev) (b a k : Nat) : List Bool := (List.range h.length).map (fun j => hbRow h (hb h) b a j || decide (j = a) || (decide (j < k) && hb h a j))
def tabL (h : List Ev) (b : Nat) (r : List Bool) : List (List Bool) := (List.range b).map (rowL h) ++ r :: List.replicate (h.length - (b + 1)) []
theorem rowP_done {h : List Ev} {b : Nat} : rowP h b b = rowL h b := by
  refine List.map_congr_left (fun k _ => ?_)
  exact hb_row.symm
theorem rowP_zero {h : List Ev} {b : Nat} : rowP h b 0 = List.replicate h.length false := by
  refine List.ext_getElem (by simp [rowP]) (fun i h1 h2 => ?_)
  simp [rowP, hbRow]
theorem getD_map_range {α : Type} {n i : Nat} (f : Nat → α) (d : α) (hi : i < n) : ((List.range n).map f).getD i d = f i := by
  rw [List.getD_eq_getElem?_getD, List.getElem?_map, List.getElem?_range hi]; rfl
theorem set_map_range {α : Type} {n i : Nat} (f : Nat → α) (x : α) (hi : i < n) : ((List.range n).map f).set i x = (List.range n).map (fun j => if j = i then x else f j) := by
  refine List.ext_getElem (by simp) (fun j h1 h2 => ?_)
  rw [List.getElem_set]
  simp only [List.getElem_map, List.getElem_range]
  by_cases e : i = j
  · rw [if_pos e, if_pos e.symm]
  · rw [if_neg e, if_neg (fun h => e h.symm)]
theorem rowQ_zero {h : List Ev} {b a : Nat} (ha : a < h.length) : (rowP h b a).set a true = rowQ h b a 0 := by
  rw [rowP, set_map_range _ _ ha]
  refine List.map_congr_left (fun j _ => ?_)
  by_cases e : j = a
  · simp [e]
  · simp [e]
theorem rowQ_step {h : List Ev} {b a k : Nat} (hk : k < h.length) : (rowQ h b a k).set k ((rowQ h b a k).getD k false || hb h a k) = rowQ h b a (k + 1) := by
  rw [rowQ, getD_map_range _ _ hk, set_map_range _ _ hk]
  refine List.map_congr_left (fun j _ => ?_)
  by_cases e : j = k
  · subst e
    rw [if_pos rfl]
    simp [show ¬ j < j by omega, show j < j + 1 by omega]
  · rw [if_neg e, show decide (j < k + 1) = decide (j < k) from decide_eq_decide.2 (by omega)]
theorem rowQ_done {h : List Ev} {b a : Nat} (he : edgeB h a b = true) : rowQ h b a h.length = rowP h b (a + 1) := by
  refine List.map_congr_left (fun j hj => ?_)
  have hj : j < h.length := List.mem_range.1 hj
  simp [hbRow, he, hj, Bool.or_assoc]
theorem rowP_skip {h : List Ev} {b a : Nat} (he : edgeB h a b = false) : rowP h b (a + 1) = rowP h b a := by
  refine List.map_congr_left (fun j _ => ?_)
  simp [hbRow, he]
theorem tabL_len {h : List Ev} {b : Nat} {r : List Bool} (hb : b < h.length) : (tabL h b r).length = h.length := by simp [tabL]; omega
theorem tabL_at {h : List Ev} {b : Nat} {r : List Bool} : (tabL h b r).getD b [] = r := by
  rw [tabL, List.getD_eq_getElem?_getD, List.getElem?_append_right (by simp)]; simp
theorem tabL_old {h : List Ev} {b a : Nat} {r : List Bool} (hab : a < b) : (tabL h b r).getD a [] = rowL h a := by
  rw [tabL, List.getD_eq_getElem?_getD, List.getElem?_append_left (by simpa using hab), List.getElem?_map, List.getElem?_range hab]; rfl
theorem tabL_set {h : List Ev} {b : Nat} {r x : List Bool} : (tabL h b r).set b x = tabL h b x := by
  rw [tabL, List.set_append, if_neg (by simp)]; simp [tabL]
theorem tab_first {h : List Ev} {b : Nat} (hb : b < h.length) (x : List Bool) : ((List.range b).map (rowL h) ++ List.replicate (h.length - b) []).set b x = tabL h b x := by
  rw [List.set_append, if_neg (by simp), show h.length - b = (h.length - (b + 1)) + 1 by omega, List.replicate_succ]; simp [tabL]
theorem tab_next {h : List Ev} {b : Nat} (hb : b < h.length) : tabL h b (rowL h b) = (List.range (b + 1)).map (rowL h) ++ List.replicate (h.length - (b + 1)) [] := by
  rw [tabL, List.range_succ, List.map_append, List.append_assoc]; rfl
theorem rowL_len {h : List Ev} {a : Nat} : (rowL h a).length = h.length := by simp [rowL]
theorem rowP_len {h : List Ev} {b a : Nat} : (rowP h b a).length = h.length := by simp [rowP]
theorem rowQ_len {h : List Ev} {b a k : Nat} : (rowQ h b a k).length = h.length := by simp [rowQ]
theorem rowL_at {h : List Ev} {a k : Nat} (hk : k < h.length) : (rowL h a).getD k false = hb h a k := getD_map_range _ _ hk
theorem take_getD {α : Type} {l : List α} {a b : Nat} {d : α} (h : a < b) : (l.take b).getD a d = l.getD a d := by
  rw [List.getD_eq_getElem?_getD, List.getD_eq_getElem?_getD, List.getElem?_take, if_pos h]
theorem rowPairs_len {h : List Ev} {a : Nat} : ∀ {b : Nat}, (rowPairs h a b).length ≤ b
  | 0 => by simp [rowPairs]
  | b + 1 => by
    have := rowPairs_len (h := h) (a := a) (b := b)
    simp only [rowPairs, List.length_append]
    split <;> simp <;> omega
theorem allPairs_len {h : List Ev} {n : Nat} (hn : n ≤ 60) : ∀ {a : Nat}, (allPairs h n a).length ≤ a * 60
  | 0 => by simp [allPairs]
  | a + 1 => by
    have h1 := allPairs_len (h := h) hn (a := a)
    have h2 := rowPairs_len (h := h) (a := a) (b := n)
    simp only [allPairs, List.length_append]
    omega
theorem cut_take {α : Type} (l : List α) (n : Nat) : cut2 0 (n : Int) l = l.take n := by simp [cut2]
theorem wb_slc (o : Bool) (t : Ty) : Ty.wb (.slc o t) = 24 := rfl
theorem wb_bool : Ty.wb .bool = 1 := rfl

end Go.Proofs.Ytcafiieffenohaa
