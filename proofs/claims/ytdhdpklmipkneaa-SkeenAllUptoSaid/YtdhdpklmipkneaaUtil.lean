/- Small things of lists and numbers. No condition but those named. -/
import Derived.Test.YtdhdpklmipkneaaTys
namespace Go.Proofs.Ytdhdpklmipkneaa
open Go.Ex
set_option maxRecDepth 100000
theorem inK_i64 {n : Int} : inK .i64 n ↔ -9223372036854775808 ≤ n ∧ n ≤ 9223372036854775807 := Iff.rfl
theorem wb_i64 : Ty.wb (Ty.int IntKind.i64) = 8 := rfl
theorem wb_u8 : Ty.wb (Ty.int IntKind.u8) = 1 := rfl
theorem wb_bool : Ty.wb .bool = 1 := rfl
theorem yes : ((true, ()) : Bool × Unit) = (true, ()) := rfl
theorem yesd {p : Prop} [Decidable p] (h : p) : ((decide p, ()) : Bool × Unit) = (true, ()) := by rw [decide_eq_true h]
theorem drop_getD {α : Type} {l : List α} {i : Nat} (h : i < l.length) (d : α) : l.drop i = l.getD i d :: l.drop (i + 1) := by
  rw [List.drop_eq_getElem_cons h, List.getD_eq_getElem?_getD, List.getElem?_eq_getElem h]; rfl
theorem getD_mem {α : Type} {l : List α} {i : Nat} {d : α} (h : i < l.length) : l.getD i d ∈ l := by
  rw [List.getD_eq_getElem?_getD, List.getElem?_eq_getElem h]; exact List.getElem_mem h
theorem mem_getD {α : Type} {l : List α} {x d : α} (h : x ∈ l) : ∃ i, i < l.length ∧ l.getD i d = x := by
  obtain ⟨i, hi, e⟩ := List.getElem_of_mem h
  exact ⟨i, hi, by rw [List.getD_eq_getElem?_getD, List.getElem?_eq_getElem hi, e]; rfl⟩
theorem getD_set {α : Type} {l : List α} {i j : Nat} {x d : α} (h : i < l.length) : (l.set i x).getD j d = if j = i then x else l.getD j d := by
  rw [List.getD_eq_getElem?_getD, List.getD_eq_getElem?_getD, List.getElem?_set]
  by_cases e : i = j
  · subst e; simp [h]
  · rw [if_neg e, if_neg (fun h => e h.symm)]
theorem eq_of_getD {α : Type} {l m : List α} {d : α} (hl : l.length = m.length) (h : ∀ i, i < l.length → l.getD i d = m.getD i d) : l = m := by
  refine List.ext_getElem hl (fun i h1 h2 => ?_)
  have := h i h1
  rwa [List.getD_eq_getElem?_getD, List.getD_eq_getElem?_getD, List.getElem?_eq_getElem h1, List.getElem?_eq_getElem h2] at this
theorem getD_map_range {α : Type} {n i : Nat} (f : Nat → α) (d : α) (hi : i < n) : ((List.range n).map f).getD i d = f i := by
  rw [List.getD_eq_getElem?_getD, List.getElem?_map, List.getElem?_range hi]; rfl
theorem set_map_range {α : Type} {n i : Nat} (f : Nat → α) (x : α) (hi : i < n) : ((List.range n).map f).set i x = (List.range n).map (fun j => if j = i then x else f j) := by
  refine List.ext_getElem (by simp) (fun j h1 h2 => ?_)
  rw [List.getElem_set]
  simp only [List.getElem_map, List.getElem_range]
  by_cases e : i = j
  · rw [if_pos e, if_pos e.symm]
  · rw [if_neg e, if_neg (fun h => e h.symm)]
theorem map_range_getD {α : Type} {l : List α} {n : Nat} {d : α} (hl : l.length = n) : (List.range n).map (fun j => l.getD j d) = l := by
  refine List.ext_getElem (by simp [hl]) (fun j h1 h2 => ?_)
  simp only [List.getElem_map, List.getElem_range]
  rw [List.getD_eq_getElem?_getD, List.getElem?_eq_getElem h2]; rfl
theorem getD_app_left {α : Type} {l m : List α} {i : Nat} {d : α} (h : i < l.length) : (l ++ m).getD i d = l.getD i d := by
  rw [List.getD_eq_getElem?_getD, List.getD_eq_getElem?_getD, List.getElem?_append_left h]
theorem getD_app_right {α : Type} {l m : List α} {i : Nat} {d : α} (h : l.length ≤ i) : (l ++ m).getD i d = m.getD (i - l.length) d := by
  rw [List.getD_eq_getElem?_getD, List.getD_eq_getElem?_getD, List.getElem?_append_right h]
theorem getD_app_last {α : Type} {l : List α} {x d : α} : (l ++ [x]).getD l.length d = x := by
  rw [List.getD_eq_getElem?_getD]; simp
theorem repF {α : Type} (n : Nat) (x : α) {j : Nat} (hj : j < n) (d : α) : (List.replicate n x).getD j d = x := by rw [List.getD_eq_getElem?_getD, List.getElem?_replicate, if_pos hj]; rfl
theorem getD_map' {α β : Type} {f : α → β} {l : List α} {i : Nat} {d : β} {d' : α} (hi : i < l.length) : (l.map f).getD i d = f (l.getD i d') := by
  rw [List.getD_eq_getElem?_getD, List.getD_eq_getElem?_getD, List.getElem?_map, List.getElem?_eq_getElem hi]; rfl
/-- different numbers below n are at most n -/
theorem few_below : ∀ {n : Nat} {l : List Nat}, l.Nodup → (∀ x ∈ l, x < n) → l.length ≤ n
  | 0, [], _, _ => Nat.le_refl _
  | 0, x :: l, _, h => absurd (h x (by simp)) (by omega)
  | n + 1, l, hn, h => by
    have h1 := few_below (n := n) (l := l.filter (fun x => decide (x < n))) (hn.filter _) (fun x hx => of_decide_eq_true (List.mem_filter.1 hx).2)
    have h2 : ∀ {l : List Nat}, l.Nodup → (∀ x ∈ l, x < n + 1) → l.length ≤ (l.filter (fun x => decide (x < n))).length + 1 := by
      intro l
      induction l with
      | nil => intro _ _; simp
      | cons x l ih =>
        intro hn h
        obtain ⟨hx, hn'⟩ := List.nodup_cons.1 hn
        by_cases e : x < n
        · have := ih hn' (fun y hy => h y (by simp [hy]))
          rw [List.filter_cons, if_pos (decide_eq_true e)]
          simp only [List.length_cons]; omega
        · have ex : x = n := by have := h x (by simp); omega
          rw [List.filter_cons, if_neg (by simp [e])]
          have : l.filter (fun x => decide (x < n)) = l := List.filter_eq_self.2 (fun y hy => decide_eq_true (by
            have h3 := h y (by simp [hy])
            rcases Nat.lt_or_ge y n with h4 | h4
            · exact h4
            · exfalso
              have : y = n := by omega
              exact hx (by rw [ex, ← this]; exact hy)))
          rw [this]; simp
    have := h2 hn h
    omega
/-- sums over the first n numbers -/
def sumN (f : Nat → Int) : Nat → Int
  | 0 => 0
  | n + 1 => sumN f n + f n
theorem sumN_le {f g : Nat → Int} : ∀ {n : Nat}, (∀ i, i < n → f i ≤ g i) → sumN f n ≤ sumN g n
  | 0, _ => Int.le_refl _
  | n + 1, h => by have h1 := sumN_le (n := n) (fun i hi => h i (by omega)); have h2 := h n (by omega); simp only [sumN]; omega
theorem sumN_congr {f g : Nat → Int} {n : Nat} (h : ∀ i, i < n → f i = g i) : sumN f n = sumN g n :=
  Int.le_antisymm (sumN_le (fun i hi => Int.le_of_eq (h i hi))) (sumN_le (fun i hi => Int.le_of_eq (h i hi).symm))
theorem sumN_const {c : Int} : ∀ {n : Nat}, sumN (fun _ => c) n = n * c
  | 0 => by simp [sumN]
  | n + 1 => by rw [sumN, sumN_const]; simp only [Int.natCast_add, Int.add_mul, Int.natCast_one, Int.one_mul]
theorem sumN_add {f g : Nat → Int} : ∀ {n : Nat}, sumN (fun i => f i + g i) n = sumN f n + sumN g n
  | 0 => rfl
  | n + 1 => by simp only [sumN, sumN_add (n := n)]; omega
theorem sumN_swap {f : Nat → Nat → Int} {m : Nat} : ∀ {n : Nat}, sumN (fun i => sumN (f i) m) n = sumN (fun j => sumN (fun i => f i j) n) m
  | 0 => by rw [sumN, show (fun j => sumN (fun i => f i j) 0) = fun _ => (0 : Int) from rfl, sumN_const]; simp
  | n + 1 => by
    rw [sumN, sumN_swap (n := n), ← sumN_add]; rfl
theorem sumN_front {f : Nat → Int} : ∀ {n : Nat}, sumN f (n + 1) = f 0 + sumN (fun i => f (i + 1)) n
  | 0 => by simp [sumN]
  | n + 1 => by rw [sumN, sumN_front (n := n), sumN]; omega
theorem sumN_split {f : Nat → Int} {a : Nat} : ∀ {b : Nat}, sumN f (a + b) = sumN f a + sumN (fun i => f (a + i)) b
  | 0 => by simp [sumN]
  | b + 1 => by rw [← Nat.add_assoc, sumN, sumN_split (b := b), sumN]; omega
def idxGo {α : Type} (p : α → Bool) : List α → Nat → Int
  | [], _ => -1
  | x :: l, i => if p x = true then (i : Int) else idxGo p l (i + 1)
def idxOf {α : Type} (p : α → Bool) (l : List α) : Int := idxGo p l 0
theorem idxGo_hit {α : Type} {p : α → Bool} {d : α} : ∀ {l : List α} {j k : Nat}, k < l.length → p (l.getD k d) = true → (∀ i, i < k → p (l.getD i d) = false) → idxGo p l j = ((j + k : Nat) : Int)
  | [], _, _, h, _, _ => by simp at h
  | x :: l, j, 0, _, h, _ => by
    have h : p x = true := h
    rw [idxGo, if_pos h]; rfl
  | x :: l, j, k + 1, hk, h, hn => by
    have h0 : p x = false := hn 0 (by omega)
    rw [idxGo, if_neg (by rw [h0]; simp), idxGo_hit (k := k) (by simpa using hk) h (fun i hi => hn (i + 1) (by omega))]
    congr 1; omega
theorem idxGo_iff {α : Type} {p : α → Bool} : ∀ {l : List α} {i : Nat}, 0 ≤ idxGo p l i ↔ ∃ x ∈ l, p x = true
  | [], i => by simp [idxGo]
  | x :: l, i => by
    rw [idxGo]
    split
    · rename_i h; exact ⟨fun _ => ⟨x, by simp, h⟩, fun _ => by omega⟩
    · rename_i h
      rw [idxGo_iff]
      constructor
      · rintro ⟨y, h1, h2⟩; exact ⟨y, by simp [h1], h2⟩
      · rintro ⟨y, h1, h2⟩
        rcases List.mem_cons.1 h1 with rfl | h1
        · exact absurd h2 h
        · exact ⟨y, h1, h2⟩
theorem idx_any {α : Type} {p : α → Bool} {l : List α} : decide (0 ≤ idxOf p l) = l.any p := by
  cases e : l.any p with
  | true =>
    obtain ⟨x, h1, h2⟩ := List.any_eq_true.1 e
    exact decide_eq_true (idxGo_iff.2 ⟨x, h1, h2⟩)
  | false =>
    refine decide_eq_false (fun h => ?_)
    obtain ⟨x, h1, h2⟩ := idxGo_iff.1 h
    rw [List.any_eq_true.2 ⟨x, h1, h2⟩] at e
    cases e
end Go.Proofs.Ytdhdpklmipkneaa
