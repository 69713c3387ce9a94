/- Finite orders: the closure of some pairs, and who stands next to whom. No condition but those named. -/
import Derived.Test.YtdhdpklmipkneaaMatchB
import Derived.Test.YtdhdpklmipkneaaListD
namespace Go.Proofs.Ytdhdpklmipkneaa
open Go.Ex
set_option maxRecDepth 100000
theorem take_getD {α : Type} {l : List α} {i : Nat} (h : i < l.length) (d : α) : l.take (i + 1) = l.take i ++ [l.getD i d] := by
  rw [List.take_succ_eq_append_getElem h, List.getD_eq_getElem?_getD, List.getElem?_eq_getElem h]; rfl
abbrev F20 : List Bool := [false, false, false, false, false, false, false, false, false, false, false, false, false, false, false, false, false, false, false, false]
abbrev F400 : List (List Bool) := [F20, F20, F20, F20, F20, F20, F20, F20, F20, F20, F20, F20, F20, F20, F20, F20, F20, F20, F20, F20]
/-- a row of rows, by what stands where -/
def mkO (f : Nat → Nat → Bool) : List (List Bool) := (List.range 20).map (fun a => (List.range 20).map (fun b => f a b))
def gB (o : List (List Bool)) (a b : Nat) : Bool := (o.getD a F20).getD b false
theorem gB_mkO {f : Nat → Nat → Bool} {a b : Nat} (ha : a < 20) (hb : b < 20) : gB (mkO f) a b = f a b := by
  rw [gB, mkO, getD_map_range _ _ ha, getD_map_range _ _ hb]
theorem mkO_congr {f g : Nat → Nat → Bool} (h : ∀ a b, a < 20 → b < 20 → f a b = g a b) : mkO f = mkO g :=
  List.map_congr_left (fun a ha => List.map_congr_left (fun b hb => h a b (List.mem_range.1 ha) (List.mem_range.1 hb)))
theorem mkO_set {f : Nat → Nat → Bool} {a b : Nat} (v : Bool) (ha : a < 20) (hb : b < 20) : (mkO f).set a (((mkO f).getD a F20).set b v) = mkO (fun x y => if x = a ∧ y = b then v else f x y) := by
  rw [mkO, getD_map_range _ _ ha, set_map_range _ _ hb, set_map_range _ _ ha]
  refine List.map_congr_left (fun x hx => ?_)
  by_cases e : x = a
  · rw [if_pos e]
    refine List.map_congr_left (fun y hy => ?_)
    by_cases e2 : y = b
    · rw [if_pos e2]; exact (if_pos (c := x = a ∧ y = b) ⟨e, e2⟩).symm
    · rw [if_neg e2, e]; exact (if_neg (c := a = a ∧ y = b) (fun h => e2 h.2)).symm
  · rw [if_neg e]
    exact List.map_congr_left (fun y hy => (if_neg (c := x = a ∧ y = b) (fun h => e h.1)).symm)
theorem mkO_zero : mkO (fun _ _ => false) = F400 := rfl
/-- is it one of the pairs? -/
def relP (l : List PairD) (a b : Nat) : Bool := l.any (fun q => decide (q.1 = a) && decide (q.2.1 = b))
theorem relP_iff {l : List PairD} {a b : Nat} : relP l a b = true ↔ ((a : Int), (b : Int), ()) ∈ l := by
  rw [relP, List.any_eq_true]
  constructor
  · rintro ⟨⟨x, y, ⟨⟩⟩, hq, h⟩
    simp only [Bool.and_eq_true, decide_eq_true_eq] at h
    rw [h.1, h.2] at hq
    exact hq
  · intro h
    exact ⟨_, h, by simp⟩
/-- ways over those below k -/
def wk (f : Nat → Nat → Bool) : Nat → Nat → Nat → Bool
  | 0, a, b => f a b
  | k + 1, a, b => wk f k a b || (wk f k a k && wk f k k b)
section
variable {f : Nat → Nat → Bool}
theorem wk_up {k a b : Nat} (h : wk f k a b = true) : wk f (k + 1) a b = true := by rw [wk, h, Bool.true_or]
theorem wk_ge {a b : Nat} (h : f a b = true) : ∀ k, wk f k a b = true
  | 0 => h
  | k + 1 => wk_up (wk_ge h k)
theorem wk_right (k a : Nat) : wk f (k + 1) a k = wk f k a k := by rw [wk]; cases wk f k a k <;> simp
theorem wk_left (k b : Nat) : wk f (k + 1) k b = wk f k k b := by rw [wk]; cases wk f k k b <;> simp
theorem wk_trans : ∀ {k a c b : Nat}, c < k → wk f k a c = true → wk f k c b = true → wk f k a b = true
  | k + 1, a, c, b, hc, h1, h2 => by
    by_cases e : c = k
    · subst e
      rw [wk_right] at h1
      rw [wk_left] at h2
      rw [wk, h1, h2, Bool.and_self, Bool.or_true]
    · have hck : c < k := by omega
      rw [wk, Bool.or_eq_true, Bool.and_eq_true] at h1 h2 ⊢
      rcases h1 with h1 | ⟨h1, h1'⟩ <;> rcases h2 with h2 | ⟨h2, h2'⟩
      · exact .inl (wk_trans hck h1 h2)
      · exact .inr ⟨wk_trans hck h1 h2, h2'⟩
      · exact .inr ⟨h1, wk_trans hck h1' h2⟩
      · exact .inr ⟨h1, h2'⟩
theorem wk_least {T : Nat → Nat → Prop} (hT : ∀ a b c, T a b → T b c → T a c) (hf : ∀ a b, f a b = true → T a b) : ∀ {k a b : Nat}, wk f k a b = true → T a b
  | 0, a, b, h => hf a b h
  | k + 1, a, b, h => by
    rw [wk, Bool.or_eq_true, Bool.and_eq_true] at h
    rcases h with h | ⟨h1, h2⟩
    · exact wk_least hT hf h
    · exact hT _ _ _ (wk_least hT hf h1) (wk_least hT hf h2)
theorem wk_out {n : Nat} (hf : ∀ a b, f a b = true → a < n ∧ b < n) : ∀ {k a b : Nat}, wk f k a b = true → a < n ∧ b < n
  | 0, a, b, h => hf a b h
  | k + 1, a, b, h => by
    rw [wk, Bool.or_eq_true, Bool.and_eq_true] at h
    rcases h with h | ⟨h1, h2⟩
    · exact wk_out hf h
    · exact ⟨(wk_out hf h1).1, (wk_out hf h2).2⟩
/-- in the midst of a round: all ahead of (a, b) is done -/
def wkm (f : Nat → Nat → Bool) (k a b x y : Nat) : Bool := if x < a ∨ (x = a ∧ y < b) then wk f (k + 1) x y else wk f k x y
theorem wkm_start (k : Nat) : wkm f k 0 0 = wk f k := by funext x y; rw [wkm, if_neg (by omega)]
theorem wkm_right {k a b x : Nat} : wkm f k a b x k = wk f k x k := by rw [wkm]; split; exact wk_right k x; rfl
theorem wkm_left {k a b y : Nat} : wkm f k a b k y = wk f k k y := by rw [wkm]; split; exact wk_left k y; rfl
theorem wkm_here {k a b : Nat} : wkm f k a b a b = wk f k a b := by rw [wkm, if_neg (by omega)]
theorem wkm_step {k a b : Nat} : (fun x y => if x = a ∧ y = b then wk f (k + 1) a b else wkm f k a b x y) = wkm f k a (b + 1) := by
  funext x y
  by_cases h : x = a ∧ y = b
  · rw [if_pos h, wkm, if_pos (by omega), h.1, h.2]
  · rw [if_neg h, wkm, wkm]
    by_cases h2 : x < a ∨ (x = a ∧ y < b)
    · rw [if_pos h2, if_pos (by omega)]
    · rw [if_neg h2, if_neg (by omega)]
theorem wk_no {n : Nat} (hf : ∀ a b, f a b = true → a < n ∧ b < n) {k x y : Nat} (h : ¬ (x < n ∧ y < n)) : wk f k x y = false := by
  cases e : wk f k x y with
  | false => rfl
  | true => exact absurd (wk_out hf e) h
theorem wkm_row {n k a : Nat} (hf : ∀ a b, f a b = true → a < n ∧ b < n) : wkm f k a n = wkm f k (a + 1) 0 := by
  funext x y
  rw [wkm, wkm]
  by_cases h : x < n ∧ y < n
  · by_cases h2 : x < a ∨ (x = a ∧ y < n)
    · rw [if_pos h2, if_pos (by omega)]
    · rw [if_neg h2, if_neg (by omega)]
  · rw [wk_no hf h, wk_no hf h]; split <;> split <;> rfl
theorem wkm_end {n k : Nat} (hf : ∀ a b, f a b = true → a < n ∧ b < n) : wkm f k n 0 = wk f (k + 1) := by
  funext x y
  rw [wkm]
  by_cases h : x < n
  · rw [if_pos (by omega)]
  · rw [if_neg (by omega), wk_no hf (fun c => h c.1), wk_no hf (fun c => h c.1)]
end
/-- some pairs of n things, none of them ahead of itself -/
structure PosOk (n : Nat) (l : List PairD) : Prop where
  n20 : n ≤ 20
  len : l.length ≤ 600
  rng : ∀ q ∈ l, (0 ≤ q.1 ∧ q.1 < (n : Int)) ∧ (0 ≤ q.2.1 ∧ q.2.1 < (n : Int))
  irr : ∀ k, k < n → wk (relP l) n k k = false
def loopB (n : Nat) (l : List PairD) : Bool := (List.range n).any (fun k => wk (relP l) n k k)
def pcheck (n : Int) (l : List PairD) : Int := if n < 0 ∨ 20 < n then 1 else if mcheck n n l ≠ 0 then mcheck n n l else if loopB n.toNat l = true then 9 else 0
theorem mcheck_rng {m n : Int} {l : List PairD} (h : mcheck m n l = 0) : (0 ≤ m ∧ m ≤ 40) ∧ (0 ≤ n ∧ n ≤ 40) ∧ l.length ≤ 600 ∧ ∀ q ∈ l, (0 ≤ q.1 ∧ q.1 < m) ∧ (0 ≤ q.2.1 ∧ q.2.1 < n) := by
  unfold mcheck at h
  split at h
  · cases h
  split at h
  · cases h
  split at h
  · cases h
  · rename_i h1 h2 h3
    have h1 : (inF m 0 40 && inF n 0 40) = true := by cases e : (inF m 0 40 && inF n 0 40) with | true => rfl | false => exact absurd e h1
    rw [Bool.and_eq_true, inF_iff, inF_iff] at h1
    refine ⟨h1.1, h1.2, by omega, fun q hq => ?_⟩
    have h3 : l.any (badP m n) = false := by cases e : l.any (badP m n) with | false => rfl | true => exact absurd e h3
    have := List.any_eq_false.1 h3 q hq
    rw [badP, Bool.not_eq_true, Bool.or_eq_false_iff, Bool.not_eq_false', Bool.not_eq_false', inF_iff, inF_iff] at this
    omega
theorem pcheck_ok {n : Int} {l : List PairD} (h : pcheck n l = 0) : ∃ m : Nat, n = m ∧ PosOk m l := by
  unfold pcheck at h
  split at h
  · cases h
  split at h
  · rename_i h1; exact absurd h h1
  split at h
  · cases h
  · rename_i h1 h2 h3
    obtain ⟨m, rfl⟩ := Int.eq_ofNat_of_zero_le (show 0 ≤ n by omega)
    obtain ⟨_, _, k3, k4⟩ := mcheck_rng (Decidable.not_not.1 h2)
    refine ⟨m, rfl, by omega, k3, k4, fun k hk => ?_⟩
    have h3 : loopB m l = false := by cases e : loopB m l with | false => rfl | true => exact absurd e h3
    have := List.any_eq_false.1 h3 k (List.mem_range.2 hk)
    simpa using this
theorem pcheck_of {n : Nat} {l : List PairD} (h : PosOk n l) : pcheck n l = 0 := by
  have e1 : mcheck (n : Int) n l = 0 := by
    have hn := h.n20
    rw [mcheck, if_neg (by rw [inF_iff.2 ⟨by omega, by omega⟩]; decide), if_neg (by have := h.len; omega), if_neg]
    intro h9
    obtain ⟨q, hq, h8⟩ := List.any_eq_true.1 h9
    obtain ⟨h1, h2⟩ := h.rng q hq
    rw [badP, inF_iff.2 ⟨h1.1, by omega⟩, inF_iff.2 ⟨h2.1, by omega⟩] at h8
    cases h8
  have e2 : loopB n l = false := by
    rw [loopB, List.any_eq_false]
    intro k hk
    rw [h.irr k (List.mem_range.1 hk)]
    decide
  have hn := h.n20
  rw [pcheck, if_neg (by omega), e1, if_neg (fun c => c rfl), Int.toNat_natCast, e2]
  rfl
theorem rel_out {n : Nat} {l : List PairD} (hr : ∀ q ∈ l, (0 ≤ q.1 ∧ q.1 < (n : Int)) ∧ (0 ≤ q.2.1 ∧ q.2.1 < (n : Int))) : ∀ a b, relP l a b = true → a < n ∧ b < n := by
  intro a b h
  obtain ⟨h1, h2⟩ := hr _ (relP_iff.1 h)
  have h1 : (a : Int) < n := h1.2
  have h2 : (b : Int) < n := h2.2
  omega
/-- all pairs that satisfy something -/
def pairsF (n : Nat) (g : Nat → Nat → Bool) : List PairD := (List.range n).flatMap (fun a : Nat => ((List.range n).filter (g a)).map (fun b : Nat => ((a : Int), (b : Int), ())))
theorem pairsF_mem {n : Nat} {g : Nat → Nat → Bool} {q : PairD} : q ∈ pairsF n g ↔ ∃ a b : Nat, a < n ∧ b < n ∧ g a b = true ∧ q = ((a : Int), (b : Int), ()) := by
  simp only [pairsF, List.mem_flatMap, List.mem_map, List.mem_filter, List.mem_range]
  constructor
  · rintro ⟨a, ha, b, ⟨hb, hg⟩, rfl⟩; exact ⟨a, b, ha, hb, hg, rfl⟩
  · rintro ⟨a, b, ha, hb, hg, rfl⟩; exact ⟨a, ha, b, ⟨hb, hg⟩, rfl⟩
theorem pairsF_rel {n : Nat} {g : Nat → Nat → Bool} {a b : Nat} : relP (pairsF n g) a b = true ↔ a < n ∧ b < n ∧ g a b = true := by
  rw [relP_iff, pairsF_mem]
  constructor
  · rintro ⟨x, y, hx, hy, hg, e⟩
    simp only [Prod.mk.injEq, Int.natCast_inj, and_true] at e
    rw [e.1, e.2]; exact ⟨hx, hy, hg⟩
  · rintro ⟨ha, hb, hg⟩; exact ⟨a, b, ha, hb, hg, rfl⟩
theorem pairsF_len {n : Nat} {g : Nat → Nat → Bool} : (pairsF n g).length ≤ n * n := by
  have : ∀ (l : List Nat) (f : Nat → List PairD), (∀ a, (f a).length ≤ n) → (l.flatMap f).length ≤ l.length * n := by
    intro l f hf
    induction l with
    | nil => simp
    | cons a l ih => rw [List.flatMap_cons, List.length_append, List.length_cons, Nat.succ_mul]; have := hf a; omega
  have h := this (List.range n) (fun a => ((List.range n).filter (g a)).map (fun b : Nat => ((a : Int), (b : Int), ()))) (fun a => by
    rw [List.length_map]; exact Nat.le_trans (List.length_filter_le _ _) (by simp))
  rwa [List.length_range] at h
theorem pairsF_nodup {n : Nat} {g : Nat → Nat → Bool} : (pairsF n g).Nodup := by
  rw [pairsF]
  refine List.nodup_iff_pairwise_ne.2 ?_
  refine List.pairwise_flatMap.2 ⟨fun a _ => ?_, ?_⟩
  · refine List.pairwise_map.2 ?_
    refine (List.Pairwise.filter _ List.nodup_range).imp (fun hne e => hne ?_)
    simp only [Prod.mk.injEq, Int.natCast_inj, true_and, and_true] at e
    exact e
  · refine List.nodup_range.imp (fun hne x hx y hy e => hne ?_)
    obtain ⟨b, _, rfl⟩ := List.mem_map.1 hx
    obtain ⟨c, _, rfl⟩ := List.mem_map.1 hy
    simp only [Prod.mk.injEq, Int.natCast_inj] at e
    exact e.1
theorem pairsF_congr {n : Nat} {g g' : Nat → Nat → Bool} (h : ∀ a b, a < n → b < n → g a b = g' a b) : pairsF n g = pairsF n g' := by
  have key : ∀ (l : List Nat), (∀ a ∈ l, a < n) → l.flatMap (fun a : Nat => ((List.range n).filter (g a)).map (fun b : Nat => ((a : Int), (b : Int), ()))) = l.flatMap (fun a : Nat => ((List.range n).filter (g' a)).map (fun b : Nat => ((a : Int), (b : Int), ()))) := by
    intro l hl
    induction l with
    | nil => rfl
    | cons a l ih =>
      rw [List.flatMap_cons, List.flatMap_cons, ih (fun x hx => hl x (by simp [hx])), List.filter_congr (fun b hb => h a b (hl a (by simp)) (List.mem_range.1 hb))]
  exact key _ (fun a ha => List.mem_range.1 ha)
/-- more pairs, longer -/
theorem filter_len_lt {α : Type} {p q : α → Bool} (hpq : ∀ x, p x = true → q x = true) : ∀ {l : List α} {y : α}, y ∈ l → p y = false → q y = true → (l.filter p).length < (l.filter q).length
  | x :: l, y, hy, h1, h2 => by
    have le : ∀ l : List α, (l.filter p).length ≤ (l.filter q).length := by
      intro l
      induction l with
      | nil => simp
      | cons z l ih =>
        simp only [List.filter_cons]
        cases e : p z with
        | true => simp [hpq z e]; exact ih
        | false => cases q z <;> simp <;> omega
    simp only [List.filter_cons]
    rcases List.mem_cons.1 hy with rfl | hy
    · have := le l
      simp [h1, h2]; omega
    · have ih := filter_len_lt hpq hy h1 h2
      cases e : p x with
      | true => simp [hpq x e]; exact ih
      | false => cases q x <;> simp <;> omega
theorem pairsF_filter {n : Nat} {g : Nat → Nat → Bool} : pairsF n g = (pairsF n (fun _ _ => true)).filter (fun q => g q.1.toNat q.2.1.toNat) := by
  simp only [pairsF]
  generalize hm : List.range n = r
  have : ∀ s : List Nat, s.flatMap (fun a : Nat => (r.filter (g a)).map (fun b : Nat => ((a : Int), (b : Int), ()))) = (s.flatMap (fun a : Nat => (r.filter (fun _ => true)).map (fun b : Nat => ((a : Int), (b : Int), ())))).filter (fun q : PairD => g q.1.toNat q.2.1.toNat) := by
    intro s
    induction s with
    | nil => rfl
    | cons a s ih =>
      rw [List.flatMap_cons, List.flatMap_cons, List.filter_append, ih]
      congr 1
      have ft : ∀ r : List Nat, r.filter (fun _ => true) = r := fun r => by simp
      rw [ft, List.filter_map]
      congr 1
  exact this r
theorem pairsF_lt {n : Nat} {g g' : Nat → Nat → Bool} (h : ∀ a b, g a b = true → g' a b = true) {a b : Nat} (ha : a < n) (hb : b < n) (h1 : g a b = false) (h2 : g' a b = true) : (pairsF n g).length < (pairsF n g').length := by
  rw [pairsF_filter, pairsF_filter (g := g')]
  exact filter_len_lt (fun q hq => h _ _ hq) (pairsF_mem.2 ⟨a, b, ha, hb, rfl, rfl⟩) h1 h2

/-! those with nobody between -/
def coverB (n : Nat) (f : Nat → Nat → Bool) (a b : Nat) : Bool := f a b && !((List.range n).any (fun k => f a k && f k b))
theorem coverB_iff {n : Nat} {f : Nat → Nat → Bool} {a b : Nat} : coverB n f a b = true ↔ f a b = true ∧ ∀ k, k < n → ¬ (f a k = true ∧ f k b = true) := by
  rw [coverB, Bool.and_eq_true, Bool.not_eq_true', List.any_eq_false]
  refine and_congr_right (fun _ => ?_)
  simp only [List.mem_range, Bool.and_eq_true]
section
variable {n : Nat} {l : List PairD} (h : PosOk n l)
include h
theorem pos_rel : ∀ a b, relP l a b = true → a < n ∧ b < n := rel_out h.rng
theorem pos_trans {a b c : Nat} (h1 : wk (relP l) n a b = true) (h2 : wk (relP l) n b c = true) : wk (relP l) n a c = true := wk_trans (wk_out (pos_rel h) h1).2 h1 h2
theorem pos_irr (k : Nat) : wk (relP l) n k k = false := by
  by_cases hk : k < n
  · exact h.irr k hk
  · exact wk_no (pos_rel h) (fun c => hk c.1)
def coverL (n : Nat) (l : List PairD) : List PairD := pairsF n (coverB n (wk (relP l) n))
omit h in
theorem cover_rel {a b : Nat} : relP (coverL n l) a b = true ↔ a < n ∧ b < n ∧ coverB n (wk (relP l) n) a b = true := pairsF_rel
theorem cover_sub {a b : Nat} (hc : wk (relP (coverL n l)) n a b = true) : wk (relP l) n a b = true :=
  wk_least (T := fun a b => wk (relP l) n a b = true) (fun _ _ _ h1 h2 => pos_trans h h1 h2) (fun a b hr => by
    obtain ⟨_, _, hc⟩ := cover_rel.1 hr
    exact (coverB_iff.1 hc).1) hc
/-- how many stand between -/
def gap (n : Nat) (f : Nat → Nat → Bool) (a b : Nat) : Nat := ((List.range n).filter (fun k => f a k && f k b)).length
theorem gap_lt {a b c : Nat} (h1 : wk (relP l) n a c = true) (h2 : wk (relP l) n c b = true) : gap n (wk (relP l) n) a c < gap n (wk (relP l) n) a b ∧ gap n (wk (relP l) n) c b < gap n (wk (relP l) n) a b := by
  have hc := wk_out (pos_rel h) h1
  constructor
  · refine filter_len_lt (y := c) (fun k hk => ?_) (List.mem_range.2 hc.2) ?_ ?_
    · rw [Bool.and_eq_true] at hk ⊢; exact ⟨hk.1, pos_trans h hk.2 h2⟩
    · rw [pos_irr h c, Bool.and_false]
    · rw [h1, h2]; rfl
  · refine filter_len_lt (y := c) (fun k hk => ?_) (List.mem_range.2 hc.2) ?_ ?_
    · rw [Bool.and_eq_true] at hk ⊢; exact ⟨pos_trans h h1 hk.1, hk.2⟩
    · rw [pos_irr h c, Bool.false_and]
    · rw [h1, h2]; rfl
theorem cover_sup : ∀ (m : Nat) {a b : Nat}, gap n (wk (relP l) n) a b < m → wk (relP l) n a b = true → wk (relP (coverL n l)) n a b = true
  | 0, _, _, hm, _ => by omega
  | m + 1, a, b, hm, hab => by
    have hab' := wk_out (pos_rel h) hab
    by_cases hc : coverB n (wk (relP l) n) a b = true
    · exact wk_ge (cover_rel.2 ⟨hab'.1, hab'.2, hc⟩) n
    · have : ∃ k, k < n ∧ wk (relP l) n a k = true ∧ wk (relP l) n k b = true := by
        refine Classical.byContradiction (fun hno => hc (coverB_iff.2 ⟨hab, fun k hk hh => hno ⟨k, hk, hh⟩⟩))
      obtain ⟨k, hk, h1, h2⟩ := this
      obtain ⟨g1, g2⟩ := gap_lt h h1 h2
      exact wk_trans hk (cover_sup m (by omega) h1) (cover_sup m (by omega) h2)
theorem cover_same (a b : Nat) : wk (relP (coverL n l)) n a b = wk (relP l) n a b := by
  cases e : wk (relP l) n a b with
  | true => exact cover_sup h _ (Nat.lt_succ_self _) e
  | false =>
    cases e2 : wk (relP (coverL n l)) n a b with
    | false => rfl
    | true => rw [cover_sub h e2] at e; cases e
theorem cover_ok : PosOk n (coverL n l) := by
  have hn := h.n20
  refine ⟨hn, ?_, ?_, fun k hk => by rw [cover_same h]; exact h.irr k hk⟩
  · have := pairsF_len (n := n) (g := coverB n (wk (relP l) n))
    have h2 : n * n ≤ 20 * 20 := Nat.mul_le_mul hn hn
    show (pairsF n _).length ≤ 600
    omega
  · intro q hq
    obtain ⟨a, b, ha, hb, _, rfl⟩ := pairsF_mem.1 hq
    exact ⟨⟨by show (0 : Int) ≤ a; omega, by show (a : Int) < n; omega⟩, ⟨by show (0 : Int) ≤ b; omega, by show (b : Int) < n; omega⟩⟩
/-- with some of the pairs alone -/
theorem sub_ok {l' : List PairD} (hs : ∀ q ∈ l', q ∈ l) (hl : l'.length ≤ 600) : PosOk n l' ∧ ∀ a b, wk (relP l') n a b = true → wk (relP l) n a b = true := by
  have hsub : ∀ a b, wk (relP l') n a b = true → wk (relP l) n a b = true := fun a b hab =>
    wk_least (T := fun a b => wk (relP l) n a b = true) (fun _ _ _ h1 h2 => pos_trans h h1 h2) (fun a b hr => wk_ge (relP_iff.2 (hs _ (relP_iff.1 hr))) n) hab
  refine ⟨⟨h.n20, hl, fun q hq => h.rng q (hs q hq), fun k hk => ?_⟩, hsub⟩
  cases e : wk (relP l') n k k with
  | false => rfl
  | true => have := hsub k k e; rw [h.irr k hk] at this; cases this
/-- a pair with nobody between is needed -/
theorem cover_need {l' : List PairD} (hs : ∀ q ∈ l', q ∈ coverL n l) {x y : Nat} (hxy : coverB n (wk (relP l) n) x y = true) (hno : ((x : Int), (y : Int), ()) ∉ l') : wk (relP l') n x y = false := by
  cases e : wk (relP l') n x y with
  | false => rfl
  | true =>
    exfalso
    obtain ⟨c1, c2⟩ := coverB_iff.1 hxy
    have hT := wk_least (f := relP l') (T := fun a b => wk (relP l) n a b = true ∧ (a = x → b = y → False)) (k := n) (a := x) (b := y) (fun a b c ⟨h1, h1'⟩ ⟨h2, h2'⟩ => ⟨pos_trans h h1 h2, fun ha hc => by
      subst ha; subst hc
      exact c2 b (wk_out (pos_rel h) h1).2 ⟨h1, h2⟩⟩) (fun a b hr => by
      have hm := relP_iff.1 hr
      obtain ⟨_, _, hc⟩ := cover_rel.1 (relP_iff.2 (hs _ hm))
      exact ⟨(coverB_iff.1 hc).1, fun ha hb => by subst ha; subst hb; exact hno hm⟩) e
    exact hT.2 rfl rfl
end
end Go.Proofs.Ytdhdpklmipkneaa
