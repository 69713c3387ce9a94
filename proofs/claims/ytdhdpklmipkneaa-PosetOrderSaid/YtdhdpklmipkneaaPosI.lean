/- Levels of a finite order, told by rows: what stands in a row, and how many in all. -/
import Derived.Test.YtdhdpklmipkneaaPosV
namespace Go.Proofs.Ytdhdpklmipkneaa
open Go.Ex
set_option maxRecDepth 100000
/-- those of level j -/
def rowL (lev : List Int) (m j : Nat) : List Int := ((List.range m).filter (fun b => decide (lev.getD b 0 = (j : Int)))).map (fun b : Nat => (b : Int))
theorem rowL_succ {lev : List Int} {m j : Nat} : rowL lev (m + 1) j = if lev.getD m 0 = (j : Int) then rowL lev m j ++ [(m : Int)] else rowL lev m j := by
  rw [rowL, List.range_succ, List.filter_append, List.map_append]
  split
  · rename_i h
    rw [List.filter_cons_of_pos (by rw [decide_eq_true_eq]; exact h)]; rfl
  · rename_i h
    rw [List.filter_cons_of_neg (by rw [decide_eq_true_eq]; exact h)]
    exact List.append_nil _
theorem rowsF_is {lev : List Int} {c : Nat} (h : Bd c lev) : ∀ m j, (rowsF lev m).getD j [] = rowL lev m j
  | 0, j => by show (([] : List (List Int)).getD j []) = _; simp [rowL]
  | m + 1, j => by
    have ih := rowsF_is h m
    have hm := h m
    rw [rowsF_succ, rowS, getD_set (by rw [padR, List.length_append, List.length_replicate]; omega), pad_getD, rowL_succ]
    by_cases e : j = (lev.getD m 0).toNat
    · subst e
      rw [if_pos rfl, if_pos (by omega), ih]
    · rw [if_neg e, if_neg (by omega), pad_getD, ih]
theorem rowL_mem {lev : List Int} {m j : Nat} {x : Int} : x ∈ rowL lev m j ↔ ∃ b : Nat, b < m ∧ lev.getD b 0 = (j : Int) ∧ x = b := by
  rw [rowL, List.mem_map]
  constructor
  · rintro ⟨b, hb, rfl⟩
    obtain ⟨h1, h2⟩ := List.mem_filter.1 hb
    exact ⟨b, List.mem_range.1 h1, of_decide_eq_true h2, rfl⟩
  · rintro ⟨b, h1, h2, rfl⟩
    exact ⟨b, List.mem_filter.2 ⟨List.mem_range.2 h1, decide_eq_true h2⟩, rfl⟩
theorem sum_set {l : List (List Int)} {i : Nat} {x : Int} (hi : i < l.length) : ((l.set i (l.getD i [] ++ [x])).map List.length).sum = (l.map List.length).sum + 1 := by
  induction l generalizing i with
  | nil => cases hi
  | cons a l ih =>
    cases i with
    | zero => simp; omega
    | succ i =>
      have := ih (i := i) (by simpa using hi)
      simp only [List.set_cons_succ, List.getD_cons_succ, List.map_cons, List.sum_cons]
      rw [this]; omega
theorem sum_pad {out : List (List Int)} {k : Nat} : ((padR out k).map List.length).sum = (out.map List.length).sum := by
  rw [padR, List.map_append, List.sum_append, List.map_replicate]
  simp
theorem rowsF_sum {lev : List Int} : ∀ m, ((rowsF lev m).map List.length).sum = m
  | 0 => rfl
  | m + 1 => by
    rw [rowsF_succ, rowS, sum_set (by rw [padR, List.length_append, List.length_replicate]; omega), sum_pad, rowsF_sum m]
/-- no row is empty but that someone of a level stands in it; rows are within the bound -/
theorem sum_take {l : List (List Int)} {i : Nat} (hi : i < l.length) : ((l.take (i + 1)).map List.length).sum = ((l.take i).map List.length).sum + (l.getD i []).length := by
  rw [take_s hi [], List.map_append, List.sum_append]
  simp
theorem sum_take_le (l : List (List Int)) (i : Nat) : ((l.take i).map List.length).sum ≤ (l.map List.length).sum := by
  have : (l.map List.length).sum = ((l.take i).map List.length).sum + ((l.drop i).map List.length).sum := by
    conv => lhs; rw [← List.take_append_drop i l, List.map_append, List.sum_append]
  omega
/-- what the law asks of the levels -/
structure HighOk (R : Nat → Nat → Bool) (n : Nat) (L : List (List Int)) : Prop where
  len : L.length ≤ 401
  sum : (L.map List.length).sum = n
  rng : ∀ i, ∀ x ∈ L.getD i [], 0 ≤ x ∧ x < (n : Int)
  apart : ∀ i, ∀ a ∈ L.getD i [], ∀ b ∈ L.getD i [], R a.toNat b.toNat = false
  next : ∀ i, ∀ b ∈ L.getD (i + 1) [], ∃ a ∈ L.getD i [], R a.toNat b.toNat = true
theorem high_ok {n : Nat} {l : List PairD} (hp : PosOk n l) : HighOk (wk (relP l) n) n (rowsF (levF (wk (relP l) n) n (orderN (wk (relP l) n) n n [])) n) := by
  have hL := order_lv (fun x y z => pos_trans hp (a := x) (b := y) (c := z)) (fun x => pos_irr hp x) (fun x y => wk_out (pos_rel hp)) n [] (by simp) LvOk.start
  have ho : ∀ x y, wk (relP l) n x y = true → x < n ∧ y < n := fun x y => wk_out (pos_rel hp)
  generalize wk (relP l) n = R at *
  generalize orderN R n n [] = ord at *
  obtain ⟨hol, hL⟩ := hL
  have hbd := levF_bd (R := R) (n := n) ord
  generalize levF R n ord = lev at *
  have all : ∀ x : Nat, x < n → (x : Int) ∈ ord := by
    intro x hx
    refine Classical.byContradiction (fun hno => ?_)
    have h1 : ((x : Int) :: ord).Nodup := List.nodup_cons.2 ⟨hno, hL.nodup⟩
    have := nodup_sub h1 (S := (List.range n).map (fun a : Nat => (a : Int))) (fun y hy => by
      rcases List.mem_cons.1 hy with rfl | hy
      · exact List.mem_map.2 ⟨x, List.mem_range.2 hx, rfl⟩
      · have := hL.rng y hy
        exact List.mem_map.2 ⟨y.toNat, List.mem_range.2 (by omega), by omega⟩)
    rw [List.length_cons, List.length_map, List.length_range] at this
    omega
  refine ⟨by
    have := rowsF_len hbd n
    have := Nat.mul_le_mul hp.n20 (show ord.length ≤ 20 by have := hp.n20; omega)
    omega, rowsF_sum n, fun i x hx => ?_, fun i a ha b hb => ?_, fun i b hb => ?_⟩
  · rw [rowsF_is hbd, rowL_mem] at hx
    obtain ⟨y, h1, h2, rfl⟩ := hx
    omega
  · rw [rowsF_is hbd, rowL_mem] at ha hb
    obtain ⟨x, h1, h2, rfl⟩ := ha
    obtain ⟨y, h3, h4, rfl⟩ := hb
    rw [Int.toNat_natCast, Int.toNat_natCast]
    cases e : R x y with
    | false => rfl
    | true =>
      have := hL.up x y e (all y h3)
      omega
  · rw [rowsF_is hbd, rowL_mem] at hb
    obtain ⟨y, h3, h4, rfl⟩ := hb
    rcases hL.one y (all y h3) with h5 | ⟨x, h5, h6⟩
    · omega
    · refine ⟨(x : Int), ?_, ?_⟩
      · rw [rowsF_is hbd, rowL_mem]
        exact ⟨x, (ho x y h5).1, by omega, rfl⟩
      · rw [Int.toNat_natCast, Int.toNat_natCast]; exact h5
end Go.Proofs.Ytdhdpklmipkneaa
