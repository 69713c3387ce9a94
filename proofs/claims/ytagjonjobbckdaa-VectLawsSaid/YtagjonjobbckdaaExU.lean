import Derived.Test.YtagjonjobbckdaaExR
import Derived.WalkKit
import Derived.ProofKit
import Derived.OpenShut
namespace Go.Ex
open Go.ChangeShapes Go.WideShapes Go.ChangeAt Go.RowKit

/-- types without slices -/
def Ty.flat : Ty → Bool
  | .pair a b => a.flat && b.flat
  | .arr _ t => t.flat
  | .slc _ _ => false
  | _ => true

section
variable {P : Program} {X : Type} {enc : TypeId × Value → X} {W : World} {sp : Nat → Bool} {held : Bool}

theorem repL_of {α : Type} {R : List Nat → List Value → α → Prop} {sz : Nat} : ∀ {n : Nat} {cs : List Value}, cs.length = n * sz → (∀ i, i < n → ∃ y, R [] ((cs.drop (i * sz)).take sz) y) → ∃ l : List α, l.length = n ∧ RepL R sz [] cs l
  | 0, cs, h, _ => ⟨[], rfl, rfl, by simpa using h⟩
  | n + 1, cs, h, hr => by
    obtain ⟨y, hy⟩ := hr 0 (by omega)
    have e : (n + 1) * sz = n * sz + sz := Nat.succ_mul n sz
    obtain ⟨l, h1, h2⟩ := repL_of (R := R) (n := n) (cs := cs.drop sz) (sz := sz) (by simp; omega) (fun i hi => by
      obtain ⟨y, hy⟩ := hr (i + 1) (by omega)
      refine ⟨y, ?_⟩
      rw [List.drop_drop]
      rw [show sz + i * sz = (i + 1) * sz by rw [Nat.succ_mul]; omega]
      exact hy)
    exact ⟨y :: l, by simp [h1], [], [], rfl, by simpa using hy, h2⟩

theorem cellsOf_ty {n : Nat} {T : TypeId} {t : Ty} (h : tyOk P n T t = true) : P.cellsOf T = t.size := by
  obtain ⟨i, h1, h2, _⟩ := tyOk_info h
  simp [Program.cellsOf, h1, h2]

theorem rep_of_trod_aux : ∀ (t : Ty), t.flat = true →
    (∀ {n : Nat} {T : TypeId} {fuel : Nat} {cs : List Value} {x : DataW X × List MemPlace}, tyOk P n T t = true → DataW.trod enc P W 0 sp held fuel T cs = some x → ∃ y : t.den, Rep W.heap (fun b => b < W.heap.size) t [] cs y) ∧
    (∀ {n : Nat} {fs : List Field} {off m : Nat} {cs : List Value}, fieldsOk (tyOk P n) fs off t = true → (∀ f ∈ fs, ∃ x, DataW.trod enc P W 0 sp held m f.type ((cs.drop f.offset).take (P.cellsOf f.type)) = some x) →
      ∃ y : t.den, Rep W.heap (fun b => b < W.heap.size) t [] ((cs.drop off).take t.size) y) := by
  intro t
  have strct : ∀ {t : Ty}, (∀ {n : Nat} {fs : List Field} {off m : Nat} {cs : List Value}, fieldsOk (tyOk P n) fs off t = true → (∀ f ∈ fs, ∃ x, DataW.trod enc P W 0 sp held m f.type ((cs.drop f.offset).take (P.cellsOf f.type)) = some x) →
      ∃ y : t.den, Rep W.heap (fun b => b < W.heap.size) t [] ((cs.drop off).take t.size) y) → t.agg = true → (∀ n u, t ≠ .arr n u) →
      ∀ {n : Nat} {T : TypeId} {fuel : Nat} {cs : List Value} {x : DataW X × List MemPlace}, tyOk P n T t = true → DataW.trod enc P W 0 sp held fuel T cs = some x → ∃ y : t.den, Rep W.heap (fun b => b < W.heap.size) t [] cs y := by
    intro t hB hag hna n T fuel cs x hT h
    obtain ⟨fs, k', h1, h2⟩ := tyOk_struct hT hag hna
    obtain ⟨xs, m, _, _, hl, hlen, hf⟩ := DataW.trod_struct h1 h
    obtain ⟨y, hy⟩ := hB (cs := cs) (m := m) h2 (fun f hf' => by
      obtain ⟨i, hi⟩ := List.mem_iff_getElem?.1 hf'
      have := hf i f (by simpa using hi)
      have hlt : i < fs.size := by
        have := (List.getElem?_eq_some_iff.1 hi).1
        simpa using this
      rw [this]
      exact ⟨xs[i]'(by omega), List.getElem?_eq_getElem (by omega)⟩)
    refine ⟨y, ?_⟩
    rw [cellsOf_ty hT] at hl
    rw [List.drop_zero, List.take_of_length_le (by omega)] at hy
    exact hy
  induction t with
  | int k =>
    intro _
    refine ⟨?_, by intro n fs off m cs h; cases fs <;> simp [fieldsOk] at h⟩
    intro n T fuel cs x hT h
    obtain ⟨z, rfl, _, hw⟩ := DataW.trod_int (tyOk_int hT) h
    simp only [Lit.wf, Bool.and_eq_true, decide_eq_true_eq] at hw
    exact ⟨z, rfl, rfl, hw⟩
  | bool =>
    intro _
    refine ⟨?_, by intro n fs off m cs h; cases fs <;> simp [fieldsOk] at h⟩
    intro n T fuel cs x hT h
    obtain ⟨b, rfl, _⟩ := DataW.trod_bool (tyOk_bool hT) h
    exact ⟨b, rfl, rfl⟩
  | str =>
    intro _
    refine ⟨?_, by intro n fs off m cs h; cases fs <;> simp [fieldsOk] at h⟩
    intro n T fuel cs x hT h
    obtain ⟨s, rfl, _, hl⟩ := DataW.trod_string (tyOk_str hT) h
    exact ⟨s.data.toList, rfl, rfl, hl⟩
  | unit =>
    intro _
    have hB : ∀ {n : Nat} {fs : List Field} {off m : Nat} {cs : List Value}, fieldsOk (tyOk P n) fs off .unit = true → (∀ f ∈ fs, ∃ x, DataW.trod enc P W 0 sp held m f.type ((cs.drop f.offset).take (P.cellsOf f.type)) = some x) →
        ∃ y : Ty.unit.den, Rep W.heap (fun b => b < W.heap.size) .unit [] ((cs.drop off).take Ty.unit.size) y := fun _ _ => ⟨(), rfl, by simp [Ty.size]⟩
    exact ⟨strct hB rfl (by simp), hB⟩
  | pair a b iha ihb =>
    intro hflat
    simp only [Ty.flat, Bool.and_eq_true] at hflat
    have hB : ∀ {n : Nat} {fs : List Field} {off m : Nat} {cs : List Value}, fieldsOk (tyOk P n) fs off (.pair a b) = true → (∀ f ∈ fs, ∃ x, DataW.trod enc P W 0 sp held m f.type ((cs.drop f.offset).take (P.cellsOf f.type)) = some x) →
        ∃ y : (Ty.pair a b).den, Rep W.heap (fun b => b < W.heap.size) (.pair a b) [] ((cs.drop off).take (Ty.pair a b).size) y := by
      intro n fs off m cs hf hx
      cases fs with
      | nil => simp [fieldsOk] at hf
      | cons f fs =>
        simp only [fieldsOk, Bool.and_eq_true] at hf
        obtain ⟨⟨⟨⟨h1, _⟩, h3⟩, _⟩, h5⟩ := hf
        have h1 : f.offset = off := Nat.eq_of_beq_eq_true h1
        obtain ⟨x, hx0⟩ := hx f (by simp)
        rw [h1, cellsOf_ty h3] at hx0
        obtain ⟨y1, hy1⟩ := (iha hflat.1).1 h3 hx0
        obtain ⟨y2, hy2⟩ := (ihb hflat.2).2 (cs := cs) (m := m) h5 (fun f hf => hx f (by simp [hf]))
        refine ⟨(y1, y2), [], [], rfl, ?_, ?_⟩
        · rw [List.take_take, Nat.min_eq_left (by simp [Ty.size])]; exact hy1
        · rw [← List.drop_drop] at hy2
          rw [List.drop_take, show (Ty.pair a b).size - a.size = b.size by simp [Ty.size]]; exact hy2
    exact ⟨strct hB rfl (by simp), hB⟩
  | arr n t ih =>
    intro hflat
    refine ⟨?_, by intro n fs off m cs h; cases fs <;> simp [fieldsOk] at h⟩
    intro k T fuel cs x hT h
    obtain ⟨e, k', h1, h2, h3⟩ := tyOk_arr hT
    obtain ⟨xs, m, _, _, hl, hlen, hf⟩ := DataW.trod_array h1 h
    rw [cellsOf_ty hT] at hl
    have hs : (Ty.arr n t).size = n * t.size := rfl
    rw [hs] at hl
    obtain ⟨l, g1, g2⟩ := repL_of (R := Rep W.heap (fun b => b < W.heap.size) t) hl (fun i hi => by
      have := hf i hi
      rw [cellsOf_ty h3] at this
      exact (ih hflat).1 h3 (this.trans (List.getElem?_eq_getElem (by omega))))
    exact ⟨l, g1, g2⟩
  | slc o t ih => intro h; cases h

end
end Go.Ex
