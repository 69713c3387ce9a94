import Derived.Test.YtagjonjobbckdaaExR
import Derived.WalkKit
import Derived.ProofKit
import Derived.OpenShut
namespace Go.Ex
open Go.ChangeShapes Go.WideShapes Go.ChangeAt Go.RowKit

section
variable {P : Program} {X : Type} {enc : TypeId × Value → X} {W : World} {sp : Nat → Bool} {held : Bool}

theorem repL_of {α : Type} {R : List Nat → List Value → α → Prop} {sz : Nat} : ∀ {n : Nat} {cs : List Value}, cs.length = n * sz → (∀ i, i < n → ∃ y, R [] ((cs.drop (i * sz)).take sz) y) → ∃ l : List α, l.length = n ∧ RepL R sz [] cs l
  | 0, cs, h, _ => ⟨[], rfl, rfl, by simpa using h⟩
  | n + 1, cs, h, hr => by
    obtain ⟨y, hy⟩ := hr 0 (by omega)
    have e : (n + 1) * sz = n * sz + sz := Nat.succ_mul n sz
    obtain ⟨l, h1, h2⟩ := repL_of (R := R) (n := n) (cs := cs.drop sz) (sz := sz) (by simp; omega) (fun i hi => by
      obtain ⟨y, hy⟩ := hr (i + 1) (by omega)
      refine ⟨y, ?_⟩
      rw [List.drop_drop]
      rw [show sz + i * sz = (i + 1) * sz by rw [Nat.succ_mul]; omega]
      exact hy)
    exact ⟨y :: l, by simp [h1], [], [], rfl, by simpa using hy, h2⟩

theorem cellsOf_ty {n : Nat} {T : TypeId} {t : Ty} (h : tyOk P n T t = true) : P.cellsOf T = t.size := by
  obtain ⟨i, h1, h2, _⟩ := tyOk_info h
  simp [Program.cellsOf, h1, h2]

theorem rep_of_trod_aux : ∀ (t : Ty), t.shared = true →
    (∀ {n : Nat} {T : TypeId} {fuel : Nat} {cs : List Value} {x : DataW X × List MemPlace}, tyOk P n T t = true → DataW.trod enc P W 0 sp held fuel T cs = some x → ∃ y : t.den, Rep W.heap (fun b => b < W.heap.size) t [] cs y) ∧
    (∀ {n : Nat} {fs : List Field} {off m : Nat} {cs : List Value}, fieldsOk (tyOk P n) fs off t = true → (∀ f ∈ fs, ∃ x, DataW.trod enc P W 0 sp held m f.type ((cs.drop f.offset).take (P.cellsOf f.type)) = some x) →
      ∃ y : t.den, Rep W.heap (fun b => b < W.heap.size) t [] ((cs.drop off).take t.size) y) := by
  intro t
  have strct : ∀ {t : Ty}, (∀ {n : Nat} {fs : List Field} {off m : Nat} {cs : List Value}, fieldsOk (tyOk P n) fs off t = true → (∀ f ∈ fs, ∃ x, DataW.trod enc P W 0 sp held m f.type ((cs.drop f.offset).take (P.cellsOf f.type)) = some x) →
      ∃ y : t.den, Rep W.heap (fun b => b < W.heap.size) t [] ((cs.drop off).take t.size) y) → t.agg = true → (∀ n u, t ≠ .arr n u) →
      ∀ {n : Nat} {T : TypeId} {fuel : Nat} {cs : List Value} {x : DataW X × List MemPlace}, tyOk P n T t = true → DataW.trod enc P W 0 sp held fuel T cs = some x → ∃ y : t.den, Rep W.heap (fun b => b < W.heap.size) t [] cs y := by
    intro t hB hag hna n T fuel cs x hT h
    obtain ⟨fs, k', h1, h2⟩ := tyOk_struct hT hag hna
    obtain ⟨xs, m, _, _, hl, hlen, hf⟩ := DataW.trod_struct h1 h
    obtain ⟨y, hy⟩ := hB (cs := cs) (m := m) h2 (fun f hf' => by
      obtain ⟨i, hi⟩ := List.mem_iff_getElem?.1 hf'
      have := hf i f (by simpa using hi)
      have hlt : i < fs.size := by
        have := (List.getElem?_eq_some_iff.1 hi).1
        simpa using this
      rw [this]
      exact ⟨xs[i]'(by omega), List.getElem?_eq_getElem (by omega)⟩)
    refine ⟨y, ?_⟩
    rw [cellsOf_ty hT] at hl
    rw [List.drop_zero, List.take_of_length_le (by omega)] at hy
    exact hy
  induction t with
  | int k =>
    intro _
    refine ⟨?_, by intro n fs off m cs h; cases fs <;> simp [fieldsOk] at h⟩
    intro n T fuel cs x hT h
    obtain ⟨z, rfl, _, hw⟩ := DataW.trod_int (tyOk_int hT) h
    simp only [Lit.wf, Bool.and_eq_true, decide_eq_true_eq] at hw
    exact ⟨z, rfl, rfl, hw⟩
  | bool =>
    intro _
    refine ⟨?_, by intro n fs off m cs h; cases fs <;> simp [fieldsOk] at h⟩
    intro n T fuel cs x hT h
    obtain ⟨b, rfl, _⟩ := DataW.trod_bool (tyOk_bool hT) h
    exact ⟨b, rfl, rfl⟩
  | str =>
    intro _
    refine ⟨?_, by intro n fs off m cs h; cases fs <;> simp [fieldsOk] at h⟩
    intro n T fuel cs x hT h
    obtain ⟨s, rfl, _, hl⟩ := DataW.trod_string (tyOk_str hT) h
    exact ⟨s.data.toList, rfl, rfl, hl⟩
  | unit =>
    intro _
    have hB : ∀ {n : Nat} {fs : List Field} {off m : Nat} {cs : List Value}, fieldsOk (tyOk P n) fs off .unit = true → (∀ f ∈ fs, ∃ x, DataW.trod enc P W 0 sp held m f.type ((cs.drop f.offset).take (P.cellsOf f.type)) = some x) →
        ∃ y : Ty.unit.den, Rep W.heap (fun b => b < W.heap.size) .unit [] ((cs.drop off).take Ty.unit.size) y := fun _ _ => ⟨(), rfl, by simp [Ty.size]⟩
    exact ⟨strct hB rfl (by simp), hB⟩
  | pair a b iha ihb =>
    intro hflat
    simp only [Ty.shared, Bool.and_eq_true] at hflat
    have hB : ∀ {n : Nat} {fs : List Field} {off m : Nat} {cs : List Value}, fieldsOk (tyOk P n) fs off (.pair a b) = true → (∀ f ∈ fs, ∃ x, DataW.trod enc P W 0 sp held m f.type ((cs.drop f.offset).take (P.cellsOf f.type)) = some x) →
        ∃ y : (Ty.pair a b).den, Rep W.heap (fun b => b < W.heap.size) (.pair a b) [] ((cs.drop off).take (Ty.pair a b).size) y := by
      intro n fs off m cs hf hx
      cases fs with
      | nil => simp [fieldsOk] at hf
      | cons f fs =>
        simp only [fieldsOk, Bool.and_eq_true] at hf
        obtain ⟨⟨⟨⟨h1, _⟩, h3⟩, _⟩, h5⟩ := hf
        have h1 : f.offset = off := Nat.eq_of_beq_eq_true h1
        obtain ⟨x, hx0⟩ := hx f (by simp)
        rw [h1, cellsOf_ty h3] at hx0
        obtain ⟨y1, hy1⟩ := (iha hflat.1).1 h3 hx0
        obtain ⟨y2, hy2⟩ := (ihb hflat.2).2 (cs := cs) (m := m) h5 (fun f hf => hx f (by simp [hf]))
        refine ⟨(y1, y2), [], [], rfl, ?_, ?_⟩
        · rw [List.take_take, Nat.min_eq_left (by simp [Ty.size])]; exact hy1
        · rw [← List.drop_drop] at hy2
          rw [List.drop_take, show (Ty.pair a b).size - a.size = b.size by simp [Ty.size]]; exact hy2
    exact ⟨strct hB rfl (by simp), hB⟩
  | arr n t ih =>
    intro hflat
    refine ⟨?_, by intro n fs off m cs h; cases fs <;> simp [fieldsOk] at h⟩
    intro k T fuel cs x hT h
    obtain ⟨e, k', h1, h2, h3⟩ := tyOk_arr hT
    obtain ⟨xs, m, _, _, hl, hlen, hf⟩ := DataW.trod_array h1 h
    rw [cellsOf_ty hT] at hl
    have hs : (Ty.arr n t).size = n * t.size := rfl
    rw [hs] at hl
    obtain ⟨l, g1, g2⟩ := repL_of (R := Rep W.heap (fun b => b < W.heap.size) t) hl (fun i hi => by
      have := hf i hi
      rw [cellsOf_ty h3] at this
      exact (ih hflat).1 h3 (this.trans (List.getElem?_eq_getElem (by omega))))
    exact ⟨l, g1, g2⟩
  | slc o t ih =>
    intro hflat
    simp only [Ty.shared, Bool.and_eq_true, Bool.not_eq_true'] at hflat
    obtain ⟨rfl, hsh⟩ := hflat
    refine ⟨?_, by intro n fs off m cs h; cases fs <;> simp [fieldsOk] at h⟩
    intro k T fuel cs x hT h
    obtain ⟨e, k', h1, h2, h3⟩ := tyOk_slc hT
    have hsz := cellsOf_ty h3
    rcases DataW.trod_slice h1 h with ⟨rfl, _⟩ | ⟨a, len, cap, elems, rest, n, _, rfl, _, _, hlc, hcm, hel, hf, _, _⟩
    · exact ⟨([] : List t.den), .inl ⟨rfl, ⟨none, 0, rfl, by simp⟩, rfl⟩⟩
    · rw [hsz] at hf
      by_cases h0 : len = 0
      · subst h0
        exact ⟨([] : List t.den), .inl ⟨rfl, ⟨some a, cap, rfl, by simp⟩, rfl⟩⟩
      · have hcell : ∀ i, i < len → ∃ ci y, W.cells? 0 (a.add (i * t.size)) t.size = some ci ∧ Rep W.heap (fun b => b < W.heap.size) t [] ci y := by
          intro i hi
          have := hf i hi
          rw [List.getElem?_eq_getElem (by omega)] at this
          obtain ⟨ci, k1, k2⟩ := Option.bind_eq_some_iff.1 this
          obtain ⟨y, hy⟩ := (ih hsh).1 h3 k2
          exact ⟨ci, y, k1, hy⟩
        obtain ⟨c0, _, k1, _⟩ := hcell 0 (by omega)
        obtain ⟨_, l0, g0⟩ := World.cells?_some k1
        obtain ⟨b, off, spot⟩ := a
        have hone := g0 0 (by omega)
        have hsome : ∃ v, W.cell? (Addr.mk b off spot) = some v := by
          have : c0[0]? = some c0[0] := List.getElem?_eq_getElem (by omega)
          rw [this, Nat.zero_mul] at hone
          exact ⟨_, hone⟩
        obtain ⟨v0, hv0⟩ := hsome
        obtain ⟨arr, T0, fz, hh, hspot⟩ : ∃ arr T0 fz, W.heap[b]? = some (.cells arr T0 fz) ∧ spot = none := by
          unfold World.cell? at hv0
          split at hv0
          · rename_i c T0 fz hh
            split at hv0
            · cases hv0
            · rename_i hs
              exact ⟨c, T0, fz, hh, by simpa using hs⟩
          · cases hv0
        subst hspot
        have hblk : blk W.heap b = arr.toList := by simp only [blk, hh]
        have hci : ∀ i ci, i < len → W.cells? 0 ((Addr.mk b off none).add (i * t.size)) t.size = some ci → off + i * t.size + t.size ≤ (blk W.heap b).length ∧ ci = cellsAt W.heap b (off + i * t.size) t.size := by
          intro i ci hi hc
          obtain ⟨_, l1, g1⟩ := World.cells?_some hc
          have hj : ∀ j, j < t.size → (blk W.heap b)[off + i * t.size + j]? = ci[j]? := by
            intro j hj
            have := g1 j hj
            rw [Addr.add_none, Addr.add_none] at this
            simp only [World.cell?, hh] at this
            rw [hblk, ← this]; simp
          have hle : off + i * t.size + t.size ≤ (blk W.heap b).length := by
            have := hj (t.size - 1) (by omega)
            rw [List.getElem?_eq_getElem (by omega : t.size - 1 < ci.length)] at this
            have := (List.getElem?_eq_some_iff.1 this).1
            omega
          refine ⟨hle, List.ext_getElem? (fun j => ?_)⟩
          by_cases hjt : j < t.size
          · rw [← hj j hjt]
            simp only [cellsAt, List.getElem?_take, if_pos hjt, List.getElem?_drop]
          · rw [List.getElem?_eq_none (by omega), List.getElem?_eq_none (by rw [cellsAt_length _ _ _ hle]; omega)]
        have hlen : off + len * t.size ≤ (blk W.heap b).length := by
          obtain ⟨ci, y, q1, _⟩ := hcell (len - 1) (by omega)
          have := (hci (len - 1) ci (by omega) q1).1
          have e : len * t.size = (len - 1) * t.size + t.size := by
            rw [← Nat.succ_mul]; congr 1; omega
          omega
        obtain ⟨l, q1, q2⟩ := repL_of (R := Rep W.heap (fun b => b < W.heap.size) t) (n := len) (sz := t.size) (cs := cellsAt W.heap b off (len * t.size)) (cellsAt_length _ _ _ hlen) (fun i hi => by
          obtain ⟨ci, y, r1, r2⟩ := hcell i hi
          have hle : i * t.size + t.size ≤ len * t.size := by rw [← Nat.succ_mul]; exact Nat.mul_le_mul_right _ hi
          rw [cellsAt_drop, cellsAt_take _ _ _ _ (by omega), ← (hci i ci hi r1).2]
          exact ⟨y, r2⟩)
        have hblt : b < W.heap.size := (Array.getElem?_eq_some_iff.1 hh).1
        subst q1
        exact ⟨l, .inr ⟨b, off, cap, [], rfl, hlc, ⟨hcm, by simp⟩, hlen, q2, rfl, rfl, hblt⟩⟩

end
end Go.Ex
