/- Lists out of which is deleted what a condition holds of, in place. No condition. -/
import Derived.Test.YtgmbfnlhmnpciaaUtil
namespace Go.Proofs.Ytgmbfnlhmnpciaa
open Go.Ex
section
variable {α:Type} {p:α→Bool} {d:α}
structure DelInv (p:α→Bool) (l m:List α) (i j:Nat):Prop where
  tk:m.take i=(l.take j).filter (fun x=>!p x)
  dr:m.drop j=l.drop j
  len:m.length=l.length
  lt:i<j
  le:j≤l.length
theorem take_s {l:List α} {i:Nat} (h:i<l.length) (d:α):l.take (i+1)=l.take i++[l.getD i d]:=by
  rw [List.getD_eq_getElem?_getD,List.getElem?_eq_getElem h]; simp
theorem DelInv.at_ {l m:List α} {i j:Nat} (h:DelInv p l m i j) (d:α):m.getD j d=l.getD j d:=by
  have:=congrArg (fun q:List α=>q.getD 0 d) h.dr
  simpa [List.getD_eq_getElem?_getD,List.getElem?_drop] using this
theorem DelInv.drop_ {l m:List α} {i j:Nat} (h:DelInv p l m i j):m.drop (j+1)=l.drop (j+1):=by
  rw [← List.drop_drop,← List.drop_drop,h.dr]
theorem DelInv.keep {l m:List α} {i j:Nat} (h:DelInv p l m i j) (hj:j<l.length) (hp:p (m.getD j d)=false):DelInv p l (m.set i (m.getD j d)) (i+1) (j+1):=by
  have hl:=h.len
  have hlt:=h.lt
  refine ⟨?_,?_,by rw [List.length_set,hl],by omega,by omega⟩
  · rw [take_s hj d,List.filter_append,← h.tk,take_s (by rw [List.length_set]; omega) d]
    rw [h.at_ d] at hp ⊢
    congr 1
    · rw [List.take_set_of_le (Nat.le_refl i)]
    · rw [getD_set (by omega),if_pos rfl]; generalize l.getD j d=x at hp ⊢; simp [hp]
  · rw [List.drop_set_of_lt (by omega)]; exact h.drop_
theorem DelInv.skip {l m:List α} {i j:Nat} (h:DelInv p l m i j) (hj:j<l.length) (hp:p (m.getD j d)=true):DelInv p l m i (j+1):=by
  refine ⟨?_,h.drop_,h.len,by have:=h.lt; omega,by omega⟩
  rw [take_s hj d,List.filter_append,← h.tk]
  rw [h.at_ d] at hp
  generalize l.getD j d=x at hp ⊢
  simp [hp]
theorem DelInv.fin {l m A B:List α} {i j:Nat} (h:DelInv p l m i j) (hj:j=l.length):cut2 0 (i:Int) (m.take i++A++B)=l.filter (fun x=>!p x):=by
  have h1:=h.tk
  rw [hj,List.take_of_length_le (Nat.le_refl _)] at h1
  have hi:(m.take i).length=i:=by rw [List.length_take]; have:=h.len; have:=h.lt; omega
  rw [cut2,show ((i:Int) - 0).toNat=i by omega,Int.toNat_zero,List.drop_zero,List.append_assoc,List.take_append_of_le_length (by omega),List.take_of_length_le (by omega),h1]
end
end Go.Proofs.Ytgmbfnlhmnpciaa
