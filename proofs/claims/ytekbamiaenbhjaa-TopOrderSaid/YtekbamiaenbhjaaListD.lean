/- Lists out of which is deleted what a condition holds of, in place. No condition. -/
import Derived.Test.YtekbamiaenbhjaaUtil
namespace Go.Proofs.Ytekbamiaenbhjaa
open Go.Ex
section
variable {α:Type} {p:α→Bool} {d:α}
theorem a8u:∀ {l:List α} {j:Nat},a0l p l j≠-1→∃ k:Nat,a0l p l j=((j+k:Nat):Int)∧k<l.length∧p (l.getD k d)=true∧∀ i,i<k→p (l.getD i d)=false
  | [],_,h=>absurd rfl h
  | y::l,j,h=>by
    by_cases hy:p y=true
    · exact ⟨0,by rw [a0l,if_pos hy]; rfl,by simp,hy,fun i hi=>by omega⟩
    · rw [a0l,if_neg hy] at h ⊢
      obtain ⟨k,h1,h2,h3,h4⟩:=a8u h
      refine ⟨k+1,by rw [h1]; congr 1; omega,by simp; omega,h3,fun i hi=>?_⟩
      cases i with
      | zero=>simpa using hy
      | succ i=>exact h4 i (by omega)
structure V8 (p:α→Bool) (l m:List α) (i j:Nat):Prop where
  tk:m.take i=(l.take j).filter (fun x=>!p x)
  dr:m.drop j=l.drop j
  len:m.length=l.length
  lt:i<j
  le:j≤l.length
theorem a9d {l:List α} {i:Nat} (h:i<l.length) (d:α):l.take (i+1)=l.take i++[l.getD i d]:=by
  rw [List.getD_eq_getElem?_getD,List.getElem?_eq_getElem h]; simp
theorem b7F:∀ {l:List α},(∀ x∈l,p x=false)→l.filter (fun x=>!p x)=l:=fun h=>List.filter_eq_self.2 (fun x hx=>by rw [h x hx]; rfl)
theorem V8.start (d:α) {l:List α} (h:idxOf p l≠-1):∃ k:Nat,idxOf p l=(k:Int)∧k<l.length∧V8 p l l k (k+1):=by
  obtain ⟨k,h1,h2,h3,h4⟩:=a8u (d:=d) h
  refine ⟨k,by rw [idxOf,h1]; congr 1; omega,h2,⟨?_,rfl,rfl,by omega,by omega⟩⟩
  rw [a9d h2 d,List.filter_append,b7F]
  · simp only [List.filter_cons,List.filter_nil,h3]; simp
  · intro x hx
    obtain ⟨i,hi,rfl⟩:=a3B (d:=d) hx
    rw [List.length_take] at hi
    have:=h4 i (by omega)
    rw [List.getD_eq_getElem?_getD,List.getElem?_take,if_pos (by omega),← List.getD_eq_getElem?_getD]
    exact this
theorem V8.at_ {l m:List α} {i j:Nat} (h:V8 p l m i j) (d:α):m.getD j d=l.getD j d:=by
  have:=congrArg (fun q:List α=>q.getD 0 d) h.dr
  simpa [List.getD_eq_getElem?_getD,List.getElem?_drop] using this
theorem V8.c3f {l m:List α} {i j:Nat} (h:V8 p l m i j):m.drop (j+1)=l.drop (j+1):=by
  rw [← List.drop_drop,← List.drop_drop,h.dr]
theorem V8.a5v {l m:List α} {i j:Nat} (h:V8 p l m i j) (hj:j<l.length) (hp:p (m.getD j d)=false):V8 p l (m.set i (m.getD j d)) (i+1) (j+1):=by
  have hl:=h.len
  have hlt:=h.lt
  refine ⟨?_,?_,by rw [List.length_set,hl],by omega,by omega⟩
  · rw [a9d hj d,List.filter_append,← h.tk,a9d (by rw [List.length_set]; omega) d]
    rw [h.at_ d] at hp ⊢
    congr 1
    · rw [List.take_set_of_le (Nat.le_refl i)]
    · rw [B8 (by omega),if_pos rfl]; generalize l.getD j d=x at hp ⊢; simp [hp]
  · rw [List.drop_set_of_lt (by omega)]; exact h.c3f
theorem V8.skip {l m:List α} {i j:Nat} (h:V8 p l m i j) (hj:j<l.length) (hp:p (m.getD j d)=true):V8 p l m i (j+1):=by
  refine ⟨?_,h.c3f,h.len,by have:=h.lt; omega,by omega⟩
  rw [a9d hj d,List.filter_append,← h.tk]
  rw [h.at_ d] at hp
  generalize l.getD j d=x at hp ⊢
  simp [hp]
theorem V8.fin {l m A B:List α} {i j:Nat} (h:V8 p l m i j) (hj:j=l.length):B5 0 (i:Int) (m.take i++A++B)=l.filter (fun x=>!p x):=by
  have h1:=h.tk
  rw [hj,List.take_of_length_le (Nat.le_refl _)] at h1
  have hi:(m.take i).length=i:=by rw [List.length_take]; have:=h.len; have:=h.lt; omega
  rw [B5,show ((i:Int) - 0).toNat=i by omega,Int.toNat_zero,List.drop_zero,List.append_assoc,List.take_append_of_le_length (by omega),List.take_of_length_le (by omega),h1]
end
end Go.Proofs.Ytekbamiaenbhjaa
