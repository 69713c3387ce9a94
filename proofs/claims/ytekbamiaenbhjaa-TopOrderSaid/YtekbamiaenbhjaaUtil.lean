/- Small things of lists and numbers. No condition but those named. -/
import Derived.Test.YtekbamiaenbhjaaTys
namespace Go.Proofs.Ytekbamiaenbhjaa
open Go.Ex
set_option maxRecDepth 100000
theorem l7 {n:Int}:r9 .i64 n↔-9223372036854775808≤n∧n≤9223372036854775807:=Iff.rfl
theorem b2N:Ty.wb i5=8:=rfl
theorem c3m:Ty.wb .bool=1:=rfl
theorem c5j {p:Prop} [Decidable p] (h:p):((decide p,()):Bool×Unit)=(true,()):=by rw [decide_eq_true h]
theorem S3 {α:Type} {l:List α} {i:Nat} (h:i<l.length) (d:α):l.drop i=l.getD i d::l.drop (i+1):=by
  rw [List.drop_eq_getElem_cons h,List.getD_eq_getElem?_getD,List.getElem?_eq_getElem h]; rfl
theorem P6 {α:Type} {l:List α} {i:Nat} {d:α} (h:i<l.length):l.getD i d∈l:=by
  rw [List.getD_eq_getElem?_getD,List.getElem?_eq_getElem h]; exact List.getElem_mem h
theorem a3B {α:Type} {l:List α} {x d:α} (h:x∈l):∃ i,i<l.length∧l.getD i d=x:=by
  obtain ⟨i,hi,e⟩:=List.getElem_of_mem h
  exact ⟨i,hi,by rw [List.getD_eq_getElem?_getD,List.getElem?_eq_getElem hi,e]; rfl⟩
theorem B8 {α:Type} {l:List α} {i j:Nat} {x d:α} (h:i<l.length):(l.set i x).getD j d=if j=i then x else l.getD j d:=by
  rw [List.getD_eq_getElem?_getD,List.getD_eq_getElem?_getD,List.getElem?_set]
  by_cases e:i=j
  · subst e; simp [h]
  · rw [if_neg e,if_neg (fun h=>e h.symm)]
theorem eq_of_getD {α:Type} {l m:List α} {d:α} (hl:l.length=m.length) (h:∀ i,i<l.length→l.getD i d=m.getD i d):l=m:=by
  refine List.ext_getElem hl (fun i h1 h2=>?_)
  have:=h i h1
  rwa [List.getD_eq_getElem?_getD,List.getD_eq_getElem?_getD,List.getElem?_eq_getElem h1,List.getElem?_eq_getElem h2] at this
theorem P7 {α:Type} {n i:Nat} (f:Nat→α) (d:α) (hi:i<n):((List.range n).map f).getD i d=f i:=by
  rw [List.getD_eq_getElem?_getD,List.getElem?_map,List.getElem?_range hi]; rfl
theorem Z6 {α:Type} {n i:Nat} (f:Nat→α) (x:α) (hi:i<n):((List.range n).map f).set i x=(List.range n).map (fun j=>if j=i then x else f j):=by
  refine List.ext_getElem (by simp) (fun j h1 h2=>?_)
  rw [List.getElem_set]
  simp only [List.getElem_map,List.getElem_range]
  by_cases e:i=j
  · rw [if_pos e,if_pos e.symm]
  · rw [if_neg e,if_neg (fun h=>e h.symm)]
theorem b0w {α:Type} {l:List α} {n:Nat} {d:α} (hl:l.length=n):(List.range n).map (fun j=>l.getD j d)=l:=by
  refine List.ext_getElem (by simp [hl]) (fun j h1 h2=>?_)
  simp only [List.getElem_map,List.getElem_range]
  rw [List.getD_eq_getElem?_getD,List.getElem?_eq_getElem h2]; rfl
theorem b2h {α:Type} {l m:List α} {i:Nat} {d:α} (h:i<l.length):(l++m).getD i d=l.getD i d:=by
  rw [List.getD_eq_getElem?_getD,List.getD_eq_getElem?_getD,List.getElem?_append_left h]
theorem a4P {α:Type} {l m:List α} {i:Nat} {d:α} (h:l.length≤i):(l++m).getD i d=m.getD (i - l.length) d:=by
  rw [List.getD_eq_getElem?_getD,List.getD_eq_getElem?_getD,List.getElem?_append_right h]
theorem a2R {α:Type} (n:Nat) (x:α) {j:Nat} (hj:j<n) (d:α):(List.replicate n x).getD j d=x:=by rw [List.getD_eq_getElem?_getD,List.getElem?_replicate,if_pos hj]; rfl
def a0l {α:Type} (p:α→Bool):List α→Nat→Int
  | [],_=>-1
  | x::l,i=>if p x=true then (i:Int) else a0l p l (i+1)
def idxOf {α:Type} (p:α→Bool) (l:List α):Int:=a0l p l 0
theorem a6C {α:Type} {p:α→Bool}:∀ {l:List α} {i:Nat},0≤a0l p l i↔∃ x∈l,p x=true
  | [],i=>by simp [a0l]
  | x::l,i=>by
    rw [a0l]
    split
    · rename_i h; exact ⟨fun _=>⟨x,by simp,h⟩,fun _=>by omega⟩
    · rename_i h
      rw [a6C]
      constructor
      · rintro ⟨y,h1,h2⟩; exact ⟨y,by simp [h1],h2⟩
      · rintro ⟨y,h1,h2⟩
        rcases List.mem_cons.1 h1 with rfl|h1
        · exact absurd h2 h
        · exact ⟨y,h1,h2⟩
theorem b0A {α:Type} {p:α→Bool} {l:List α}:decide (0≤idxOf p l)=l.any p:=by
  cases e:l.any p with
  | true =>
    obtain ⟨x,h1,h2⟩:=List.any_eq_true.1 e
    exact decide_eq_true (a6C.2 ⟨x,h1,h2⟩)
  | false =>
    refine decide_eq_false (fun h=>?_)
    obtain ⟨x,h1,h2⟩:=a6C.1 h
    rw [List.any_eq_true.2 ⟨x,h1,h2⟩] at e
    cases e
end Go.Proofs.Ytekbamiaenbhjaa
