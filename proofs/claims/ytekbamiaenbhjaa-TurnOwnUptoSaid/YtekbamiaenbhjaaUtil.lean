/- Small things of lists and numbers. No condition but those named. -/
import Derived.Test.YtekbamiaenbhjaaTys
namespace Go.Proofs.Ytekbamiaenbhjaa
open Go.Ex
set_option maxRecDepth 100000
theorem x5 {n:Int}:C3 .i64 n↔-9223372036854775808≤n∧n≤9223372036854775807:=Iff.rfl
theorem b0f:Ty.wb (Ty.int IntKind.i64)=8:=rfl
theorem yes:((true,()):Bool×Unit)=(true,()):=rfl
theorem P0 {α:Type} {l:List α} {i:Nat} (h:i<l.length) (d:α):l.drop i=l.getD i d::l.drop (i+1):=by
  rw [List.drop_eq_getElem_cons h,List.getD_eq_getElem?_getD,List.getElem?_eq_getElem h]; rfl
theorem b0R {α:Type} {l:List α} {i:Nat} {d:α} (h:i<l.length):l.getD i d∈l:=by
  rw [List.getD_eq_getElem?_getD,List.getElem?_eq_getElem h]; exact List.getElem_mem h
theorem b74 {α:Type} {l:List α} {x d:α} (h:x∈l):∃ i,i<l.length∧l.getD i d=x:=by
  obtain ⟨i,hi,e⟩:=List.getElem_of_mem h
  exact ⟨i,hi,by rw [List.getD_eq_getElem?_getD,List.getElem?_eq_getElem hi,e]; rfl⟩
theorem U7 {α:Type} {l:List α} {i j:Nat} {x d:α} (h:i<l.length):(l.set i x).getD j d=if j=i then x else l.getD j d:=by
  rw [List.getD_eq_getElem?_getD,List.getD_eq_getElem?_getD,List.getElem?_set]
  by_cases e:i=j
  · subst e; simp [h]
  · rw [if_neg e,if_neg (fun h=>e h.symm)]
theorem eq_of_getD {α:Type} {l m:List α} {d:α} (hl:l.length=m.length) (h:∀ i,i<l.length→l.getD i d=m.getD i d):l=m:=by
  refine List.ext_getElem hl (fun i h1 h2=>?_)
  have:=h i h1
  rwa [List.getD_eq_getElem?_getD,List.getD_eq_getElem?_getD,List.getElem?_eq_getElem h1,List.getElem?_eq_getElem h2] at this
theorem a1r {α:Type} {l m:List α} {i:Nat} {d:α} (h:l.length≤i):(l++m).getD i d=m.getD (i - l.length) d:=by
  rw [List.getD_eq_getElem?_getD,List.getD_eq_getElem?_getD,List.getElem?_append_right h]
def I0 {α:Type} (p:α→Bool):List α→Nat→Int
  | [],_=>-1
  | x::l,i=>if p x=true then (i:Int) else I0 p l (i+1)
def idxOf {α:Type} (p:α→Bool) (l:List α):Int:=I0 p l 0
theorem a4K {α:Type} {p:α→Bool}:∀ {l:List α} {i:Nat},0≤I0 p l i↔∃ x∈l,p x=true
  | [],i=>by simp [I0]
  | x::l,i=>by
    rw [I0]
    split
    · rename_i h; exact ⟨fun _=>⟨x,by simp,h⟩,fun _=>by omega⟩
    · rename_i h
      rw [a4K]
      constructor
      · rintro ⟨y,h1,h2⟩; exact ⟨y,by simp [h1],h2⟩
      · rintro ⟨y,h1,h2⟩
        rcases List.mem_cons.1 h1 with rfl|h1
        · exact absurd h2 h
        · exact ⟨y,h1,h2⟩
theorem a3o {α:Type} {p:α→Bool} {l:List α}:decide (0≤idxOf p l)=l.any p:=by
  cases e:l.any p with
  | true =>
    obtain ⟨x,h1,h2⟩:=List.any_eq_true.1 e
    exact decide_eq_true (a4K.2 ⟨x,h1,h2⟩)
  | false =>
    refine decide_eq_false (fun h=>?_)
    obtain ⟨x,h1,h2⟩:=a4K.1 h
    rw [List.any_eq_true.2 ⟨x,h1,h2⟩] at e
    cases e
end Go.Proofs.Ytekbamiaenbhjaa
