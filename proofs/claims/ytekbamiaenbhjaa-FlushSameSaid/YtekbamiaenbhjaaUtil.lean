/- Small things of lists and numbers. No condition but those named. -/
import Derived.Test.YtekbamiaenbhjaaTys
namespace Go.Proofs.Ytekbamiaenbhjaa
open Go.Ex
set_option maxRecDepth 100000
theorem F8 {n:Int}:A4 .i64 n↔-9223372036854775808≤n∧n≤9223372036854775807:=Iff.rfl
theorem a9i:Ty.wb (Ty.int IntKind.i64)=8:=rfl
theorem b8j {p:Prop} [Decidable p] (h:p):((decide p,()):Bool×Unit)=(true,()):=by rw [decide_eq_true h]
theorem b4U {α:Type} {l:List α} {i:Nat} (h:i<l.length) (d:α):l.drop i=l.getD i d::l.drop (i+1):=by
  rw [List.drop_eq_getElem_cons h,List.getD_eq_getElem?_getD,List.getElem?_eq_getElem h]; rfl
theorem a9P {α:Type} {l:List α} {i:Nat} {d:α} (h:i<l.length):l.getD i d∈l:=by
  rw [List.getD_eq_getElem?_getD,List.getElem?_eq_getElem h]; exact List.getElem_mem h
theorem a9I {α:Type} {l:List α} {x d:α} (h:x∈l):∃ i,i<l.length∧l.getD i d=x:=by
  obtain ⟨i,hi,e⟩:=List.getElem_of_mem h
  exact ⟨i,hi,by rw [List.getD_eq_getElem?_getD,List.getElem?_eq_getElem hi,e]; rfl⟩
theorem T1 {α:Type} {l:List α} {i j:Nat} {x d:α} (h:i<l.length):(l.set i x).getD j d=if j=i then x else l.getD j d:=by
  rw [List.getD_eq_getElem?_getD,List.getD_eq_getElem?_getD,List.getElem?_set]
  by_cases e:i=j
  · subst e; simp [h]
  · rw [if_neg e,if_neg (fun h=>e h.symm)]
theorem eq_of_getD {α:Type} {l m:List α} {d:α} (hl:l.length=m.length) (h:∀ i,i<l.length→l.getD i d=m.getD i d):l=m:=by
  refine List.ext_getElem hl (fun i h1 h2=>?_)
  have:=h i h1
  rwa [List.getD_eq_getElem?_getD,List.getD_eq_getElem?_getD,List.getElem?_eq_getElem h1,List.getElem?_eq_getElem h2] at this
theorem getD_map' {α β:Type} {f:α→β} {l:List α} {i:Nat} {d:β} {d':α} (hi:i<l.length):(l.map f).getD i d=f (l.getD i d'):=by
  rw [List.getD_eq_getElem?_getD,List.getD_eq_getElem?_getD,List.getElem?_map,List.getElem?_eq_getElem hi]; rfl
def a2H {α:Type} (p:α→Bool):List α→Nat→Int
  | [],_=>-1
  | x::l,i=>if p x=true then (i:Int) else a2H p l (i+1)
def idxOf {α:Type} (p:α→Bool) (l:List α):Int:=a2H p l 0
theorem a4F {α:Type} {p:α→Bool}:∀ {l:List α} {i:Nat},0≤a2H p l i↔∃ x∈l,p x=true
  | [],i=>by simp [a2H]
  | x::l,i=>by
    rw [a2H]
    split
    · rename_i h; exact ⟨fun _=>⟨x,by simp,h⟩,fun _=>by omega⟩
    · rename_i h
      rw [a4F]
      constructor
      · rintro ⟨y,h1,h2⟩; exact ⟨y,by simp [h1],h2⟩
      · rintro ⟨y,h1,h2⟩
        rcases List.mem_cons.1 h1 with rfl|h1
        · exact absurd h2 h
        · exact ⟨y,h1,h2⟩
theorem b65 {α:Type} {p:α→Bool} {l:List α}:decide (0≤idxOf p l)=l.any p:=by
  cases e:l.any p with
  | true =>
    obtain ⟨x,h1,h2⟩:=List.any_eq_true.1 e
    exact decide_eq_true (a4F.2 ⟨x,h1,h2⟩)
  | false =>
    refine decide_eq_false (fun h=>?_)
    obtain ⟨x,h1,h2⟩:=a4F.1 h
    rw [List.any_eq_true.2 ⟨x,h1,h2⟩] at e
    cases e
end Go.Proofs.Ytekbamiaenbhjaa
