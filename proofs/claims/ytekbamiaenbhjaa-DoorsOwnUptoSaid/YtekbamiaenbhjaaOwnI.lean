/- DoorsOwn: the doors whose lists turn own one by one. -/
import Derived.Test.YtekbamiaenbhjaaOwnG
namespace Go.Proofs.Ytekbamiaenbhjaa
open Go.Ex
set_option maxRecDepth 100000
abbrev Y1:=Int×Int×Int×Bool×(Nat×List Int×List Int)×Unit
abbrev Z6:Y1:=(0,0,0,false,(1,[],[]),())
def shD (d:w8):Y1:=(d.1,d.2.1,d.2.2.1,d.2.2.2.1,(0,d.2.2.2.2.1,[]),())
def amD (d:w8):Y1:=(d.1,d.2.1,d.2.2.1,d.2.2.2.1,(2,d.2.2.2.2.1,[77,77,0]),())
theorem b5W (l:List w8):List.map (msV V7 a1b) l=List.map shD l:=List.map_congr_left fun _ _=>rfl
theorem a9V (l:List w8):@List.map (Ty.den a1b) w8 (M2 a1b) (List.map amD l:List Y1)=l:=by
  have:∀ m:List Y1,m=List.map amD l→@List.map (Ty.den a1b) w8 (M2 a1b) m=l:=by
    rintro m rfl
    refine Eq.trans (List.map_map (f:=amD) (g:=M2 a1b) (l:=l)) ?_
    exact (List.map_congr_left (g:=id) fun _ _=>rfl).trans (List.map_id l)
  exact this _ rfl
def P9 (l:List w8) (i:Nat):List Y1:=(l.take i).map amD++(l.drop i).map shD
theorem b1J (l:List w8) (i:Nat):(P9 l i).length=l.length:=by
  rw [P9,List.length_append,List.length_map,List.length_map,← List.length_append,List.take_append_drop]
theorem b1K {l:List w8} {i:Nat} (h:i<l.length):(P9 l i).getD i Z6=shD (l.getD i x4):=by
  rw [List.getD_eq_getElem?_getD,P9,List.getElem?_append_right (by rw [List.length_map,List.length_take]; omega),List.length_map,List.length_take,Nat.min_eq_left (Nat.le_of_lt h),Nat.sub_self,List.getElem?_map,List.getElem?_drop,Nat.add_zero,List.getElem?_eq_getElem h,List.getD_eq_getElem?_getD,List.getElem?_eq_getElem h]
  rfl
theorem b1I {l:List w8} {i:Nat} (h:i<l.length):(P9 l i).set i (amD (l.getD i x4))=P9 l (i+1):=by
  rw [P9,P9,List.set_append_right _ _ (by rw [List.length_map,List.length_take]; omega),List.length_map,List.length_take,Nat.min_eq_left (Nat.le_of_lt h),Nat.sub_self,List.drop_eq_getElem_cons h,List.map_cons,List.set_cons_zero,List.take_add_one,List.getElem?_eq_getElem h,List.map_append,List.append_assoc,List.getD_eq_getElem?_getD,List.getElem?_eq_getElem h]
  rfl
theorem b1L (l:List w8):P9 l l.length=l.map amD:=by
  rw [P9,List.take_length,List.drop_length,List.map_nil,List.append_nil]
theorem b7C {l:List w8} {i:Nat} (h:i<l.length):(l.map amD).getD i Z6=amD (l.getD i x4):=by
  rw [List.getD_eq_getElem?_getD,List.getElem?_map,List.getElem?_eq_getElem h,List.getD_eq_getElem?_getD,List.getElem?_eq_getElem h]
  rfl
def a4C (D:List Y1):Prop:=∀ d∈D,1≤d.2.2.2.2.1.1∧d.2.2.2.2.1.1≤2
theorem b7i (l:List w8):a4C (l.map amD):=by
  intro d hd
  obtain ⟨e,_,rfl⟩:=List.mem_map.1 hd
  exact ⟨by show 1≤2; omega,Nat.le_refl 2⟩
theorem a4C.set {D:List Y1} (h:a4C D) (i:Nat) {d:Y1} (hd:1≤d.2.2.2.2.1.1∧d.2.2.2.2.1.1≤2):a4C (D.set i d):=by
  intro e he
  rcases List.mem_or_eq_of_mem_set he with h1|h1
  · exact h e h1
  · rw [h1]; exact hd
theorem a4C.get {D:List Y1} (h:a4C D) {i:Nat} (hi:i<D.length):1≤(D.getD i Z6).2.2.2.2.1.1∧(D.getD i Z6).2.2.2.2.1.1≤2:=by
  refine h _ ?_
  rw [List.getD_eq_getElem?_getD,List.getElem?_eq_getElem hi]
  exact List.getElem_mem hi
theorem a0m {α:Type} {f:α→Nat} (h:∀ x,1≤f x):∀ l:List α,l.length≤I0 f l
  | []=>by simp [I0]
  | x::l=>by have h1:=h x; have h2:=a0m h l; simp only [I0,List.length_cons]; omega
theorem a8B {α:Type} {f:α→Nat}:∀ {l:List α} {x:α},x∈l→f x≤I0 f l
  | [],x,h=>by cases h
  | y::l,x,h=>by
    rcases List.mem_cons.1 h with rfl|h
    · simp only [I0]; omega
    · have:=a8B (f:=f) h; simp only [I0]; omega
end Go.Proofs.Ytekbamiaenbhjaa
