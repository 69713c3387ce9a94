/- Small things of lists and numbers. No condition but those named. -/
import Derived.Test.YtekbamiaenbhjaaTys
namespace Go.Proofs.Ytekbamiaenbhjaa
open Go.Ex
set_option maxRecDepth 100000
theorem q8 {n:Int}:u7 .i64 n↔-9223372036854775808≤n∧n≤9223372036854775807:=Iff.rfl
theorem S9 {α:Type} {l:List α} {i:Nat} (h:i<l.length) (d:α):l.drop i=l.getD i d::l.drop (i+1):=by
  rw [List.drop_eq_getElem_cons h,List.getD_eq_getElem?_getD,List.getElem?_eq_getElem h]; rfl
theorem M8 {α:Type} {l:List α} {i:Nat} {d:α} (h:i<l.length):l.getD i d∈l:=by
  rw [List.getD_eq_getElem?_getD,List.getElem?_eq_getElem h]; exact List.getElem_mem h
theorem a3R {α:Type} {l:List α} {x d:α} (h:x∈l):∃ i,i<l.length∧l.getD i d=x:=by
  obtain ⟨i,hi,e⟩:=List.getElem_of_mem h
  exact ⟨i,hi,by rw [List.getD_eq_getElem?_getD,List.getElem?_eq_getElem hi,e]; rfl⟩
theorem T8 {α:Type} {l:List α} {i j:Nat} {x d:α} (h:i<l.length):(l.set i x).getD j d=if j=i then x else l.getD j d:=by
  rw [List.getD_eq_getElem?_getD,List.getD_eq_getElem?_getD,List.getElem?_set]
  by_cases e:i=j
  · subst e; simp [h]
  · rw [if_neg e,if_neg (fun h=>e h.symm)]
theorem eq_of_getD {α:Type} {l m:List α} {d:α} (hl:l.length=m.length) (h:∀ i,i<l.length→l.getD i d=m.getD i d):l=m:=by
  refine List.ext_getElem hl (fun i h1 h2=>?_)
  have:=h i h1
  rwa [List.getD_eq_getElem?_getD,List.getD_eq_getElem?_getD,List.getElem?_eq_getElem h1,List.getElem?_eq_getElem h2] at this
theorem a3m {α:Type} {l m:List α} {i:Nat} {d:α} (h:l.length≤i):(l++m).getD i d=m.getD (i - l.length) d:=by
  rw [List.getD_eq_getElem?_getD,List.getD_eq_getElem?_getD,List.getElem?_append_right h]
theorem a9p:∀ {n:Nat} {l:List Nat},l.Nodup→(∀ x∈l,x<n)→l.length≤n
  | 0,[],_,_=>Nat.le_refl _
  | 0,x::l,_,h=>absurd (h x (by simp)) (by omega)
  | n+1,l,hn,h=>by
    have h1:=a9p (n:=n) (l:=l.filter (fun x=>decide (x<n))) (hn.filter _) (fun x hx=>of_decide_eq_true (List.mem_filter.1 hx).2)
    have h2:∀ {l:List Nat},l.Nodup→(∀ x∈l,x<n+1)→l.length≤(l.filter (fun x=>decide (x<n))).length+1:=by
      intro l
      induction l with
      | nil=>intro _ _; simp
      | cons x l ih =>
        intro hn h
        obtain ⟨hx,hn'⟩:=List.nodup_cons.1 hn
        by_cases e:x<n
        · have:=ih hn' (fun y hy=>h y (by simp [hy]))
          rw [List.filter_cons,if_pos (decide_eq_true e)]
          simp only [List.length_cons]; omega
        · have ex:x=n:=by have:=h x (by simp); omega
          rw [List.filter_cons,if_neg (by simp [e])]
          have:l.filter (fun x=>decide (x<n))=l:=List.filter_eq_self.2 (fun y hy=>decide_eq_true (by
            have h3:=h y (by simp [hy])
            rcases Nat.lt_or_ge y n with h4|h4
            · exact h4
            · exfalso
              have:y=n:=by omega
              exact hx (by rw [ex,← this]; exact hy)))
          rw [this]; simp
    have:=h2 hn h
    omega
def Q5 {α:Type} (p:α→Bool):List α→Nat→Int
  | [],_=>-1
  | x::l,i=>if p x=true then (i:Int) else Q5 p l (i+1)
def idxOf {α:Type} (p:α→Bool) (l:List α):Int:=Q5 p l 0
theorem a4U {α:Type} {p:α→Bool}:∀ {l:List α} {i:Nat},0≤Q5 p l i↔∃ x∈l,p x=true
  | [],i=>by simp [Q5]
  | x::l,i=>by
    rw [Q5]
    split
    · rename_i h; exact ⟨fun _=>⟨x,by simp,h⟩,fun _=>by omega⟩
    · rename_i h
      rw [a4U]
      constructor
      · rintro ⟨y,h1,h2⟩; exact ⟨y,by simp [h1],h2⟩
      · rintro ⟨y,h1,h2⟩
        rcases List.mem_cons.1 h1 with rfl|h1
        · exact absurd h2 h
        · exact ⟨y,h1,h2⟩
theorem a5L {α:Type} {p:α→Bool} {l:List α}:decide (0≤idxOf p l)=l.any p:=by
  cases e:l.any p with
  | true =>
    obtain ⟨x,h1,h2⟩:=List.any_eq_true.1 e
    exact decide_eq_true (a4U.2 ⟨x,h1,h2⟩)
  | false =>
    refine decide_eq_false (fun h=>?_)
    obtain ⟨x,h1,h2⟩:=a4U.1 h
    rw [List.any_eq_true.2 ⟨x,h1,h2⟩] at e
    cases e
end Go.Proofs.Ytekbamiaenbhjaa
