/- What a receiver does with a parcel, in plain terms. -/
import Derived.Test.YtekbamiaenbhjaaLaneC
namespace Go.Proofs.Ytekbamiaenbhjaa
open Go.Ex
def K9:List n9→Int→Int×List n9×List (List UInt8)
  | [],n=>(n,[],[])
  | p::l,n=>if p.1=n then ((K9 l (n+1)).1,(K9 l (n+1)).2.1,p.2.1::(K9 l (n+1)).2.2) else (n,p::l,[])
def a3V (b:Int):List n9→Prop
  | []=>True
  | p::l=>b<p.1∧a3V p.1 l
theorem a3U {b:Int}:∀ {l:List n9} {p:n9},a3V b l→p∈l→b<p.1
  | q::l,p,⟨h1,h2⟩,hp=>by
    rcases List.mem_cons.1 hp with rfl|hp
    · exact h1
    · have:=a3U h2 hp; omega
theorem b09 {c:Int}:∀ {l:List n9} {b:Int},a3V b l→(∀ p∈l,p.1<c)→l≠[]→(l.length:Int)+b<c
  | [p],b,⟨h1,_⟩,h,_=>by have:=h p List.mem_cons_self; show ((1:Nat):Int)+b<c; omega
  | p::x::l,b,⟨h1,h2⟩,h,_=>by
    have:=b09 (l:=x::l) h2 (fun y hy=>h y (List.mem_cons_of_mem _ hy)) (by simp)
    rw [List.length_cons]; omega
def a1D (p:n9) (l:List n9):List n9:=l.take (W4 p.1 l)++p::l.drop (W4 p.1 l)
theorem b7t {p x:n9} {l:List n9}:a1D p (x::l)=if x.1<p.1 then x::a1D p l else p::x::l:=by
  rw [a1D,W4,List.takeWhile_cons]
  by_cases e:x.1<p.1
  · rw [if_pos (decide_eq_true e),if_pos e]; rfl
  · rw [if_neg (by rw [decide_eq_true_eq]; exact e),if_neg e]; rfl
theorem a9O {p:n9}:∀ {l:List n9} {b:Int},a3V b l→b<p.1→(∀ x∈l,x.1≠p.1)→a3V b (a1D p l)
  | [],_,_,h,_=>⟨h,trivial⟩
  | x::l,b,⟨h1,h2⟩,h,hn=>by
    rw [b7t]
    have hx:=hn x List.mem_cons_self
    by_cases e:x.1<p.1
    · rw [if_pos e]; exact ⟨h1,a9O h2 e (fun y hy=>hn y (List.mem_cons_of_mem _ hy))⟩
    · rw [if_neg e]; exact ⟨h,by omega,h2⟩
theorem b8Q {p y:n9} {l:List n9}:y∈a1D p l↔y=p∨y∈l:=by
  have h:y∈l↔y∈l.take (W4 p.1 l)∨y∈l.drop (W4 p.1 l):=by rw [← List.mem_append,List.take_append_drop]
  rw [a1D,List.mem_append,List.mem_cons,h]
  constructor
  · rintro (a|a|a)
    · exact .inr (.inl a)
    · exact .inl a
    · exact .inr (.inr a)
  · rintro (a|a|a)
    · exact .inr (.inl a)
    · exact .inl a
    · exact .inr (.inr a)
theorem b8R {p:n9} {l:List n9}:(a1D p l).length=l.length+1:=by
  rw [a1D,List.length_append,List.length_cons,List.length_take,List.length_drop]; omega
theorem a2x:∀ {l:List n9} {b:Int},a3V b l↔∀ i,i<l.length→a88 b l i<(l.getD i U5).1
  | [],b=>⟨fun _ i hi=>absurd hi (Nat.not_lt_zero _),fun _=>trivial⟩
  | p::l,b=>by
    constructor
    · rintro ⟨h1,h2⟩ i hi
      match i,hi with
      | 0,_=>exact h1
      | 1,hi=>exact (a2x.1 h2) 0 (by simpa using hi)
      | i+2,hi=>exact (a2x.1 h2) (i+1) (by rw [List.length_cons] at hi; omega)
    · intro h
      refine ⟨h 0 (by simp),a2x.2 fun i hi=>?_⟩
      match i,hi with
      | 0,hi=>exact h 1 (by simpa using hi)
      | i+1,hi=>exact h (i+2) (by rw [List.length_cons]; omega)
structure a9f (r:Int) (l:List n9):Prop where
  rg:0≤r∧r≤16777215
  len:l.length≤16
  up:a3V r l
  b:∀ p∈l,p.1<r+16∧J0 p.2.1=false
theorem b31 {r:Int} {l:List n9} {u:Unit}:toE (r,l,u)=0↔a9f r l:=by
  have hd:toE (r,l,u)=if Z7 r 0 16777215=false then 1 else if (16:Int)<l.length then 2 else M8 (a1h r l) l.length:=rfl
  rw [hd]
  constructor
  · intro h
    split at h
    · cases h
    rename_i c1
    split at h
    · cases h
    rename_i c2
    have h:=a1O.1 h
    have hE:∀ i,i<l.length→a88 r l i<(l.getD i U5).1∧(l.getD i U5).1<r+16∧J0 (l.getD i U5).2.1=false:=fun i hi=>by
      have:=h i hi
      unfold a1h at this
      split at this
      · cases this
      split at this
      · cases this
      split at this
      · cases this
      rename_i d1 d2 d3
      exact ⟨by omega,by omega,by simpa using d3⟩
    refine ⟨a0B.1 (Bool.not_eq_false _▸c1),by omega,a2x.2 fun i hi=>(hE i hi).1,fun p hp=>?_⟩
    obtain ⟨i,hi,rfl⟩:=List.getElem_of_mem hp
    have:=hE i hi
    rw [List.getD_eq_getElem?_getD,List.getElem?_eq_getElem hi] at this
    exact this.2
  · intro h
    rw [if_neg (by rw [a0B.2 h.rg]; simp),if_neg (by have:=h.len; omega)]
    refine a1O.2 fun i hi=>?_
    have h1:=a2x.1 h.up i hi
    obtain ⟨h2,h3⟩:=h.b (l.getD i U5) (P4 hi)
    rw [a1h,if_neg (by omega),if_neg (by omega),if_neg (by rw [h3]; simp)]
theorem b3i {l:List n9}:∀ {b:Int},a3V b l→∀ i j,i<j→j<l.length→(l.getD i U5).1<(l.getD j U5).1:=by
  induction l with
  | nil=>intro b _ i j _ h; exact absurd h (Nat.not_lt_zero _)
  | cons p l ih =>
    rintro b ⟨h1,h2⟩ i j hij hj
    match i,j,hij,hj with
    | 0,j+1,_,hj=>exact a3U h2 (P4 (by simpa using hj))
    | i+1,j+1,hij,hj=>exact ih h2 i j (by omega) (by simpa using hj)
end Go.Proofs.Ytekbamiaenbhjaa
