/- What a receiver does with a parcel, in plain terms. -/
import Derived.Test.YtegigiecamjobaaLaneC
namespace Go.Proofs.Ytegigiecamjobaa
open Go.Ex
def popR:List ParcelD→Int→Int×List ParcelD×List (List UInt8)
  | [],n=>(n,[],[])
  | p::l,n=>if p.1=n then ((popR l (n+1)).1,(popR l (n+1)).2.1,p.2.1::(popR l (n+1)).2.2) else (n,p::l,[])
def rise (b:Int):List ParcelD→Prop
  | []=>True
  | p::l=>b<p.1∧rise p.1 l
theorem rise_mem {b:Int}:∀ {l:List ParcelD} {p:ParcelD},rise b l→p∈l→b<p.1
  | q::l,p,⟨h1,h2⟩,hp=>by
    rcases List.mem_cons.1 hp with rfl|hp
    · exact h1
    · have:=rise_mem h2 hp; omega
theorem popR_ok:∀ {l:List ParcelD} {n:Int},rise (n - 1) l→rise (popR l n).1 (popR l n).2.1∧(popR l n).1=n+(popR l n).2.2.length∧(popR l n).2.1.length+(popR l n).2.2.length=l.length∧(∀ p∈(popR l n).2.1,p∈l)
  | [],n,_=>⟨trivial,by simp [popR],by simp [popR],by simp [popR]⟩
  | p::l,n,⟨h1,h2⟩=>by
    rw [popR]
    by_cases e:p.1=n
    · rw [if_pos e]
      obtain ⟨a1,a2,a3,a4⟩:=popR_ok (l:=l) (n:=n+1) (by rw [show n+1 - 1=p.1 by omega]; exact h2)
      refine ⟨a1,?_,?_,fun q hq=>List.mem_cons_of_mem _ (a4 q hq)⟩
      · show (popR l (n+1)).1=n+((p.2.1::(popR l (n+1)).2.2).length:Int)
        rw [List.length_cons]; omega
      · show (popR l (n+1)).2.1.length+(p.2.1::(popR l (n+1)).2.2).length=(p::l).length
        rw [List.length_cons,List.length_cons]; omega
    · rw [if_neg e]
      exact ⟨⟨by show n<p.1; omega,h2⟩,by simp,by simp,fun q hq=>hq⟩
theorem rise_len {c:Int}:∀ {l:List ParcelD} {b:Int},rise b l→(∀ p∈l,p.1<c)→l≠[]→(l.length:Int)+b<c
  | [p],b,⟨h1,_⟩,h,_=>by have:=h p List.mem_cons_self; show ((1:Nat):Int)+b<c; omega
  | p::x::l,b,⟨h1,h2⟩,h,_=>by
    have:=rise_len (l:=x::l) h2 (fun y hy=>h y (List.mem_cons_of_mem _ hy)) (by simp)
    rw [List.length_cons]; omega
def insF (p:ParcelD) (l:List ParcelD):List ParcelD:=l.take (atF p.1 l)++p::l.drop (atF p.1 l)
theorem insF_cons {p x:ParcelD} {l:List ParcelD}:insF p (x::l)=if x.1<p.1 then x::insF p l else p::x::l:=by
  rw [insF,atF,List.takeWhile_cons]
  by_cases e:x.1<p.1
  · rw [if_pos (decide_eq_true e),if_pos e]; rfl
  · rw [if_neg (by rw [decide_eq_true_eq]; exact e),if_neg e]; rfl
theorem insF_rise {p:ParcelD}:∀ {l:List ParcelD} {b:Int},rise b l→b<p.1→(∀ x∈l,x.1≠p.1)→rise b (insF p l)
  | [],_,_,h,_=>⟨h,trivial⟩
  | x::l,b,⟨h1,h2⟩,h,hn=>by
    rw [insF_cons]
    have hx:=hn x List.mem_cons_self
    by_cases e:x.1<p.1
    · rw [if_pos e]; exact ⟨h1,insF_rise h2 e (fun y hy=>hn y (List.mem_cons_of_mem _ hy))⟩
    · rw [if_neg e]; exact ⟨h,by omega,h2⟩
theorem insF_mem {p y:ParcelD} {l:List ParcelD}:y∈insF p l↔y=p∨y∈l:=by
  have h:y∈l↔y∈l.take (atF p.1 l)∨y∈l.drop (atF p.1 l):=by rw [← List.mem_append,List.take_append_drop]
  rw [insF,List.mem_append,List.mem_cons,h]
  constructor
  · rintro (a|a|a)
    · exact .inr (.inl a)
    · exact .inl a
    · exact .inr (.inr a)
  · rintro (a|a|a)
    · exact .inr (.inl a)
    · exact .inl a
    · exact .inr (.inr a)
theorem insF_len {p:ParcelD} {l:List ParcelD}:(insF p l).length=l.length+1:=by
  rw [insF,List.length_append,List.length_cons,List.length_take,List.length_drop]; omega
theorem rise_iff:∀ {l:List ParcelD} {b:Int},rise b l↔∀ i,i<l.length→befE b l i<(l.getD i p00).1
  | [],b=>⟨fun _ i hi=>absurd hi (Nat.not_lt_zero _),fun _=>trivial⟩
  | p::l,b=>by
    constructor
    · rintro ⟨h1,h2⟩ i hi
      match i,hi with
      | 0,_=>exact h1
      | 1,hi=>exact (rise_iff.1 h2) 0 (by simpa using hi)
      | i+2,hi=>exact (rise_iff.1 h2) (i+1) (by rw [List.length_cons] at hi; omega)
    · intro h
      refine ⟨h 0 (by simp),rise_iff.2 fun i hi=>?_⟩
      match i,hi with
      | 0,hi=>exact h 1 (by simpa using hi)
      | i+1,hi=>exact h (i+2) (by rw [List.length_cons]; omega)
structure ToOk (r:Int) (l:List ParcelD):Prop where
  rg:0≤r∧r≤16777215
  len:l.length≤16
  up:rise r l
  b:∀ p∈l,p.1<r+16∧llong p.2.1=false
theorem toE_iff {r:Int} {l:List ParcelD} {u:Unit}:toE (r,l,u)=0↔ToOk r l:=by
  have hd:toE (r,l,u)=if inF r 0 16777215=false then 1 else if (16:Int)<l.length then 2 else firstE (earlyE r l) l.length:=rfl
  rw [hd]
  constructor
  · intro h
    split at h
    · cases h
    rename_i c1
    split at h
    · cases h
    rename_i c2
    have h:=firstE_zero.1 h
    have hE:∀ i,i<l.length→befE r l i<(l.getD i p00).1∧(l.getD i p00).1<r+16∧llong (l.getD i p00).2.1=false:=fun i hi=>by
      have:=h i hi
      unfold earlyE at this
      split at this
      · cases this
      split at this
      · cases this
      split at this
      · cases this
      rename_i d1 d2 d3
      exact ⟨by omega,by omega,by simpa using d3⟩
    refine ⟨inF_iff.1 (Bool.not_eq_false _▸c1),by omega,rise_iff.2 fun i hi=>(hE i hi).1,fun p hp=>?_⟩
    obtain ⟨i,hi,rfl⟩:=List.getElem_of_mem hp
    have:=hE i hi
    rw [List.getD_eq_getElem?_getD,List.getElem?_eq_getElem hi] at this
    exact this.2
  · intro h
    rw [if_neg (by rw [inF_iff.2 h.rg]; simp),if_neg (by have:=h.len; omega)]
    refine firstE_zero.2 fun i hi=>?_
    have h1:=rise_iff.1 h.up i hi
    obtain ⟨h2,h3⟩:=h.b (l.getD i p00) (getD_mem hi)
    rw [earlyE,if_neg (by omega),if_neg (by omega),if_neg (by rw [h3]; simp)]
theorem rise_sorted {l:List ParcelD}:∀ {b:Int},rise b l→∀ i j,i<j→j<l.length→(l.getD i p00).1<(l.getD j p00).1:=by
  induction l with
  | nil=>intro b _ i j _ h; exact absurd h (Nat.not_lt_zero _)
  | cons p l ih =>
    rintro b ⟨h1,h2⟩ i j hij hj
    match i,j,hij,hj with
    | 0,j+1,_,hj=>exact rise_mem h2 (getD_mem (by simpa using hj))
    | i+1,j+1,hij,hj=>exact ih h2 i j (by omega) (by simpa using hj)
end Go.Proofs.Ytegigiecamjobaa
