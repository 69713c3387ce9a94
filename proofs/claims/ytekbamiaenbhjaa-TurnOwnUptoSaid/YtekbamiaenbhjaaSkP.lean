/- Skeen's numbers: what a process may be, what an offer and a fixing make of it (plain). No condition but those named. -/
import Derived.Test.YtekbamiaenbhjaaSkA
namespace Go.Proofs.Ytekbamiaenbhjaa
open Go.Ex Go.Sort
set_option maxRecDepth 100000
abbrev X4:Type:=Int×Int×List w7×Unit
abbrev dW:w7:=(0,(0,0,()),false,())
def H9 (me A6:Int) (ws:List w7) (i:Nat):Int :=
  if K4 (ws.getD i dW).2.1.1 1 A6=false then 1 else if K4 (ws.getD i dW).2.1.2.1 0 5=false then 1 else if (ws.getD i dW).1<0 then 1
  else if (ws.getD i dW).2.2.1=false∧(ws.getD i dW).2.1.2.1≠me then 4 else if 0<i∧K9 (ws.getD i dW).2.1 (ws.getD (i - 1) dW).2.1≤0 then 4
  else if (ws.take i).any (C2 (ws.getD i dW).1)=true then 4 else 0
def M5 (f:Nat→Int):List Nat→Int
  | []=>0
  | i::l=>if f i≠0 then f i else M5 f l
def a5v:List w7→Bool
  | []=>false
  | w::_=>w.2.2.1
def H4 (s:X4):Int :=
  if K4 s.1 0 5=false then 1 else if K4 s.2.1 0 16777215=false then 1 else if 40<s.2.2.1.length then 2
  else if M5 (H9 s.1 s.2.1 s.2.2.1) (List.range' 0 s.2.2.1.length)≠0 then M5 (H9 s.1 s.2.1 s.2.2.1) (List.range' 0 s.2.2.1.length)
  else if a5v s.2.2.1=true then 4 else 0
def Q8:X4:=(0,0,[],())
def noN:M3:=(0,0,())
def S5 (s:X4) (id:Int):X4×M3×Int×Unit :=
  if H4 s≠0 then (Q8,noN,H4 s,()) else if id<0 then (Q8,noN,1,()) else if s.2.2.1.any (C2 id)=true then (Q8,noN,7,()) else if s.2.2.1.length=40 then (Q8,noN,8,())
  else if s.2.1=16777215 then (Q8,noN,8,()) else ((s.1,s.2.1+1,s.2.2.1++[(id,(s.2.1+1,s.1,()),false,())],()),(s.2.1+1,s.1,()),0,())
def N3 (w:w7):Bool:=w.2.2.1
def a0m (ws:List w7) (id:Int) (n:M3):List w7:=T6 (S6 a0z) (ws.set (idxOf (l5 id) ws).toNat ((ws.getD (idxOf (l5 id) ws).toNat dW).1,n,true,()))
def fixF (s:X4) (id:Int) (n:M3):X4×List Int×Int×Unit :=
  if H4 s≠0 then (Q8,[],H4 s,()) else if K4 n.1 1 16777215=false then (Q8,[],1,()) else if K4 n.2.1 0 5=false then (Q8,[],1,()) else if idxOf (l5 id) s.2.2.1<0 then (Q8,[],6,())
  else if K9 n (s.2.2.1.getD (idxOf (l5 id) s.2.2.1).toNat dW).2.1<0 then (Q8,[],10,()) else if s.2.2.1.any (taken id n)=true then (Q8,[],10,())
  else ((s.1,if s.2.1<n.1 then n.1 else s.2.1,(a0m s.2.2.1 id n).dropWhile N3,()),((a0m s.2.2.1 id n).takeWhile N3).map (·.1),0,())

/-! ### what checks say -/
theorem a81 {f:Nat→Int}:∀ {l:List Nat},M5 f l=0↔∀ i∈l,f i=0
  | []=>by simp [M5]
  | i::l=>by
    unfold M5
    by_cases h:f i=0
    · rw [if_neg (fun g=>g h),a81 (l:=l)]
      simp [h]
    · rw [if_pos h]
      exact ⟨fun g=>absurd g h,fun g=>absurd (g i (by simp)) h⟩
def WOk (me A6:Int) (w:w7):Prop:=(1≤w.2.1.1∧w.2.1.1≤A6)∧(0≤w.2.1.2.1∧w.2.1.2.1≤5)∧0≤w.1∧(w.2.2.1=false→w.2.1.2.1=me)
theorem b90 {a b:M3}:¬ K9 a b≤0↔K9 b a<0:=by rw [b9Z,a1n]; omega
theorem a3A {me A6:Int} {ws:List w7} {i:Nat}:H9 me A6 ws i=0↔WOk me A6 (ws.getD i dW)∧(0<i→K9 (ws.getD (i - 1) dW).2.1 (ws.getD i dW).2.1<0)∧(ws.take i).any (C2 (ws.getD i dW).1)=false:=by
  unfold H9 WOk
  generalize ws.getD i dW=w
  generalize ws.getD (i - 1) dW=v
  generalize (ws.take i).any (C2 w.1)=an
  simp only [b3S,← b90]
  split
  · rename_i h; exact ⟨fun g=>(by cases g),fun g=>absurd g.1.1 h⟩
  · rename_i h1
    split
    · rename_i h; exact ⟨fun g=>(by cases g),fun g=>absurd g.1.2.1 h⟩
    · rename_i h2
      split
      · rename_i h; exact ⟨fun g=>(by cases g),fun g=>by have:=g.1.2.2.1; omega⟩
      · rename_i h3
        split
        · rename_i h; exact ⟨fun g=>(by cases g),fun g=>absurd (g.1.2.2.2 h.1) h.2⟩
        · rename_i h4
          split
          · rename_i h; exact ⟨fun g=>(by cases g),fun g=>absurd h.2 (g.2.1 h.1)⟩
          · rename_i h5
            split
            · rename_i h; exact ⟨fun g=>(by cases g),fun g=>by rw [g.2.2] at h; cases h⟩
            · rename_i h6
              refine ⟨fun _=>⟨⟨Decidable.not_not.1 h1,Decidable.not_not.1 h2,by omega,fun hf=>?_⟩,fun hi hc=>h5 ⟨hi,hc⟩,by simpa using h6⟩,fun _=>rfl⟩
              exact Decidable.not_not.1 (fun hne=>h4 ⟨hf,hne⟩)
structure c1k (s:X4):Prop where
  me:0≤s.1∧s.1≤5
  A6:0≤s.2.1∧s.2.1≤16777215
  len:s.2.2.1.length≤40
  num:∀ w∈s.2.2.1,WOk s.1 s.2.1 w
  inc:s.2.2.1.Pairwise (fun a b=>K9 a.2.1 b.2.1<0)
  ids:s.2.2.1.Pairwise (fun a b=>a.1≠b.1)
  hd:a5v s.2.2.1=false
theorem b4M {a b c:M3} (h1:K9 a b<0) (h2:K9 b c<0):K9 a c<0:=by rw [a1n] at *; omega
theorem b7I {me A6:Int} {ws:List w7}:(∀ i,i<ws.length→H9 me A6 ws i=0)↔(∀ w∈ws,WOk me A6 w)∧ws.Pairwise (fun a b=>K9 a.2.1 b.2.1<0)∧ws.Pairwise (fun a b=>a.1≠b.1):=by
  have hg:∀ i,(h:i<ws.length)→ws.getD i dW=ws[i]:=fun i h=>by rw [List.getD_eq_getElem?_getD,List.getElem?_eq_getElem h]; rfl
  constructor
  · intro h
    refine ⟨fun w hw=>?_,List.pairwise_iff_getElem.2 ?_,List.pairwise_iff_getElem.2 ?_⟩
    · obtain ⟨i,hi,rfl⟩:=List.getElem_of_mem hw
      rw [← hg i hi]
      exact (a3A.1 (h i hi)).1
    · have key:∀ j,(hj:j<ws.length)→∀ i,(hi:i<j)→K9 (ws[i]'(by omega)).2.1 ws[j].2.1<0:=by
        intro j
        induction j with
        | zero=>intro _ i hi; omega
        | succ j ih =>
          intro hj i hi
          have h1:=(a3A.1 (h (j+1) hj)).2.1 (by omega)
          rw [Nat.add_sub_cancel,hg j (by omega),hg (j+1) hj] at h1
          by_cases hij:i=j
          · subst hij; exact h1
          · exact b4M (ih (by omega) i (by omega)) h1
      intro i j hi hj hij
      exact key j hj i hij
    · intro i j hi hj hij e
      have h1:=(a3A.1 (h j hj)).2.2
      rw [hg j hj,List.any_eq_false] at h1
      refine h1 ws[i] ?_ ?_
      · rw [List.mem_take_iff_getElem]
        exact ⟨i,by omega,rfl⟩
      · rw [C2,decide_eq_true_eq]; exact e
  · rintro ⟨h1,h2,h3⟩ i hi
    rw [List.pairwise_iff_getElem] at h2 h3
    refine a3A.2 ⟨by rw [hg i hi]; exact h1 _ (List.getElem_mem ..),fun h0=>?_,?_⟩
    · rw [hg i hi,hg (i - 1) (by omega)]
      exact h2 (i - 1) i (by omega) hi (by omega)
    · rw [List.any_eq_false]
      intro w hw
      obtain ⟨j,hj,rfl⟩:=List.mem_take_iff_getElem.1 hw
      rw [hg i hi,C2,decide_eq_true_eq]
      exact h3 j i (by omega) hi (by omega)
theorem a88 {s:X4}:H4 s=0↔c1k s:=by
  have hw:M5 (H9 s.1 s.2.1 s.2.2.1) (List.range' 0 s.2.2.1.length)=0↔∀ i,i<s.2.2.1.length→H9 s.1 s.2.1 s.2.2.1 i=0:=by
    rw [a81]
    exact ⟨fun h i hi=>h i (by rw [List.mem_range'_1]; omega),fun h i hi=>h i (by rw [List.mem_range'_1] at hi; omega)⟩
  rw [b7I] at hw
  unfold H4
  simp only [b3S]
  constructor
  · intro h
    split at h
    · cases h
    · rename_i h1
      split at h
      · cases h
      · rename_i h2
        split at h
        · cases h
        · rename_i h3
          split at h
          · rename_i h4; exact absurd h h4
          · rename_i h4
            obtain ⟨g1,g2,g3⟩:=hw.1 (Decidable.not_not.1 h4)
            split at h
            · cases h
            · rename_i h5
              exact ⟨Decidable.not_not.1 h1,Decidable.not_not.1 h2,by omega,g1,g2,g3,by simpa using h5⟩
  · rintro ⟨h1,h2,h3,h4,h5,h6,h7⟩
    rw [if_neg (fun g=>g h1),if_neg (fun g=>g h2),if_neg (by omega),if_neg (fun g=>g (hw.2 ⟨h4,h5,h6⟩)),if_neg (by rw [h7]; simp)]

/-! ### an offer -/
/-! ### a fixing -/
theorem b9C {a b:M3} (h1:¬ K9 a b<0) (h2:¬ K9 b a<0):a=b:=by
  rw [a1n] at h1 h2
  obtain ⟨a1,a2,⟨⟩⟩:=a
  obtain ⟨b1,b2,⟨⟩⟩:=b
  have h1:¬ (a1<b1∨(a1=b1∧a2<b2)):=h1
  have h2:¬ (b1<a1∨(b1=a1∧b2<a2)):=h2
  rw [show a1=b1 by omega,show a2=b2 by omega]
theorem b6N {a:M3}:¬ K9 a a<0:=by rw [a1n]; omega
theorem b0N {α:Type} {p:α→Bool} {d:α}:∀ {l:List α} {j:Nat},¬ I0 p l j<0→∃ k,I0 p l j=((j+k:Nat):Int)∧k<l.length∧p (l.getD k d)=true
  | [],j,h=>absurd (show I0 p [] j<0 by rw [I0]; decide) h
  | x::l,j,h=>by
    by_cases hx:p x=true
    · exact ⟨0,by rw [I0,if_pos hx]; rfl,by simp,hx⟩
    · rw [I0,if_neg hx] at h ⊢
      obtain ⟨k,h1,h2,h3⟩:=b0N (d:=d) h
      exact ⟨k+1,by rw [h1]; congr 1; omega,by simp [h2],h3⟩
theorem c05 {α:Type} {p:α→Bool} {l:List α} {d:α} (h:¬ idxOf p l<0):(idxOf p l).toNat<l.length∧p (l.getD (idxOf p l).toNat d)=true:=by
  obtain ⟨k,h1,h2,h3⟩:=b0N (d:=d) h
  have:idxOf p l=((0+k:Nat):Int):=h1
  rw [this,Int.toNat_natCast,Nat.zero_add]
  exact ⟨h2,h3⟩
theorem b9f {ws:List w7} {id:Int} (h:¬ idxOf (l5 id) ws<0):(idxOf (l5 id) ws).toNat<ws.length∧(ws.getD (idxOf (l5 id) ws).toNat dW).1=id∧(ws.getD (idxOf (l5 id) ws).toNat dW).2.2.1=false:=by
  obtain ⟨h1,h2⟩:=c05 (d:=dW) h
  simp only [l5,Bool.and_eq_true,decide_eq_true_eq,Bool.not_eq_true'] at h2
  exact ⟨h1,h2.1,h2.2⟩
section
variable {ws:List w7} {k:Nat} {id:Int} {n:M3}
theorem b7T (hk:k<ws.length) (hid:ws[k].1=id) (h5:ws.Pairwise (fun a b=>K9 a.2.1 b.2.1<0)) (h6:ws.Pairwise (fun a b=>a.1≠b.1)) (ht:ws.any (taken id n)=false):(ws.set k (id,n,true,())).Pairwise (fun a b=>a.2.1≠b.2.1):=by
  rw [List.pairwise_iff_getElem] at h5 h6 ⊢
  rw [List.any_eq_false] at ht
  have hother:∀ i,(hi:i<ws.length)→i≠k→ws[i].2.1≠n:=by
    intro i hi hik e
    have:=ht ws[i] (List.getElem_mem ..)
    rw [taken,Bool.and_eq_true,Bool.not_eq_true',decide_eq_false_iff_not,decide_eq_true_eq] at this
    refine this ⟨fun e2=>?_,e⟩
    rcases Nat.lt_or_gt_of_ne hik with h|h
    · exact h6 i k hi hk h (e2.trans hid.symm)
    · exact h6 k i hk hi h (hid.trans e2.symm)
  intro i j hi hj hij
  rw [List.length_set] at hi hj
  rw [List.getElem_set,List.getElem_set]
  split
  · rename_i e
    rw [if_neg (by omega)]
    exact fun e9=>hother j hj (by omega) e9.symm
  · rename_i e
    split
    · exact hother i hi (by omega)
    · intro e9
      have:=h5 i j hi hj hij
      rw [e9] at this
      exact b6N this
theorem c1F {l:List w7} (h:l.Pairwise (fun a b=>a.2.1≠b.2.1)):∀ a∈l,∀ b∈l,S6 a0z a b=false→S6 a0z b a=false→a=b:=by
  intro a ha b hb h1 h2
  rw [S6,decide_eq_false_iff_not,a0z] at h1 h2
  have e:=b9C h1 h2
  obtain ⟨i,hi,rfl⟩:=List.getElem_of_mem ha
  obtain ⟨j,hj,rfl⟩:=List.getElem_of_mem hb
  rw [List.pairwise_iff_getElem] at h
  rcases Nat.lt_trichotomy i j with g|g|g
  · exact absurd e (h i j hi hj g)
  · subst g; rfl
  · exact absurd e.symm (h j i hj hi g)
end
theorem c1R {ws:List w7} {k:Nat} (hk:k<ws.length) (v:Int) (n:M3):(ws.set k (v,n,(ws.getD k (0,(0,0,()),false,())).2.2)).set k (((ws.set k (v,n,(ws.getD k (0,(0,0,()),false,())).2.2)).getD k (0,(0,0,()),false,())).1,((ws.set k (v,n,(ws.getD k (0,(0,0,()),false,())).2.2)).getD k (0,(0,0,()),false,())).2.1,true,((ws.set k (v,n,(ws.getD k (0,(0,0,()),false,())).2.2)).getD k (0,(0,0,()),false,())).2.2.2)=ws.set k (v,n,true,()):=by
  have e:(ws.set k (v,n,(ws.getD k (0,(0,0,()),false,())).2.2)).getD k (0,(0,0,()),false,())=(v,n,(ws.getD k (0,(0,0,()),false,())).2.2):=by
    rw [List.getD_eq_getElem?_getD,List.getElem?_set_self hk]; rfl
  rw [e,List.set_set]
theorem b97 {me A6:Int} {ws:List w7} (h:c1k (me,A6,ws,())) {id:Int} {n:M3} (h3:¬ idxOf (l5 id) ws<0) (h4:ws.any (taken id n)=false):∀ a∈ws.set (idxOf (l5 id) ws).toNat ((ws.getD (idxOf (l5 id) ws).toNat dW).1,n,true,()),∀ b∈ws.set (idxOf (l5 id) ws).toNat ((ws.getD (idxOf (l5 id) ws).toNat dW).1,n,true,()),S6 a0z a b=false→S6 a0z b a=false→a=b:=by
  obtain ⟨k1,k2,k3⟩:=b9f h3
  have a5:ws.Pairwise (fun a b=>K9 a.2.1 b.2.1<0):=h.inc
  have a6:ws.Pairwise (fun a b=>a.1≠b.1):=h.ids
  rw [k2]
  generalize (idxOf (l5 id) ws).toNat=k at *
  have hg:ws.getD k dW=ws[k]:=by rw [List.getD_eq_getElem?_getD,List.getElem?_eq_getElem k1]; rfl
  rw [hg] at k2
  exact c1F (b7T k1 k2 a5 a6 h4)
end Go.Proofs.Ytekbamiaenbhjaa
