/- What match.Most answers: pairs of the list, nobody in two, and no other such pairs are more. No condition. -/
import Derived.Test.YtekbamiaenbhjaaMatchR
import Derived.Test.YtekbamiaenbhjaaListD
namespace Go.Proofs.Ytekbamiaenbhjaa
open Go.Ex
set_option maxRecDepth 100000
theorem c1m {n:Nat} {w:List (List Bool)} {p:s5} (hw:∀ a,a<w.length→(w.getD a []).length=n) (h1:p.1.toNat<w.length) (h2:p.2.1.toNat<n) (x y:Nat) :
    ((mark w p).getD x []).getD y false=true↔(w.getD x []).getD y false=true∨(p.1.toNat=x∧p.2.1.toNat=y):=by
  rw [mark,B8 h1]
  by_cases e:x=p.1.toNat
  · subst e
    rw [if_pos rfl,B8 (by rw [hw _ h1]; exact h2)]
    by_cases e2:y=p.2.1.toNat
    · subst e2; simp
    · rw [if_neg e2]
      constructor
      · intro h; exact .inl h
      · rintro (h|⟨_,h⟩)
        · exact h
        · exact absurd h.symm e2
  · rw [if_neg e]
    constructor
    · intro h; exact .inl h
    · rintro (h|⟨h,_⟩)
      · exact h
      · exact absurd h.symm e
theorem b1g {n:Nat}:∀ {l:List s5} {w:List (List Bool)},(∀ a,a<w.length→(w.getD a []).length=n)→(∀ p∈l,p.1.toNat<w.length∧p.2.1.toNat<n)→∀ x y:Nat,
    ((l.foldl mark w).getD x []).getD y false=true↔(w.getD x []).getD y false=true∨∃ p∈l,p.1.toNat=x∧p.2.1.toNat=y
  | [],w,_,_,x,y=>by simp
  | p::l,w,hw,hl,x,y=>by
    have h1:=hl p (by simp)
    rw [List.foldl_cons,b1g (l:=l) (a8q hw) (fun q hq=>by rw [a3C]; exact hl q (by simp [hq])) x y,c1m hw h1.1 h1.2]
    constructor
    · rintro ((h|h)|⟨q,hq,h⟩)
      · exact .inl h
      · exact .inr ⟨p,by simp,h⟩
      · exact .inr ⟨q,by simp [hq],h⟩
    · rintro (h|⟨q,hq,h⟩)
      · exact .inl (.inl h)
      · rcases List.mem_cons.1 hq with rfl|hq
        · exact .inl (.inr h)
        · exact .inr ⟨q,hq,h⟩
theorem b3m {m n:Nat} {l:List s5} (hm:m≤40) (hn:n≤40):∀ {a:Nat},a≤m→((List.range a).foldl (U0 (n:Int)) (a0N m n l,List.replicate n (-1),[],())).1=a0N m n l
  | 0,_=>rfl
  | a+1,ha=>by
    have ih:=b3m (l:=l) hm hn (a:=a) (by omega)
    have ok:=b0v hm hn (a5o (m:=m) (n:=n) (l:=l)) (a:=a) (by omega)
    rw [List.range_succ,List.foldl_append]
    generalize (List.range a).foldl (U0 (n:Int)) (a0N m n l,List.replicate n (-1),[],())=g at *
    have h1:=ok.may
    have k:Kept (g.1,g.2.1,List.replicate n false,()) (U0 (n:Int) g a):=S9 (ok.fresh hm hn) (by omega) (by show (a:Int)<g.1.length; omega)
    have e:(U0 (n:Int) g a).1=g.1:=k.may
    show (U0 (n:Int) g a).1=_
    rw [e,ih]
theorem c1H {m n:Nat} {l:List s5} (hm:m≤40) (hn:n≤40) (hin:inP m n l) {x:Int} {y:Nat} (hx:0≤x):P8 (a09 m n l) x y↔(x,(y:Int),())∈l:=by
  have e:(a09 m n l).1=a0N m n l:=b3m hm hn (Nat.le_refl m)
  rw [P8,e]
  have hq:=hin.2.2
  rw [a0N,Int.toNat_natCast,Int.toNat_natCast,b1g (n:=n) (fun a ha=>by rw [List.length_replicate] at ha; rw [a2R _ _ ha,List.length_replicate]) (fun p hp=>by
    have:=hq p hp
    rw [List.length_replicate]; omega)]
  constructor
  · rintro (h|⟨⟨p1,p2,⟨⟩⟩,hp,h1,h2⟩)
    · exfalso
      by_cases hx:x.toNat<m
      · rw [a2R _ _ hx] at h
        by_cases hy:y<n
        · rw [a2R _ _ hy] at h; cases h
        · rw [List.getD_eq_getElem?_getD,List.getElem?_eq_none (by rw [List.length_replicate]; omega)] at h; cases h
      · have e0:(List.replicate m (List.replicate n false)).getD x.toNat []=[]:=by rw [List.getD_eq_getElem?_getD,List.getElem?_eq_none (by rw [List.length_replicate]; omega)]; rfl
        rw [e0] at h; cases h
    · have:=hq _ hp
      have e1:p1=x:=by simp only at h1 this; omega
      have e2:p2=(y:Int):=by simp only at h2 this; omega
      rw [← e1,← e2]; exact hp
  · intro h
    exact .inr ⟨_,h,rfl,by simp⟩
theorem a3z {left:List Int}:∀ {a:Nat} {q:s5},q∈W1 left a→∃ x y:Nat,x<a∧y<left.length∧left.getD y 0=(x:Int)∧q=((x:Int),(y:Int),())
  | 0,q,h=>by cases h
  | a+1,q,h=>by
    rw [W1] at h
    have old:q∈W1 left a→∃ x y:Nat,x<a+1∧y<left.length∧left.getD y 0=(x:Int)∧q=((x:Int),(y:Int),()):=fun h=>by
      obtain ⟨x,y,h1,h2⟩:=a3z h
      exact ⟨x,y,by omega,h2⟩
    split at h
    · rename_i c
      rcases List.mem_append.1 h with h|h
      · exact old h
      · rw [List.mem_singleton] at h
        obtain ⟨k,hk,hkl,Q8,_⟩:=a8u (d:=(0:Int)) (p:=fun y=>decide ((a:Int)=y)) (l:=left) (j:=0) (by show idxOf _ left≠-1; omega)
        have hk:idxOf (fun y=>decide ((a:Int)=y)) left=(k:Int):=by rw [idxOf,hk]; omega
        exact ⟨a,k,by omega,hkl,(of_decide_eq_true Q8).symm,by rw [h,hk]⟩
    · exact old h
theorem a30 {left:List Int}:∀ {a:Nat},(W1 left a).Pairwise (fun p q=>p.1<q.1)
  | 0=>List.Pairwise.nil
  | a+1=>by
    rw [W1]
    split
    · refine List.pairwise_append.2 ⟨a30,by simp,fun p hp q hq=>?_⟩
      rw [List.mem_singleton] at hq
      subst hq
      obtain ⟨x,y,h1,_,_,e⟩:=a3z hp
      rw [e]
      show (x:Int)<(a:Int)
      omega
    · exact a30
theorem a9u {left:List Int}:∀ {a:Nat},(W1 left a).length=((List.range a).filter (fun x:Nat=>decide ((x:Int)∈left))).length
  | 0=>rfl
  | a+1=>by
    have hb:decide (0≤idxOf (fun y=>decide ((a:Int)=y)) left)=decide ((a:Int)∈left):=by
      rw [b0A]
      cases e:left.any (fun y=>decide ((a:Int)=y)) with
      | true =>
        obtain ⟨y,h1,h2⟩:=List.any_eq_true.1 e
        rw [decide_eq_true (show (a:Int)∈left by rw [of_decide_eq_true h2]; exact h1)]
      | false =>
        refine (decide_eq_false (fun h=>?_)).symm
        have:=List.any_eq_false.1 e _ h
        simp at this
    rw [W1,List.range_succ,List.filter_append,List.length_append,← a9u]
    by_cases c:(a:Int)∈left
    · rw [if_pos (of_decide_eq_true (hb.trans (decide_eq_true c))),List.length_append]
      simp [c]
    · rw [if_neg (of_decide_eq_false (hb.trans (decide_eq_false c)))]
      simp [c]
structure Match (l P:List s5):Prop where
  sub:∀ q∈P,q∈l
  one:P.Pairwise (fun p q=>p.1≠q.1)
  two:P.Pairwise (fun p q=>p.2.1≠q.2.1)
theorem b46 {m n:Int} {l:List s5} (h:(U1 m n l).2.1=0):inP m n l∧l.length≤600∧Match l (U1 m n l).1∧∀ P,Match l P→P.length≤(U1 m n l).1.length:=by
  rw [U1] at h ⊢
  split at h
  · rename_i e; exact absurd h e
  rename_i e
  rw [if_neg e]
  obtain ⟨hin,hl⟩:=b1f (Decidable.not_not.1 e)
  obtain ⟨⟨m0,m1⟩,⟨n0,n1⟩,hq⟩:=id hin
  obtain ⟨M,rfl⟩:∃ M:Nat,m=(M:Int):=⟨m.toNat,by omega⟩
  obtain ⟨N,rfl⟩:∃ N:Nat,n=(N:Int):=⟨n.toNat,by omega⟩
  have I:b0S M N M (a09 M N l):=b3n (l:=l) (by omega) (by omega) (Nat.le_refl M)
  have hed:∀ {x:Int} {y:Nat},0≤x→(P8 (a09 M N l) x y↔(x,(y:Int),())∈l):=fun hx=>c1H (by omega) (by omega) hin hx
  have hll:=I.ok.len
  show inP (M:Int) (N:Int) l∧l.length≤600∧Match l (W1 (a09 M N l).2.1 M)∧∀ P,Match l P→P.length≤(W1 (a09 M N l).2.1 M).length
  refine ⟨hin,hl,⟨fun q hq=>?_,a30.imp (fun h=>by omega),?_⟩,fun P hP=>?_⟩
  · obtain ⟨x,y,h1,h2,h3,rfl⟩:=a3z hq
    have:=I.b7I y (by omega) (by omega)
    rw [h3] at this
    exact (hed (by omega)).1 this
  · refine a30.imp_of_mem (fun {p q} hp hq hpq=>?_)
    obtain ⟨x,y,h1,h2,h3,rfl⟩:=a3z hp
    obtain ⟨x',y',h1',h2',h3',rfl⟩:=a3z hq
    intro e
    have e:(y:Int)=y':=e
    have hpq:(x:Int)<x':=hpq
    have:y=y':=by omega
    subst this
    omega
  · rw [a9u]
    have K:=c5d I (P:=P.map (fun q=>(q.1.toNat,q.2.1.toNat))) ?_ ?_ ?_
    · rwa [List.length_map] at K
    · rw [List.pairwise_map]
      refine hP.one.imp_of_mem (fun {p q} hp hq hpq e=>hpq ?_)
      have e:p.1.toNat=q.1.toNat:=e
      have:=hin.2.2 _ (hP.sub p hp)
      have:=hin.2.2 _ (hP.sub q hq)
      omega
    · rw [List.pairwise_map]
      refine hP.two.imp_of_mem (fun {p q} hp hq hpq e=>hpq ?_)
      have e:p.2.1.toNat=q.2.1.toNat:=e
      have:=hin.2.2 _ (hP.sub p hp)
      have:=hin.2.2 _ (hP.sub q hq)
      omega
    · intro p hp
      obtain ⟨q,hq',rfl⟩:=List.mem_map.1 hp
      have hl:=hP.sub q hq'
      have:=hin.2.2 _ hl
      obtain ⟨q1,q2,⟨⟩⟩:=q
      simp only at this ⊢
      refine ⟨by omega,by omega,?_⟩
      rw [Int.toNat_of_nonneg this.1.1]
      refine (hed this.1.1).2 ?_
      rw [Int.toNat_of_nonneg this.2.1]; exact hl
end Go.Proofs.Ytekbamiaenbhjaa
