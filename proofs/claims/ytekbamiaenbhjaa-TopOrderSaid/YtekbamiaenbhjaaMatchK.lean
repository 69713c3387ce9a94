/- Koenig, Berge: the matching found is a greatest one; match.Most. No condition but those named. -/
import Derived.Test.YtekbamiaenbhjaaMatchP
namespace Go.Proofs.Ytekbamiaenbhjaa
open Go.Ex
set_option maxRecDepth 100000
theorem c1G {g g':t7} (h:g'.1=g.1) {x:Int} {y:Nat}:P8 g' x y↔P8 g x y:=by rw [P8,P8,h]
structure b0S (m n a:Nat) (g:t7):Prop where
  ok:MOk m n g
  b7I:∀ y,y<n→0≤g.2.1.getD y 0→P8 g (g.2.1.getD y 0) y
  lo:∀ x:Nat,x<a→g.2.1.count (x:Int)≤1
  hi:∀ x:Nat,a≤x→g.2.1.count (x:Int)=0
  s4:∃ R:Nat→Prop,(∀ y,R y→y<n)∧a7a g R∧∀ x:Nat,x<a→g.2.1.count (x:Int)=0→∀ z,z<n→P8 g x z→R z
theorem b0S.step {m n a:Nat} {g:t7} (h:b0S m n a g) (hm:m≤40) (hn:n≤40) (ha:a<m):b0S m n (a+1) (U0 (n:Int) g a):=by
  have hfr:=h.ok.fresh hm hn
  have hml:=h.ok.may
  have hll:=h.ok.len
  have ha2:(a:Int)<(g.1,g.2.1,List.replicate n false,()).1.length:=by show (a:Int)<g.1.length; omega
  have K:Kept (g.1,g.2.1,List.replicate n false,()) (E5 41 (g.1,g.2.1,List.replicate n false,()) (a:Int)).1:=S9 hfr (by omega) ha2
  have E:=a4m (k:=41) hfr (show (0:Int)≤(a:Int) by omega) ha2
  have C:=a6l (k:=41) hfr (show (0:Int)≤(a:Int) by omega) ha2 (by show I8 (List.replicate n false)<41; rw [a86]; omega)
  have hst:U0 (n:Int) g a=(E5 41 (g.1,g.2.1,List.replicate n false,()) (a:Int)).1:=rfl
  have hok:=h.ok.step hm hn ha
  rw [hst] at hok ⊢
  generalize E5 41 (g.1,g.2.1,List.replicate n false,()) (a:Int)=r at *
  have hmay:r.1.1=g.1:=K.may
  have hlen:r.1.2.1.length=g.2.1.length:=K.len
  have he:∀ {x:Int} {y:Nat},P8 r.1 x y↔P8 g x y:=c1G hmay
  obtain ⟨R,r1,r2,r3⟩:=h.s4
  cases hb:r.2.1 with
  | true =>
    have hcnt:∀ x:Int,0≤x→r.1.2.1.count x=g.2.1.count x+(if x=a then 1 else 0):=E.cnt hb
    have hR:=(E.s4 R r2).1 hb
    have hR:∀ y,R y→r.1.2.1.getD y 0=g.2.1.getD y 0:=hR
    refine ⟨hok,fun y hy h0=>?_,fun x hx=>?_,fun x hx=>?_,R,r1,fun y hy=>?_,fun x hx hc z hz hz2=>?_⟩
    · rw [he]
      rcases E.P8 hb y with h1|h1
      · have h1:r.1.2.1.getD y 0=g.2.1.getD y 0:=h1
        rw [h1] at h0 ⊢
        exact h.b7I y hy h0
      · exact h1
    · rw [hcnt _ (by omega)]
      by_cases e:x=a
      · subst e; rw [h.hi x (Nat.le_refl _)]; simp
      · rw [if_neg (by omega)]; exact h.lo x (by omega)
    · rw [hcnt _ (by omega),if_neg (by omega),h.hi x (by omega)]
    · rw [hR y hy]
      refine ⟨(r2 y hy).1,fun z hz hz2=>(r2 y hy).2 z (by rw [← hlen]; exact hz) (he.1 hz2)⟩
    · rw [hcnt _ (by omega)] at hc
      by_cases e:x=a
      · rw [if_pos (by rw [e])] at hc; omega
      · rw [if_neg (by omega)] at hc
        exact r3 x (by omega) hc z hz (he.1 hz2)
  | false =>
    have hl:r.1.2.1=g.2.1:=E.no hb
    obtain ⟨c1,c2⟩:=C hb
    have c1:∀ y,y<g.2.1.length→P8 g (a:Int) y→r.1.2.2.1.getD y false=true:=c1
    have c2:∀ y,y<n→r.1.2.2.1.getD y false=true→a3T g r.1.2.2.1 y:=fun y hy hs=>by
      rcases c2 y hs with h1|h1
      · have h1:(List.replicate n false).getD y false=true:=h1
        rw [a2R _ _ hy] at h1; cases h1
      · exact h1
    refine ⟨hok,fun y hy h0=>?_,fun x hx=>?_,fun x hx=>?_,fun y=>R y∨(y<n∧r.1.2.2.1.getD y false=true),fun y hy=>?_,fun y hy=>?_,fun x hx hc z hz hz2=>?_⟩
    · rw [he]; rw [hl] at h0 ⊢; exact h.b7I y hy h0
    · rw [hl]
      by_cases e:x=a
      · subst e; rw [h.hi x (Nat.le_refl _)]; omega
      · exact h.lo x (by omega)
    · rw [hl]; exact h.hi x (by omega)
    · exact hy.elim (r1 y) (·.1)
    · rw [hl]
      rcases hy with hy|⟨hy,hs⟩
      · exact ⟨(r2 y hy).1,fun z hz hz2=>.inl ((r2 y hy).2 z hz (he.1 hz2))⟩
      · have:=c2 y hy hs
        exact ⟨this.1,fun z hz hz2=>.inr ⟨by omega,this.2 z hz (he.1 hz2)⟩⟩
    · rw [hl] at hc
      by_cases e:x=a
      · subst e; exact .inr ⟨hz,c1 z (by omega) (he.1 hz2)⟩
      · exact .inl (r3 x (by omega) hc z hz (he.1 hz2))
theorem b3n {m n:Nat} {l:List s5} (hm:m≤40) (hn:n≤40):∀ {a:Nat},a≤m→b0S m n a ((List.range a).foldl (U0 (n:Int)) (a0N m n l,List.replicate n (-1),[],()))
  | 0,_=>by
    refine ⟨a5o,fun y hy h0=>?_,fun x hx=>by omega,fun x _=>?_,fun _=>False,fun y hy=>hy.elim,fun y hy=>hy.elim,fun x hx=>by omega⟩
    · have h0:0≤(List.replicate n (-1:Int)).getD y 0:=h0
      rw [a2R _ _ hy] at h0; omega
    · show (List.replicate n (-1:Int)).count (x:Int)=0
      rw [List.count_eq_zero]
      intro h9
      have:=List.eq_of_mem_replicate h9
      omega
  | a+1,ha=>by
    rw [List.range_succ,List.foldl_append]
    exact (b3n hm hn (a:=a) (by omega)).step hm hn (by omega)
theorem b82 {l:List Int} {i j:Nat} {x:Int} (hi:i<l.length) (hj:j<l.length) (hij:i≠j) (h1:l.getD i 0=x) (h2:l.getD j 0=x):2≤l.count x:=by
  have:=a2W hi (x+1) x
  rw [if_pos h1,if_neg (by omega)] at this
  have h3:x∈l.set i (x+1):=by
    have h4:(l.set i (x+1)).getD j 0=x:=by rw [B8 hi,if_neg (Ne.symm hij)]; exact h2
    have h5:=P6 (d:=(0:Int)) (l:=l.set i (x+1)) (i:=j) (by rw [List.length_set]; exact hj)
    rwa [h4] at h5
  have:=List.count_pos_iff.2 h3
  omega
theorem a0x {α:Type} [DecidableEq α]:∀ {l S:List α},l.Nodup→(∀ x∈l,x∈S)→l.length≤S.length
  | [],_,_,_=>by simp
  | x::l,S,hn,h=>by
    obtain ⟨h1,h2⟩:=List.nodup_cons.1 hn
    have hx:=h x (by simp)
    have ih:=a0x (S:=S.erase x) h2 (fun y hy=>(List.mem_erase_of_ne (by rintro rfl; exact h1 hy)).2 (h y (by simp [hy])))
    rw [List.length_erase_of_mem hx] at ih
    have:=List.length_pos_of_mem hx
    simp only [List.length_cons]; omega
theorem c5d {m n:Nat} {g:t7} (h:b0S m n m g) {P:List (Nat×Nat)} (hx:P.Pairwise (fun p q=>p.1≠q.1)) (hy:P.Pairwise (fun p q=>p.2≠q.2)) (he:∀ p∈P,p.1<m∧p.2<n∧P8 g (p.1:Int) p.2) :
    P.length≤((List.range m).filter (fun x:Nat=>decide ((x:Int)∈g.2.1))).length:=by
  obtain ⟨R,r1,r2,r3⟩:=h.s4
  have hll:=h.ok.len
  classical
  have hmem:∀ y,y<n→g.2.1.getD y 0∈g.2.1:=fun y hy=>P6 (by omega)
  let f:Nat×Nat→Nat:=fun p=>if R p.2 then (g.2.1.getD p.2 0).toNat else p.1
  have hf1:∀ p,R p.2→f p=(g.2.1.getD p.2 0).toNat:=fun p hp=>if_pos hp
  have hf2:∀ p,¬ R p.2→f p=p.1:=fun p hp=>if_neg hp
  have key:=a0x (l:=P.map f) (S:=(List.range m).filter (fun x:Nat=>decide ((x:Int)∈g.2.1))) ?_ ?_
  · rwa [List.length_map] at key
  · rw [List.nodup_iff_pairwise_ne,List.pairwise_map]
    refine (hx.and hy).imp_of_mem (fun {p q} hp hq hpq=>?_)
    obtain ⟨hp1,hp2,hp3⟩:=he p hp
    obtain ⟨hq1,hq2,hq3⟩:=he q hq
    by_cases c1:R p.2<;>by_cases c2:R q.2
    · rw [hf1 p c1,hf1 q c2]
      intro e
      have h1:=(r2 p.2 c1).1
      have h2:=(r2 q.2 c2).1
      have h3:=h.ok.left p.2 hp2 h1
      have:=b82 (l:=g.2.1) (x:=((g.2.1.getD p.2 0).toNat:Int)) (by omega) (by omega) hpq.2 (by omega) (by omega)
      have:=h.lo (g.2.1.getD p.2 0).toNat (by omega)
      omega
    · rw [hf1 p c1,hf2 q c2]
      intro e
      have h1:=(r2 p.2 c1).1
      refine c2 ((r2 p.2 c1).2 q.2 (by omega) ?_)
      rw [show g.2.1.getD p.2 0=(q.1:Int) by omega]; exact hq3
    · rw [hf2 p c1,hf1 q c2]
      intro e
      have h1:=(r2 q.2 c2).1
      refine c1 ((r2 q.2 c2).2 p.2 (by omega) ?_)
      rw [show g.2.1.getD q.2 0=(p.1:Int) by omega]; exact hp3
    · rw [hf2 p c1,hf2 q c2]; exact hpq.1
  · intro x hx
    obtain ⟨p,hp,rfl⟩:=List.mem_map.1 hx
    obtain ⟨hp1,hp2,hp3⟩:=he p hp
    refine List.mem_filter.2 ?_
    by_cases c1:R p.2
    · have h1:=(r2 p.2 c1).1
      have h3:=h.ok.left p.2 hp2 h1
      rw [hf1 p c1]
      refine ⟨List.mem_range.2 (by omega),decide_eq_true ?_⟩
      rw [Int.toNat_of_nonneg h1]; exact hmem _ hp2
    · rw [hf2 p c1]
      refine ⟨List.mem_range.2 hp1,decide_eq_true ?_⟩
      refine List.count_pos_iff.1 (Nat.pos_of_ne_zero (fun h0=>c1 (r3 p.1 hp1 h0 p.2 hp2 hp3)))
end Go.Proofs.Ytekbamiaenbhjaa
