/- Histories, in plain words: what came before an event; what a check that passes says; what the numbers are. -/
import Derived.Test.YtekbamiaenbhjaaStamp
namespace Go.Proofs.Ytekbamiaenbhjaa
open Go.Ex

def pr (h:List Ev) (i:Nat):Nat:=(h.getD i e0).1.toNat
def kd (h:List Ev) (i:Nat):Int:=(h.getD i e0).2.1
def ms (h:List Ev) (i:Nat):Nat:=(h.getD i e0).2.2.1.toNat
def H3 (h:List Ev) (p:Nat):Nat→Option Nat
  | 0=>none
  | i+1=>if pr h i=p then some i else H3 h p i
def I4 (h:List Ev) (m:Nat):Nat→Option Nat
  | 0=>none
  | i+1=>if kd h i=2∧ms h i=m then some i else I4 h m i
def a3W (h:List Ev) (m p:Nat):Nat→Bool
  | 0=>false
  | i+1=>(decide (kd h i=3) && decide (ms h i=m) && decide (pr h i=p)) || a3W h m p i

theorem T6 {h:List Ev} {p:Nat}:∀ {i j:Nat},H3 h p i=some j→j<i∧pr h j=p∧∀ k,j<k→k<i→pr h k≠p
  | 0,j,h=>by cases h
  | i+1,j,hh=>by
    simp only [H3] at hh
    split at hh
    · rename_i hp; cases hh; exact ⟨by omega,hp,fun k h1 h2=>by omega⟩
    · rename_i hp
      obtain ⟨a,b,c⟩:=T6 hh
      exact ⟨by omega,b,fun k h1 h2=>by
        by_cases e:k=i
        · subst e; exact hp
        · exact c k h1 (by omega)⟩
theorem a3G {h:List Ev} {p:Nat}:∀ {i:Nat},H3 h p i=none→∀ k,k<i→pr h k≠p
  | 0,_,k,hk=>by omega
  | i+1,hh,k,hk=>by
    simp only [H3] at hh
    split at hh
    · cases hh
    · rename_i hp
      by_cases e:k=i
      · subst e; exact hp
      · exact a3G hh k (by omega)
theorem a6k {h:List Ev} {m:Nat}:∀ {i j:Nat},I4 h m i=some j→j<i∧kd h j=2∧ms h j=m∧∀ k,j<k→k<i→¬ (kd h k=2∧ms h k=m)
  | 0,j,h=>by cases h
  | i+1,j,hh=>by
    simp only [I4] at hh
    split at hh
    · rename_i hp; cases hh; exact ⟨by omega,hp.1,hp.2,fun k h1 h2=>by omega⟩
    · rename_i hp
      obtain ⟨a,b,c,d⟩:=a6k hh
      exact ⟨by omega,b,c,fun k h1 h2=>by
        by_cases e:k=i
        · subst e; exact hp
        · exact d k h1 (by omega)⟩
theorem a3r {h:List Ev} {m:Nat}:∀ {i:Nat},I4 h m i=none→∀ k,k<i→¬ (kd h k=2∧ms h k=m)
  | 0,_,k,hk=>by omega
  | i+1,hh,k,hk=>by
    simp only [I4] at hh
    split at hh
    · cases hh
    · rename_i hp
      by_cases e:k=i
      · subst e; exact hp
      · exact a3r hh k (by omega)
structure c2H (h:List Ev) (i:Nat) (c:CkD):Prop where
  l1:c.1.length=30
  l2:c.2.1.length=30
  l3:∀ m,m<30→(c.2.1.getD m f6).length=6
  s:∀ m,m<30→c.1.getD m 0=(match I4 h m i with|some j=>(pr h j:Int)+1|none=>0)
  t:∀ m p,m<30→p<6→(c.2.1.getD m f6).getD p false=a3W h m p i

structure a8U (h:List Ev) (i:Nat):Prop where
  p:pr h i<6
  m:ms h i<30
  k:kd h i=1∨kd h i=2∨kd h i=3
  loc:kd h i=1→ms h i=0
  snd:kd h i=2→I4 h (ms h i) i=none
  rcv:kd h i=3→(∃ j,I4 h (ms h i) i=some j∧pr h j≠pr h i)∧a3W h (ms h i) (pr h i) i=false
  eq:h.getD i e0=((pr h i:Int),kd h i,(ms h i:Int),())

theorem b68 (n j:Nat):(List.replicate n (0:Int)).getD j 0=0:=by rw [List.getD_eq_getElem?_getD,List.getElem?_replicate]; split<;>rfl
theorem c3M {h:List Ev} {i:Nat} {c:CkD} (hc:c2H h i c) (he:a1a c (h.getD i e0)=0):a8U h i∧c2H h (i+1) (a5B c (h.getD i e0)):=by
  obtain ⟨⟨p0,p5⟩,⟨m0,m5⟩,hk⟩:=b1t he
  have hp:((pr h i:Nat):Int)=(h.getD i e0).1:=by simp only [pr]; omega
  have hm:((ms h i:Nat):Int)=(h.getD i e0).2.2.1:=by simp only [ms]; omega
  have hp6:pr h i<6:=by omega
  have hm30:ms h i<30:=by omega
  have heq:h.getD i e0=((pr h i:Int),kd h i,(ms h i:Int),()):=by rw [hp,hm]; rfl
  have hin:N3 (h.getD i e0).1 0 5=true:=K0.2 ⟨p0,p5⟩
  have hin2:N3 (h.getD i e0).2.2.1 0 29=true:=K0.2 ⟨m0,m5⟩
  have hS:=hc.s (ms h i) hm30
  have hT:=hc.t (ms h i) (pr h i) hm30 hp6
  have hkd:(h.getD i e0).2.1=kd h i:=rfl
  have hms:(h.getD i e0).2.2.1.toNat=ms h i:=rfl
  have hpr:(h.getD i e0).1.toNat=pr h i:=rfl
  have he':=he
  simp only [a1a,hin,hin2,Bool.true_eq_false,if_false,hkd,hms,hpr] at he'
  have hst:a5B c (h.getD i e0)=if kd h i=2 then (c.1.set (ms h i) ((pr h i:Int)+1),c.2) else if kd h i=3 then (c.1,c.2.1.set (ms h i) ((c.2.1.getD (ms h i) f6).set (pr h i) true),()) else c:=by
    rw [a5B,if_neg (fun h=>h he)]
    simp only [hkd,hms,hpr,hp]
  rw [hst]
  rcases hk with hk|hk|hk
  · have hk:kd h i=1:=hk
    simp only [hk] at he' ⊢
    refine ⟨⟨hp6,hm30,.inl hk,fun _=>?_,fun h2=>by rw [hk] at h2; omega,fun h2=>by rw [hk] at h2; omega,heq⟩,?_⟩
    · by_cases e:(h.getD i e0).2.2.1=0
      · simp only [ms,e]; rfl
      · rw [if_pos e] at he'; simp at he'
    · rw [if_neg (by omega),if_neg (by omega)]
      exact ⟨hc.l1,hc.l2,hc.l3,fun m hm=>by rw [hc.s m hm,I4,if_neg (by rw [hk]; omega)],fun m p hm hp=>by rw [hc.t m p hm hp,a3W,hk]; simp⟩
  · have hk:kd h i=2:=hk
    simp only [hk] at he' ⊢
    have hnone:I4 h (ms h i) i=none:=by
      cases hs:I4 h (ms h i) i with
      | none=>rfl
      | some j=>rw [hs] at hS; simp [-List.getD_eq_getElem?_getD] at he' hS; omega
    refine ⟨⟨hp6,hm30,.inr (.inl hk),fun h2=>by rw [hk] at h2; omega,fun _=>hnone,fun h2=>by rw [hk] at h2; omega,heq⟩,?_⟩
    rw [if_pos trivial]
    refine ⟨by simp [hc.l1],hc.l2,hc.l3,fun m hm=>?_,fun m p hm hp=>by rw [hc.t m p hm hp,a3W,hk]; simp⟩
    rw [B8 (by rw [hc.l1]; exact hm30),I4]
    by_cases e:m=ms h i
    · rw [if_pos e,if_pos ⟨hk,e.symm⟩]
    · rw [if_neg e,if_neg (fun h=>e h.2.symm),hc.s m hm]
  · have hk:kd h i=3:=hk
    simp only [hk] at he' ⊢
    simp only [show ¬ (3:Int)=1 by decide,show ¬ (3:Int)=2 by decide,if_false,if_true] at he'
    have hsome:∃ j,I4 h (ms h i) i=some j∧pr h j≠pr h i:=by
      cases hs:I4 h (ms h i) i with
      | none=>rw [hs] at hS; simp only at hS; rw [if_pos hS] at he'; cases he'
      | some j =>
        refine ⟨j,rfl,fun e=>?_⟩
        rw [hs] at hS; simp only at hS
        rw [if_neg (by omega),if_pos (by rw [hS,← hp,e])] at he'
        cases he'
    obtain ⟨j,hj,hne⟩:=hsome
    have htk:a3W h (ms h i) (pr h i) i=false:=by
      cases ht:a3W h (ms h i) (pr h i) i with
      | false=>rfl
      | true =>
        rw [ht] at hT; rw [hj] at hS; simp only at hS
        rw [if_neg (by omega),if_neg (by rw [hS,← hp]; omega),if_pos hT] at he'
        cases he'
    refine ⟨⟨hp6,hm30,.inr (.inr hk),fun h2=>by rw [hk] at h2; omega,fun h2=>by rw [hk] at h2; omega,fun _=>⟨⟨j,hj,hne⟩,htk⟩,heq⟩,?_⟩
    rw [if_neg (by omega),if_pos trivial]
    refine ⟨hc.l1,by simp [hc.l2],fun m hm=>?_,fun m hm=>by rw [hc.s m hm,I4,if_neg (by rw [hk]; omega)],fun m p hm hp'=>?_⟩
    · show ((c.2.1.set _ _).getD m f6).length=6
      rw [B8 (by rw [hc.l2]; exact hm30)]
      split
      · rw [List.length_set]; exact hc.l3 (ms h i) hm30
      · exact hc.l3 m hm
    · show ((c.2.1.set _ _).getD m f6).getD p false=_
      rw [B8 (by rw [hc.l2]; exact hm30),a3W,hk]
      by_cases e:m=ms h i
      · subst e
        rw [if_pos rfl,B8 (by rw [hc.l3 _ hm30]; exact hp6)]
        by_cases e2:p=pr h i
        · subst e2; simp
        · rw [if_neg e2,hc.t _ p hm30 hp']
          simp [show ¬ pr h i=p from fun h=>e2 h.symm]
      · rw [if_neg e,hc.t m p hm hp']
        simp [show ¬ ms h i=m from fun h=>e h.symm]

theorem b94 {h:List Ev}:∀ {n i:Nat} {c:CkD},n+i=h.length→c2H h i c→S7 c (h.drop i)=0→∀ k,i≤k→k<h.length→a8U h k
  | 0,i,_,hn,_,_,k,h1,h2=>by omega
  | n+1,i,c,hn,hc,hg,k,h1,h2=>by
    rw [S3 (show i<h.length by omega) e0,S7] at hg
    split at hg
    · rename_i hx; exact absurd hg hx
    · rename_i hx
      obtain ⟨a,b⟩:=c3M hc (Decidable.of_not_not hx)
      by_cases e:k=i
      · subst e; exact a
      · exact b94 (n:=n) (i:=i+1) (by omega) b hg k (by omega) h2
theorem a7p {h:List Ev} (hh:t8 h=0) {i:Nat} (hi:i<h.length):a8U h i:=by
  refine b94 (n:=h.length) (i:=0) (c:=ck0) rfl ⟨rfl,rfl,fun m hm=>by rw [show ck0.2.1=List.replicate 30 f6 from rfl,a2R 30 f6 hm]; rfl,fun m hm=>?_,fun m p hm hp=>?_⟩ (U9 hh).2 i (by omega) hi
  · show (List.replicate 30 (0:Int)).getD m 0=0; exact b68 _ _
  · show ((List.replicate 30 f6).getD m f6).getD p false=false
    rw [a2R 30 f6 hm]
    match p,hp with
    | 0,_|1,_|2,_|3,_|4,_|5,_=>rfl

/-! the numbers -/
def a4h (S:List Int):Option Nat→Int
  | some j=>S.getD j 0
  | none=>0
def numOf (h:List Ev) (S:List Int) (i:Nat):Int :=
  (if kd h i=3 then (if a4h S (H3 h (pr h i) i)<a4h S (I4 h (ms h i) i) then a4h S (I4 h (ms h i) i) else a4h S (H3 h (pr h i) i)) else a4h S (H3 h (pr h i) i))+1
theorem b7B {α:Type} {l:List α} {i:Nat} {x:α} {r:List α} {d:α} (h:l.drop i=x::r):l.getD i d=x∧l.drop (i+1)=r:=by
  constructor
  · have:=congrArg List.head? h
    rw [List.head?_drop] at this
    rw [List.getD_eq_getElem?_getD,this]; rfl
  · rw [← List.drop_drop,h]; rfl
theorem b5T {h:List Ev} {S:List Int} (hok:∀ k,k<h.length→a8U h k):∀ {n i:Nat} {last sent:List Int},n+i=h.length→last.length=6→sent.length=30→(∀ p,p<6→last.getD p 0=a4h S (H3 h p i))→(∀ m,m<30→sent.getD m 0=a4h S (I4 h m i)) →
    S.drop i=a4l last sent (h.drop i)→∀ k,i≤k→k<h.length→S.getD k 0=numOf h S k
  | 0,i,_,_,hn,_,_,_,_,_,k,h1,h2=>by omega
  | n+1,i,last,sent,hn,l1,l2,hl,hs,hS,k,h1,h2=>by
    rw [S3 (show i<h.length by omega) e0,a4l] at hS
    obtain ⟨g1,g2⟩:=b7B (d:=0) hS
    have ho:=hok i (by omega)
    have ht:tOf last sent (h.getD i e0)=numOf h S i:=by
      have a:=hl (pr h i) ho.p
      have b:=hs (ms h i) ho.m
      show (if kd h i=3 then (if last.getD (pr h i) 0<sent.getD (ms h i) 0 then sent.getD (ms h i) 0 else last.getD (pr h i) 0) else last.getD (pr h i) 0)+1=_
      rw [a,b]; rfl
    by_cases e:k=i
    · subst e; rw [g1,ht]
    · refine b5T hok (n:=n) (i:=i+1) (by omega) (by simp [l1]) (by split<;>simp [l2]) (fun p hp=>?_) (fun m hm=>?_) g2 k (by omega) h2
      · show (last.set (pr h i) _).getD p 0=_
        rw [B8 (by rw [l1]; exact ho.p),H3]
        by_cases e:p=pr h i
        · rw [if_pos e,if_pos e.symm,← g1]; rfl
        · rw [if_neg e,if_neg (fun h=>e h.symm),hl p hp]
      · show (if kd h i=2 then sent.set (ms h i) _ else sent).getD m 0=_
        rw [I4]
        by_cases e:kd h i=2
        · rw [if_pos e,B8 (by rw [l2]; exact ho.m)]
          by_cases e2:m=ms h i
          · rw [if_pos e2,if_pos ⟨e,e2.symm⟩,← g1]; rfl
          · rw [if_neg e2,if_neg (fun h=>e2 h.2.symm),hs m hm]
        · rw [if_neg e,if_neg (fun h=>e h.1),hs m hm]
theorem b2Y:∀ {l:List Ev} {last sent:List Int},(a4l last sent l).length=l.length
  | [],_,_=>rfl
  | e::l,_,_=>by simp only [a4l,List.length_cons,b2Y]
theorem a2m {h:List Ev} (hh:t8 h=0):(stamps h).1.length=h.length∧(stamps h).2.1=0∧∀ i,i<h.length→(stamps h).1.getD i 0=numOf h (stamps h).1 i:=by
  rw [stamps,if_neg (by simp [hh])]
  refine ⟨b2Y,rfl,fun i hi=>?_⟩
  exact b5T (fun k hk=>a7p hh hk) (n:=h.length) (i:=0) rfl rfl rfl (fun p hp=>b68 _ _) (fun m hm=>b68 _ _) rfl i (by omega) hi
end Go.Proofs.Ytekbamiaenbhjaa
