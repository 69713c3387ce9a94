import Derived.Test.YtijlnmgondibnaaGreatDoorJ2
import Derived.Test.YtijlnmgondibnaaGreatDoorJ1
set_option linter.unusedVariables false
set_option linter.unusedSimpArgs false
set_option linter.unusedSectionVars false
namespace Go.Proofs.YtijlnmgondibnaaGreatDoor
open Go.Ex
set_option maxRecDepth 100000
section
variable {said:Nat→List C5} {B:List B9} {S:Nat→List C5} {Q:List S8} {w:f8}
theorem a88 {b most:Int} {l:List C5}:∀ {k:Nat},k≤l.length→∀ x∈a89 b most l k,∃ i,i<l.length∧x=(b+i,l.getD i [],())
  | 0,_,x,h=>by cases h
  | k+1,hk,x,h=>by
    rw [a89] at h
    rcases List.mem_append.1 h with h|h
    · exact a88 (by omega) x h
    · split at h
      · rw [List.mem_singleton] at h; exact ⟨k,by omega,h⟩
      · cases h
theorem a5Y {P:y4→Prop} {p:Int} {l:List B9} {w:f8} (h:∀ x∈l,∀ f v,P (1,p,f,v,x.1,[0,0,0,0,0,0],x.2.1,())):∀ {k},k≤l.length→T7 P w (a0B p l w k)
  | 0,_=>.refl w
  | k+1,hk=>by
    rw [a0B]
    refine (a5Y h (by omega)).trans (T7.one (h _ ?_ _ _))
    rw [List.getD_eq_getElem?_getD,List.getElem?_eq_getElem (by omega)]; exact List.getElem_mem _
theorem Inv.again (h:Inv said B S Q w) {p:Nat} (hp:p<w.2.1.length) (hv:V8 w.1.2.1 p=true) :
    Inv said B S Q (c6F (a0B p (a3u w p) w (a3u w p).length) p):=by
  refine h.b8b ((a5Y (fun x hx f v=>?_) (Nat.le_refl _)).trans (T7.one ⟨fun e=>(by cases e),fun e=>(by cases e)⟩))
  refine ⟨fun _=>?_,fun e=>by cases e⟩
  obtain ⟨⟨m,hm⟩,-⟩:=h.mem p hp hv
  have hf:Y7 w p=(((y5 p (Q.take m)).length:Int),(S p).drop (y5 p (Q.take m)).length,()):=hm.from_
  have hfe:I7 (Y7 w p)=0:=hm.ok
  unfold a3u c01 at hx
  rw [if_neg (by rw [hfe]; simp),hf] at hx
  obtain ⟨i,hi,rfl⟩:=a88 (Nat.le_refl _) x hx
  show (S ((p:Int)).toNat)[(((y5 p (Q.take m)).length:Int)+(i:Int)).toNat]?=some (((S p).drop (y5 p (Q.take m)).length).getD i [])
  rw [show ((p:Int)).toNat=p from rfl,show (((y5 p (Q.take m)).length:Int)+(i:Int)).toNat=(y5 p (Q.take m)).length+i by omega]
  rw [← List.getElem?_drop,List.getD_eq_getElem?_getD,List.getElem?_eq_getElem hi]; rfl
theorem Inv.c7x (h:Inv said B S Q w) (p:Nat):Inv said B S Q (w.1,w.2.1.set p (true,(w.2.1.getD p i8).2),w.2.2):=by
  refine h.D6 (fun hp=>h.rcv p hp) (fun hp hv=>?_)
  obtain ⟨⟨m,hm⟩,-⟩:=h.mem p hp hv
  exact ⟨m,hm.le,hm.next,hm.wait,hm.log,hm.from_,hm.ok⟩
theorem Inv.ways (h:Inv said B S Q w) {l:List C5} (hl:l.length≤60) (hm:∀ s∈l,s∈w.2.2.2.1):Inv said B S Q (w.1,w.2.1,w.2.2.1,l,()):=by
  obtain ⟨h1,h2,h3,h4,h5,h6,h7,h8,h9,h10⟩:=h
  exact ⟨h1,hl,h3,h4,h5,h6,fun s hs=>h7 s (hm s hs),h8,h9,h10⟩
theorem Inv.drop (h:Inv said B S Q w) (k:Int):Inv said B S Q (a5m w k):=by
  refine h.ways ?_ (fun s hs=>?_)
  · have:=h.way
    rw [List.length_append,List.length_take,List.length_drop]
    by_cases c:0≤k
    · omega
    · have e1:k.toNat=0:=by omega
      have e2:(k+1).toNat=0:=by omega
      rw [e1,e2]; omega
  · rcases List.mem_append.1 hs with hs|hs
    · exact List.mem_of_mem_take hs
    · exact List.mem_of_mem_drop hs
theorem Inv.copy (h:Inv said B S Q w) {k:Nat} (hk:k<w.2.2.2.1.length) (hn:¬ (w.2.2.2.1.length:Int)=60):Inv said B S Q (b2N w k):=by
  refine h.ways ?_ (fun s hs=>?_)
  · have:=h.way
    rw [List.length_append]; simp only [List.length_singleton]; omega
  · rcases List.mem_append.1 hs with hs|hs
    · exact hs
    · rw [List.mem_singleton] at hs
      rw [hs,List.getD_eq_getElem?_getD,List.getElem?_eq_getElem hk]; exact List.getElem_mem _
theorem Inv.asks (h:Inv said B S Q w) {n:y4} (h0:0≤n.2.2.2.2.1):∀ j,T7 (a3W S w.2.2.1) w (E1 w n j)
  | 0=>.refl w
  | j+1=>by
    rw [E1]
    split
    · rename_i hlt
      refine (Inv.asks h h0 j).trans (T7.one ⟨fun e=>(by cases e),fun _=>?_⟩)
      rw [(a1o j).2.2] at hlt
      show w.2.2.1[(n.2.2.2.2.1+j).toNat]?=some ((E1 w n j).2.2.1.getD (n.2.2.2.2.1+j).toNat [])
      rw [(a1o j).2.2,List.getD_eq_getElem?_getD,List.getElem?_eq_getElem (by omega)]; rfl
    · exact Inv.asks h h0 j
structure Told (texts:List C5) (w w':f8):Prop where
  view:w'.1=w.1
  all:w'.2.1=w.2.1
  ord:w'.2.2.1=w.2.2.1++texts
  len:w.2.2.2.1.length≤60→w'.2.2.2.1.length≤60
  way:∀ s∈w'.2.2.2.1,s∈w.2.2.2.1∨∃ n:y4,s9 s=(n,0,())∧n.2.2.2.1=w.1.1∧n.1=2∧(w.2.2.1++texts)[n.2.2.2.2.1.toNat]?=some n.2.2.2.2.2.2.1
theorem a7U {x:C5} {w:f8} {P:y4→Prop} (h:∀ f t,P (2,f,t,w.1.1,(w.2.2.1.length:Int) - 1,[0,0,0,0,0,0],x,())):∀ p,T7 P w (F2 x w p)
  | 0=>.refl w
  | p+1=>by
    rw [F2]
    have ih:=a7U h p
    split
    · refine ih.trans (T7.one ?_)
      rw [ih.view,ih.ord]
      exact h _ _
    · exact ih
theorem told {f first:Int} {l:List C5} {w:f8}:∀ {i},i≤l.length→Told ((l.take i).mapIdx (fun j t=>G8 f (first+j) t)) w (G9 f first l w i)
  | 0,_=>⟨rfl,rfl,by simp [G9],id,fun s h=>.inl h⟩
  | i+1,hi=>by
    have ih:=told (f:=f) (first:=first) (w:=w) (show i≤l.length by omega)
    rw [G9]
    obtain ⟨u,hu⟩:∃ u,u=G9 f first l w i:=⟨_,rfl⟩
    obtain ⟨x,hx⟩:∃ x,x=G8 f (first+i) (l.getD i []):=⟨_,rfl⟩
    rw [← hu] at ih ⊢
    rw [← hx]
    have htx:(l.take (i+1)).mapIdx (fun j t=>G8 f (first+j) t)=(l.take i).mapIdx (fun j t=>G8 f (first+j) t)++[x]:=by
      rw [a2O (show i<l.length by omega) [],List.mapIdx_append,hx]
      simp only [List.length_take]
      rw [show min i l.length=i by omega]
      simp
    rw [htx]
    have hp:(a7g u x).2.2.1=w.2.2.1++((l.take i).mapIdx (fun j t=>G8 f (first+j) t)++[x]):=by
      show u.2.2.1++[x]=_
      rw [ih.ord,List.append_assoc]
    have hc:=a7U (x:=x) (w:=a7g u x) (P:=fun n=>n.1=2∧(a7g u x).2.2.1[n.2.2.2.2.1.toNat]?=some n.2.2.2.2.2.2.1) (fun f t=>⟨rfl,by
      show (u.2.2.1++[x])[(((u.2.2.1++[x]).length:Int) - 1).toNat]?=some x
      rw [List.length_append]
      simp only [List.length_singleton]
      rw [show (((u.2.2.1.length+1:Nat):Int) - 1).toNat=u.2.2.1.length by omega]
      rw [List.getElem?_append_right (Nat.le_refl _),Nat.sub_self]; rfl⟩) u.2.1.length
    refine ⟨hc.view.trans ih.view,hc.all.trans ih.all,hc.ord.trans hp,fun e=>hc.len (ih.len e),fun s hs=>?_⟩
    rcases hc.way s hs with hs|⟨n,e1,e2,e3,e4⟩
    · rcases ih.way s hs with hs|⟨n,e1,e2,e3,e4⟩
      · exact .inl hs
      · refine .inr ⟨n,e1,e2,e3,?_⟩
        rw [← List.append_assoc]
        exact a25 (List.prefix_append ..) e4
    · refine .inr ⟨n,e1,?_,e3,?_⟩
      · rw [e2]
        show u.1.1=w.1.1
        rw [ih.view]
      · rw [← hp]; exact e4
structure c7y (S:Nat→List C5) (w:f8) (n:y4):Prop where
  msg:a3W S w.2.2.1 n
  seq:0≤n.2.2.2.2.1
theorem a6H {P:List S8} {p:Nat}:∀ {l:List C5} {c:Nat},(y5 p P).length=c→K1 P (l.map fun t=>(p,t))=l.mapIdx (fun j t=>G8 p ((c:Int)+j) t)
  | [],_,_=>rfl
  | t::l,c,h=>by
    rw [List.map_cons,K1,List.mapIdx_cons,a6H (c:=c+1) (by rw [a1m,List.length_append,h]; simp [y5])]
    rw [h]
    have e:(fun (j:Nat) (t:C5)=>G8 (p:Int) (((c+1:Nat):Int)+j) t)=fun j t=>G8 p ((c:Int)+((j+1:Nat):Int)) t:=by
      funext j t
      rw [show ((c+1:Nat):Int)+(j:Int)=(c:Int)+((j+1:Nat):Int) by omega]
    refine congr (congrArg List.cons ?_) (congrArg (fun f=>List.mapIdx f l) e)
    show G8 p c t=G8 p ((c:Int)+((0:Nat):Int)) t
    rw [show (c:Int)+((0:Nat):Int)=c by omega]
theorem Inv.order (h:Inv said B S Q w) {n:y4} (hk:¬ known w n.2.1≠0) (hm:(S n.2.1.toNat)[n.2.2.2.2.1.toNat]?=some n.2.2.2.2.2.2.1) :
    ∃ Q',Inv said B S Q' (U6 w n):=by
  by_cases he:(W0 w n).2.2.1≠0
  · refine ⟨Q,?_⟩
    rw [U6,if_pos he]; exact h
  rw [U6,if_neg he]
  obtain ⟨v,al,rr⟩:=w
  have hkn:=a5c hk
  obtain ⟨p,hp⟩:∃ p:Nat,n.2.1=p:=⟨n.2.1.toNat,by omega⟩
  have hpl:p<al.length:=by omega
  rw [hp] at hm ⊢
  have htk:W0 (v,al,rr) n=C3 (al.getD p i8).2.2.2.2.1 (n.2.2.2.2.1,n.2.2.2.2.2.2.1,()):=by rw [W0,hp]; rfl
  rw [htk] at he ⊢
  obtain ⟨hr1,hr2⟩:=h.rcv p hpl
  obtain ⟨r,hr⟩:∃ r,r=C3 (al.getD p i8).2.2.2.2.1 (n.2.2.2.2.1,n.2.2.2.2.2.2.1,()):=⟨_,rfl⟩
  have he0:=Decidable.not_not.1 he
  obtain ⟨a1,a2,a3,a4,a5,a6⟩:=a0G he0
  have hseq:=b1j (F:=fun i=>(S p)[i]?) he0 hr2 hm
  rw [← hr] at he0 a1 a2 a3 a5 a6 hseq ⊢
  have hr1':((al.getD p i8).2.2.2.2.1.1).toNat=(y5 p Q).length:=by
    have:(al.getD p i8).2.2.2.2.1.1=(y5 p Q).length:=hr1
    omega
  have hr1'':(al.getD p i8).2.2.2.2.1.1=((y5 p Q).length:Int):=hr1
  have hl:=c2s (X:=S p) (l:=r.2.1) (r:=(y5 p Q).length) (fun i hi=>by rw [← hr1']; exact hseq i hi)
  have hT:=told (f:=(p:Int)) (first:=(y5 p Q).length) (l:=r.2.1) (w:=a1k (v,al,rr) p (a2o (K6 (v,al,rr) p) r.1)) (Nat.le_refl _)
  have hfirst:(K6 (v,al,rr) (p:Int)).2.2.2.2.1.1=((y5 p Q).length:Int):=hr1
  rw [hfirst]
  rw [List.take_length] at hT
  have hctx:r.2.1.mapIdx (fun j t=>G8 (p:Int) (((y5 p Q).length:Int)+j) t)=K1 Q (r.2.1.map fun t=>(p,t)):=(a6H rfl).symm
  rw [hctx] at hT
  obtain ⟨u,hu⟩:∃ u,u=G9 (p:Int) ((y5 p Q).length:Int) r.2.1 (a1k (v,al,rr) p (a2o (K6 (v,al,rr) p) r.1)) r.2.1.length:=⟨_,rfl⟩
  rw [← hu] at hT ⊢
  have hQ:∀ q,y5 q (Q++r.2.1.map fun t=>(p,t))=y5 q Q++if p=q then r.2.1 else []:=fun q=>by rw [a1m,c45]
  have hall:u.2.1=al.set p (a2o (al.getD p i8) r.1):=hT.all
  have hlen:u.2.1.length=al.length:=by rw [hall,List.length_set]
  have hview:u.1=v:=hT.view
  have hord:u.2.2.1=I1 (Q++r.2.1.map fun t=>(p,t)):=by
    rw [hT.ord,b1D]
    congr 1
    exact h.ord
  have hpreO:rr.1 <+: u.2.2.1:=⟨_,hT.ord.symm⟩
  have hget:∀ q,u.2.1.getD q i8=if p=q then a2o (al.getD p i8) r.1 else al.getD q i8:=fun q=>by
    rw [hall,U2]
    by_cases e:p=q
    · rw [if_pos ⟨e,hpl⟩,if_pos e]
    · rw [if_neg (fun h=>e h.1),if_neg e]
  refine ⟨Q++r.2.1.map fun t=>(p,t),by rw [hlen]; exact h.R4,hT.len h.way,hord,fun x hx=>?_,fun q=>?_,h.short,fun s hs=>?_,fun q hq=>?_,fun q hq hv=>?_,fun q hq hv=>?_⟩
  · rw [hlen]
    rcases List.mem_append.1 hx with hx|hx
    · exact h.inQ x hx
    · obtain ⟨t,-,rfl⟩:=List.mem_map.1 hx
      exact hpl
  · rw [hQ]
    by_cases e:p=q
    · subst e
      rw [if_pos rfl]
      have hpre:y5 p Q=(S p).take (y5 p Q).length:=List.prefix_iff_eq_take.1 (h.b0o p)
      have:y5 p Q++r.2.1=(S p).take ((y5 p Q).length+r.2.1.length):=by
        rw [List.take_add,← hl,← hpre]
      rw [this]
      exact List.take_prefix ..
    · rw [if_neg e,List.append_nil]; exact h.b0o q
  · rw [hview]
    rcases hT.way s hs with hs|⟨m,e1,e2,e3,e4⟩
    · exact (h.msg s hs).mono (fun _=>List.prefix_rfl) hpreO
    · intro _
      rw [e1]
      refine ⟨Int.le_of_eq e2,fun _=>⟨fun e=>?_,fun _=>?_⟩⟩
      · have e3:m.1=2:=e3
        have e:m.1=1:=e
        omega
      · rw [hT.ord]; exact e4
  · rw [hlen] at hq
    rw [hget,hQ]
    by_cases e:p=q
    · subst e
      rw [if_pos rfl,if_pos rfl]
      refine ⟨?_,fun x hx=>?_⟩
      · show r.1.1=_
        rw [a5,hr1'',List.length_append]; omega
      · rcases a2 x hx with rfl|hx
        · exact hm
        · exact hr2 x hx
    · rw [if_neg e,if_neg e,List.append_nil]; exact h.rcv q hq
  · rw [hlen] at hq
    rw [hview] at hv
    obtain ⟨⟨m,hm⟩,hs⟩:=h.mem q hq hv
    refine ⟨⟨m,?_⟩,hs⟩
    have hmem:b2S said B S (Q++r.2.1.map fun t=>(p,t)) q (al.getD q i8) m:=by
      have htk:(Q++r.2.1.map fun t=>(p,t)).take m=Q.take m:=List.take_append_of_le_length hm.le
      refine ⟨by rw [List.length_append]; have:=hm.le; omega,hm.next,fun x hx=>?_,by rw [htk]; exact hm.log,by rw [htk]; exact hm.from_,hm.ok⟩
      rw [b1D]
      exact a25 (List.prefix_append ..) (hm.wait x hx)
    rw [hget]
    by_cases e:p=q
    · subst e
      rw [if_pos rfl]
      exact ⟨hmem.le,hmem.next,hmem.wait,hmem.log,hmem.from_,hmem.ok⟩
    · rw [if_neg e]; exact hmem
  · rw [hlen] at hq
    rw [hview] at hv
    exact h.out q hq hv
end
end Go.Proofs.YtijlnmgondibnaaGreatDoor
namespace Go.Proofs.YtijlnmgondibnaaGreatDoor
open Go.Ex
set_option maxRecDepth 100000
theorem b3N {b:Int} {l:List C5} (h1:0≤b∧b≤16777215) (h2:l.length≤16) (h3:l.any D5=false):I7 (b,l,())=0:=by
  unfold I7
  rw [if_neg (by rw [Y5.2 h1]; decide),if_neg (by show ¬ (16:Int)<(l.length:Int); omega),if_neg (by rw [h3]; decide)]
theorem b4v {l:List C5} {k:Nat} (h:l.any D5=false):(l.drop k).any D5=false:=by
  rw [List.any_eq_false] at h ⊢
  exact fun x hx=>h x (List.mem_of_mem_drop hx)
theorem c6r {k:Nat} {l:List C5} (h:I7 ((k:Int),l,())=0) (hl:1≤l.length) (hb:k+l.length≤16777215) :
    N1 ((k:Int),l,()) ((k:Int)+1)=((((k+1:Nat):Int),l.drop 1,()),0,())∧I7 (((k+1:Nat):Int),l.drop 1,())=0:=by
  have hok:=a1c h
  have ha:ahd (k:Int) ((k:Int)+1)=1:=by unfold ahd; rw [if_neg (by omega)]; omega
  constructor
  · unfold N1
    rw [if_neg (by rw [h]; decide),if_neg (by show ¬ (k:Int)+(l.length:Int)<(k:Int)+1; omega)]
    simp only
    rw [ha]
    rfl
  · exact b3N ⟨by omega,by omega⟩ (by rw [List.length_drop]; have:=hok.2.1; simp only at this; omega) (b4v hok.2.2)
section
variable {said:Nat→List C5} {B:List B9} {S:Nat→List C5} {Q:List S8} {w:f8}
structure a91 (B:List B9) (S:Nat→List C5) (Q:List S8) (p m:Nat) (x:o8):Prop where
  log:x.2.1=B++(Q.take m).map a35
  from_:x.2.2.1=(((y5 p (Q.take m)).length:Int),(S p).drop (y5 p (Q.take m)).length,())
  ok:I7 x.2.2.1=0
theorem b8K {p m q:Nat} {x:o8} {s:C5} (h:a91 B S Q p m x) (hQ:Q[m]?=some (q,s)) (hq:q≤5) (hpre:∀ p,y5 p Q <+: S p) (hsh:∀ p,(S p).length≤16777215) :
    a91 B S Q p (m+1) (a0Q p x (G8 q (y5 q (Q.take m)).length s))∧(a0Q p x (G8 q (y5 q (Q.take m)).length s)).2.2.2=x.2.2.2∧(a0Q p x (G8 q (y5 q (Q.take m)).length s)).1=x.1:=by
  have hm:m<Q.length:=by
    by_cases hm:m<Q.length
    · exact hm
    · rw [List.getElem?_eq_none (by omega)] at hQ; cases hQ
  have htake:Q.take (m+1)=Q.take m++[(q,s)]:=by
    rw [List.take_add_one,hQ]; rfl
  have hcnt:∀ p,(y5 p (Q.take (m+1))).length≤(S p).length:=fun p=>((a07 (p:=p) (Q:=Q) (i:=m+1)).trans (hpre p)).length_le
  have hk:(y5 q (Q.take m)).length≤16777300:=by
    have h1:=((a07 (p:=q) (Q:=Q) (i:=m)).trans (hpre q)).length_le
    have:=hsh q
    omega
  have hw:who (G8 q (y5 q (Q.take m)).length s)=q:=c2i hq
  have hn:nth (G8 q (y5 q (Q.take m)).length s)=(y5 q (Q.take m)).length:=b3A hk
  have ht:a3Y (G8 q (y5 q (Q.take m)).length s)=s:=c0r
  have hlog:x.2.1++[((q:Int),s,())]=B++(Q.take (m+1)).map a35:=by
    rw [h.log,htake,List.map_append,List.append_assoc]; rfl
  by_cases e:q=p
  · subst e
    have hc:=hcnt q
    rw [htake,a1m] at hc
    have h1:y5 q [(q,s)]=[s]:=by simp [y5]
    rw [h1,List.length_append] at hc
    simp only [List.length_singleton] at hc
    have hok:=h.ok
    rw [h.from_] at hok
    obtain ⟨g1,g2⟩:=c6r hok (by rw [List.length_drop]; omega) (by rw [List.length_drop]; have:=hsh q; omega)
    have hl:N1 x.2.2.1 (nth (G8 q (y5 q (Q.take m)).length s)+1)=(((((y5 q (Q.take m)).length+1:Nat):Int),((S q).drop (y5 q (Q.take m)).length).drop 1,()),0,()):=by
      rw [h.from_,hn]; exact g1
    rw [a6l hw (by rw [hl]),hl,hw,ht]
    refine ⟨⟨hlog,?_,g2⟩,rfl,rfl⟩
    show (((((y5 q (Q.take m)).length+1:Nat):Int),((S q).drop (y5 q (Q.take m)).length).drop 1,()):FrD)=_
    rw [htake,a1m,h1,List.length_append,List.drop_drop]; rfl
  · rw [a5f (fun c=>e (by have:=c.1; rw [hw] at this; exact_mod_cast this)),hw,ht]
    refine ⟨⟨hlog,?_,h.ok⟩,rfl,rfl⟩
    have h1:y5 p [(q,s)]=[]:=by simp [y5,e]
    rw [htake,a1m,h1,List.append_nil]
    exact h.from_
theorem b1m {p m:Nat} {x:o8} {l:List C5} (h:a91 B S Q p m x) (hl:∀ i,i<l.length→(I1 Q)[m+i]?=l[i]?) (hq:∀ y∈Q,y.1≤5) (hpre:∀ p,y5 p Q <+: S p) (hsh:∀ p,(S p).length≤16777215) :
    ∀ {i},i≤l.length→a91 B S Q p (m+i) (I4 p x l i)∧(I4 p x l i).2.2.2=x.2.2.2∧(I4 p x l i).1=x.1
  | 0,_=>⟨h,rfl,rfl⟩
  | i+1,hi=>by
    obtain ⟨g1,g2,g3⟩:=b1m h hl hq hpre hsh (show i≤l.length by omega)
    have h1:=hl i (by omega)
    rw [b1C,List.getElem?_eq_getElem (show i<l.length by omega)] at h1
    cases hQ:Q[m+i]? with
    | none=>rw [hQ] at h1; cases h1
    | some y =>
      obtain ⟨q,s⟩:=y
      rw [hQ] at h1
      have h2:G8 q (y5 q (Q.take (m+i))).length s=l[i]:=by simpa using h1
      have hy:=hq (q,s) (List.mem_of_getElem? hQ)
      obtain ⟨k1,k2,k3⟩:=b8K (p:=p) g1 hQ hy hpre hsh
      rw [I4,show l.getD i []=G8 q (y5 q (Q.take (m+i))).length s by rw [h2,List.getD_eq_getElem?_getD,List.getElem?_eq_getElem (show i<l.length by omega)]; rfl]
      exact ⟨k1,k2.trans g2,k3.trans g3⟩
theorem Inv.le5 (h:Inv said B S Q w):∀ y∈Q,y.1≤5:=fun y hy=>by have:=h.inQ y hy; have:=h.R4; omega
theorem Inv.take (h:Inv said B S Q w) {n:y4} {p:Nat} (hp:n.2.2.1=p) (hpl:p<w.2.1.length) (hv:V8 w.1.2.1 p=true) (hm:w.2.2.1[n.2.2.2.2.1.toNat]?=some n.2.2.2.2.2.2.1) :
    Inv said B S Q (Z7 w n):=by
  by_cases he:(M8 w n).2.2.1≠0
  · rw [Z7,if_pos he]; exact h
  rw [Z7,if_neg he,hp]
  have htk:M8 w n=C3 (w.2.1.getD p i8).2.2.2.1 (n.2.2.2.2.1,n.2.2.2.2.2.2.1,()):=by rw [M8,hp]; rfl
  rw [htk] at he ⊢
  have he0:=Decidable.not_not.1 he
  obtain ⟨⟨m,hM⟩,hsaid⟩:=h.mem p hpl hv
  rw [h.ord] at hm
  obtain ⟨a1,a2,a3,a4,a5,a6⟩:=a0G he0
  have hseq:=b1j (F:=fun i=>(I1 Q)[i]?) he0 hM.wait hm
  obtain ⟨r,hr⟩:∃ r,r=C3 (w.2.1.getD p i8).2.2.2.1 (n.2.2.2.2.1,n.2.2.2.2.2.2.1,()):=⟨_,rfl⟩
  rw [← hr] at he0 a1 a2 a3 a5 a6 hseq ⊢
  have hnx:=hM.next
  have hseq:∀ i,i<r.2.1.length→(I1 Q)[m+i]?=r.2.1[i]?:=fun i hi=>by
    have:=hseq i hi
    rw [hnx] at this
    exact this
  have hH:a91 B S Q p m (a86 (K6 w (p:Int)) r.1):=⟨hM.log,hM.from_,hM.ok⟩
  obtain ⟨k1,k2,k3⟩:=b1m hH hseq h.le5 h.b0o h.short (Nat.le_refl _)
  refine h.D6 (p:=p) (fun _=>?_) (fun _ _=>⟨m+r.2.1.length,?_⟩)
  · rw [k2]
    exact h.rcv p hpl
  · refine ⟨?_,?_,?_,k1.log,k1.from_,k1.ok⟩
    · rcases Nat.eq_zero_or_pos r.2.1.length with h0|h0
      · rw [h0]; exact hM.le
      · have h1:=hseq (r.2.1.length - 1) (by omega)
        rw [List.getElem?_eq_getElem (show r.2.1.length - 1<r.2.1.length by omega)] at h1
        have h2:m+(r.2.1.length - 1)<(I1 Q).length:=by
          by_cases h2:m+(r.2.1.length - 1)<(I1 Q).length
          · exact h2
          · rw [List.getElem?_eq_none (by omega)] at h1; cases h1
        rw [c1y] at h2
        omega
    · rw [k2]
      show r.1.1=_
      rw [a5,hnx]; omega
    · rw [k2]
      intro x hx
      rcases a2 x hx with rfl|hx
      · exact hm
      · exact hM.wait x hx
theorem Inv.c5k (h:Inv said B S Q w) {n:y4} (h0:0≤n.2.2.2.2.1) (hm:a3W S w.2.2.1 n) (ha:r8 w n.2.2.1=true):∃ Q',Inv said B S Q' (E7 w n):=by
  by_cases hk:known w n.2.1≠0
  · exact ⟨Q,by rw [a7M hk]; exact h⟩
  by_cases c1:n.1=1
  · rw [a6u hk c1]; exact h.order hk (hm.1 c1)
  by_cases c3:n.1=3
  · refine ⟨Q,?_⟩
    rw [a6v hk c3]; exact h.b8b (h.asks h0 4)
  by_cases c2:n.1=2
  · refine ⟨Q,?_⟩
    rw [a5O hk c2]
    obtain ⟨p,hp,hpl,hv,-⟩:=a1L.1 ha
    exact h.take hp hpl hv (hm.2 c2)
  · exact ⟨Q,by rw [a5P c1 c3 c2]; exact h⟩
theorem b3n {s:C5} (h:(s9 s).2.1=0):0≤(s9 s).1.2.2.2.2.1∧(s9 s).1.2.2.2.2.1≤16777215:=(a5U (c4S h).1).seq
theorem Inv.c7g (h:Inv said B S Q w) {how:Int} {s:C5} (hs:a7r S w.2.2.1 w.1.1 s):∃ Q',Inv said B S Q' (a0Z w how s):=by
  by_cases c:how=1∧(s9 s).2.1=0∧(s9 s).1.2.2.2.1=w.1.1∧r8 w (s9 s).1.2.2.1=true
  · rw [a9i c]
    exact h.c5k (b3n c.2.1).1 ((hs c.2.1).2 c.2.2.1) c.2.2.2
  · exact ⟨Q,by rw [b1g c]; exact h⟩
theorem Inv.move (h:Inv said B S Q w) (k how:Int):∃ Q',Inv said B S Q' (I5 w k how).1:=by
  by_cases c1:G6 how 1 3=false
  · exact ⟨Q,by rw [b1h c1]; exact h⟩
  by_cases c2:G6 k 0 ((w.2.2.2.1.length:Int) - 1)=false
  · exact ⟨Q,by rw [a9j c1 c2]; exact h⟩
  have hk:=S4.1 (Bool.not_eq_false _▸c2:G6 k 0 ((w.2.2.2.1.length:Int) - 1)=true)
  by_cases c3:how=3
  · by_cases c4:(w.2.2.2.1.length:Int)=60
    · exact ⟨Q,by rw [a9k c1 c2 c3 c4]; exact h⟩
    · refine ⟨Q,?_⟩
      rw [a9l c1 c2 c3 c4]
      exact h.copy (by omega) c4
  · rw [a8i c1 c2 c3]
    refine (h.drop k).c7g ?_
    refine h.msg _ ?_
    rw [List.getD_eq_getElem?_getD,List.getElem?_eq_getElem (by omega)]; exact List.getElem_mem _
end
end Go.Proofs.YtijlnmgondibnaaGreatDoor
namespace Go.Proofs.YtijlnmgondibnaaGreatDoor
open Go.Ex
set_option maxRecDepth 100000
theorem a8k {x:Int} (h:0≤x∧x≤255) {p:Nat} (hp:p<8):V8 x p=bit x p:=by
  have key:∀ n:Fin 256,∀ i:Fin 8,V8 ((n.val:Nat):Int) i.val=bit ((n.val:Nat):Int) i.val:=by decide +kernel
  have:=key ⟨x.toNat,by omega⟩ ⟨p,hp⟩
  simpa [show ((x.toNat:Nat):Int)=x by omega] using this
theorem c4V {k i:Nat} (hk:k<8) (hi:i<8):bit (IntKind.wrap .u8 (1*2^min ((k:Nat):Int).toNat IntKind.u8.bits)) i=decide (i=k):=by
  have key:∀ k:Fin 8,∀ i:Fin 8,bit (IntKind.wrap .u8 (1*2^min ((k.val:Nat):Int).toNat IntKind.u8.bits)) i.val=decide (i.val=k.val):=by decide +kernel
  exact key ⟨k,hk⟩ ⟨i,hi⟩
theorem b2X (i:Nat):bit 0 i=false:=by
  show (0:Nat).testBit i=false
  simp
theorem b3K {w:f8} (hv:0≤w.1.2.1∧w.1.2.1≤255):∀ {k:Nat},k≤8→q9 .u8 (D8 w k)∧∀ i,i<8→bit (D8 w k) i=(decide (i<k) && V8 w.1.2.1 i && !r8 w i)
  | 0,_=>⟨u8_in.2 ⟨Int.le_refl 0,by show (0:Int)≤255; decide⟩,fun i _=>by
      show bit 0 i=_
      rw [b2X]; simp⟩
  | k+1,hk=>by
    obtain ⟨h1,h2⟩:=b3K hv (show k≤8 by omega)
    rw [D8,b3L]
    by_cases a:r8 w k=true
    · rw [if_pos a]
      refine ⟨h1,fun i hi=>?_⟩
      rw [h2 i hi]
      by_cases e:i=k
      · subst e
        rw [a]; simp
      · rw [show decide (i<k+1)=decide (i<k) by by_cases c:i<k<;>simp [c]<;>omega]
    · rw [if_neg a]
      refine ⟨b8o,fun i hi=>?_⟩
      rw [c1E u8s h1 c1P,b7j u8s (u8_in.2 hv) (P8 _ _),c4V (by omega) hi,h2 i hi,← a8k hv hi]
      by_cases e:i=k
      · subst e
        have a':r8 w i=false:=by simpa using a
        rw [a']; simp
      · rw [show decide (i<k+1)=decide (i<k) by by_cases c:i<k<;>simp [c]<;>omega]
        simp [e]
theorem c2F {v:a0T} {g:Int} (h:¬ (N8 v g 0).2.1≠0):(N8 v g 0).1=(v.1+1,bOr .u8 (Q4 .u8 v.2.1 g) 0,())∧v.1<16777215∧0≤v.1:=by
  unfold N8 at h ⊢
  by_cases c1:U0 v≠0
  · rw [if_pos c1] at h; exact absurd c1 h
  rw [if_neg c1] at h ⊢
  split at h
  · exact absurd (by decide) h
  rename_i c2
  rw [if_neg c2]
  split at h
  · exact absurd (by decide) h
  rename_i c3
  rw [if_neg c3]
  split at h
  · exact absurd (by decide) h
  rename_i c4
  rw [if_neg c4]
  split at h
  · exact absurd (by decide) h
  rename_i c5
  rw [if_neg c5]
  refine ⟨rfl,?_⟩
  unfold U0 at c1
  split at c1
  · exact absurd (by decide) c1
  · rename_i c6
    omega
theorem members {w:f8} (hf:w.2.1.length≤6) (hv:0≤w.1.2.1∧w.1.2.1≤255) (hn:¬ (R9 w).2.1≠0) :
    (F9 w).1.1=w.1.1+1∧(0≤(F9 w).1.2.1∧(F9 w).1.2.1≤255)∧∀ p,p<w.2.1.length→V8 (F9 w).1.2.1 p=r8 w p:=by
  obtain ⟨h1,h2⟩:=c2F hn
  have he:(F9 w).1=(w.1.1+1,bOr .u8 (Q4 .u8 w.1.2.1 (D8 w w.2.1.length)) 0,()):=h1
  obtain ⟨g1,g2⟩:=b3K hv (show w.2.1.length≤8 by omega)
  rw [he]
  refine ⟨rfl,u8_in.1 b8o,fun p hp=>?_⟩
  have z0:q9 .u8 (0:Int):=u8_in.2 ⟨by decide,by decide⟩
  show V8 (bOr .u8 (Q4 .u8 w.1.2.1 (D8 w w.2.1.length)) 0) p=r8 w p
  rw [a8k (u8_in.1 b8o) (by omega),c1E u8s c1Q z0,b9D u8s (u8_in.2 hv) g1,g2 p (by omega),b2X,← a8k hv (by omega),decide_eq_true hp]
  cases hm:V8 w.1.2.1 p with
  | true=>simp
  | false =>
    have:r8 w p=false:=by
      cases ha:r8 w p with
      | false=>rfl
      | true=>have:=(a0e.1 ha).2.1; rw [hm] at this; cases this
    rw [this]; rfl
theorem a6g {w:f8}:∀ {k:Nat},G4 w k=[]∨∃ i,i<k∧r8 w i=true∧G4 w k=(w.2.1.getD i i8).2.1
  | 0=>.inl rfl
  | k+1=>by
    rw [G4]
    split
    · rename_i h; exact .inr ⟨k,by omega,h.1,rfl⟩
    · rcases a6g (w:=w) (k:=k) with h|⟨i,h1,h2,h3⟩
      · exact .inl h
      · exact .inr ⟨i,by omega,h2,h3⟩
theorem a7B {f:Nat→o8→o8} {l:List o8} {p:Nat} (hp:p<l.length):(l.mapIdx f).getD p i8=f p (l.getD p i8):=by
  rw [List.getD_eq_getElem?_getD,List.getElem?_mapIdx,List.getD_eq_getElem?_getD,List.getElem?_eq_getElem hp]; rfl
theorem c3c {α:Type} {l:List α} {c:Nat}:l.drop (min c l.length)=l.drop c:=by
  by_cases h:c≤l.length
  · rw [Nat.min_eq_left h]
  · rw [Nat.min_eq_right (by omega),List.drop_length,List.drop_eq_nil_of_le (by omega)]
section
variable {said:Nat→List C5} {B:List B9} {S:Nat→List C5} {Q:List S8} {w:f8}
theorem Inv.long (h:Inv said B S Q w) {p0:Nat} (hp0:p0<w.2.1.length) (ha0:r8 w p0=true) :
    ∃ m,m≤Q.length∧G4 w w.2.1.length=B++(Q.take m).map a35∧∀ p,p<w.2.1.length→r8 w p=true→∀ j,b2S said B S Q p (w.2.1.getD p i8) j→j≤m:=by
  rcases a6g (w:=w) (k:=w.2.1.length) with hL|⟨i,hi,hai,hL⟩
  · have hz:∀ p,p<w.2.1.length→r8 w p=true→(w.2.1.getD p i8).2.1=[]:=fun p hp hap=>by
      have:=a47 hap hp
      rw [hL] at this
      exact List.eq_nil_of_length_eq_zero (by simpa using this)
    obtain ⟨⟨j,hj⟩,-⟩:=h.mem p0 hp0 (a0e.1 ha0).2.1
    have h0:=hj.log
    rw [hz p0 hp0 ha0] at h0
    have hB:B=[]:=(List.append_eq_nil_iff.1 h0.symm).1
    refine ⟨0,Nat.zero_le _,by rw [hL,hB]; rfl,fun p hp hap j hj=>?_⟩
    have h0:=hj.log
    rw [hz p hp hap] at h0
    have h1:=(List.append_eq_nil_iff.1 h0.symm).2
    have h2:=congrArg List.length h1
    rw [List.length_map,List.length_take] at h2
    have:=hj.le
    simp only [List.length_nil] at h2
    omega
  · obtain ⟨⟨m,hm⟩,-⟩:=h.mem i hi (a0e.1 hai).2.1
    refine ⟨m,hm.le,by rw [hL,hm.log],fun p hp hap j hj=>?_⟩
    have:=a47 hap hp
    rw [hL,hm.log,hj.log,List.length_append,List.length_append,List.length_map,List.length_map,List.length_take,List.length_take] at this
    have h1:=hj.le
    have h2:=hm.le
    omega
theorem Inv.change (h:Inv said B S Q w) (hv:0≤w.1.2.1∧w.1.2.1≤255) (hn:¬ (R9 w).2.1≠0) :
    ∃ B' S',Inv said B' S' [] (F9 w)∧(∀ p,p<w.2.1.length→r8 w p=true→(F9 w).2.1.getD p i8=((w.2.1.getD p i8).1,B',(0,S' p,()),(0,[],()),(0,[],()),())) ∧
      (∀ p,p<w.2.1.length→(w.2.1.getD p i8).2.1 <+: ((F9 w).2.1.getD p i8).2.1):=by
  obtain ⟨hv1,hv2,hv3⟩:=members h.R4 hv hn
  have hlen:(F9 w).2.1.length=w.2.1.length:=List.length_mapIdx ..
  have hget:∀ p:Nat,p<w.2.1.length→(F9 w).2.1.getD p i8=Y8 w (G4 w w.2.1.length) p (w.2.1.getD p i8):=fun p hp=>a7B hp
  have hno:∀ p:Nat,p<w.2.1.length→r8 w p=false→(F9 w).2.1.getD p i8=((w.2.1.getD p i8).1,(w.2.1.getD p i8).2.1,(w.2.1.getD p i8).2.2.1,(w.2.1.getD p i8).2.2.2.1,(0,[],()),()):=fun p hp ha=>by
    rw [hget p hp,Y8,if_neg (by rw [ha]; decide)]
  have hmsg:∀ S',∀ s∈w.2.2.2.1,a7r S' [] (w.1.1+1) s:=fun S' s hs e=>by
    have:=(h.msg s hs e).1
    exact ⟨by omega,fun e2=>absurd e2 (by omega)⟩
  by_cases hex:∃ p0:Nat,p0<w.2.1.length∧r8 w p0=true
  · obtain ⟨p0,hp0,ha0⟩:=hex
    obtain ⟨m,hmQ,hL,hjm⟩:=h.long hp0 ha0
    rw [hL] at hget
    obtain ⟨S',hS'⟩:∃ S':Nat→List C5,S'=fun p=>if p<w.2.1.length∧r8 w p=true then (S p).drop (y5 p (Q.take m)).length else []:=⟨_,rfl⟩
    have hS1:∀ p:Nat,p<w.2.1.length→r8 w p=true→S' p=(S p).drop (y5 p (Q.take m)).length:=fun p hp ha=>by rw [hS']; exact if_pos ⟨hp,ha⟩
    have hS0:∀ p:Nat,r8 w p=false→S' p=[]:=fun p ha=>by rw [hS']; exact if_neg (fun c=>by rw [c.2] at ha; cases ha)
    have hyes:∀ p:Nat,p<w.2.1.length→r8 w p=true→(F9 w).2.1.getD p i8=((w.2.1.getD p i8).1,B++(Q.take m).map a35,(0,S' p,()),(0,[],()),(0,[],()),()):=fun p hp ha=>by
      obtain ⟨⟨j,hj⟩,-⟩:=h.mem p hp (a0e.1 ha).2.1
      have hjm:=hjm p hp ha j hj
      rw [hget p hp,Y8,if_pos ha,c3c,hj.from_]
      simp only
      have hd:(B++(Q.take m).map a35).drop (w.2.1.getD p i8).2.1.length=((Q.take m).drop j).map a35:=by
        rw [hj.log,List.length_append,List.length_map,List.length_take,Nat.min_eq_left hj.le,← List.drop_drop,List.drop_left,List.map_drop]
      rw [hd,a9F,a7h,List.drop_drop,hS1 p hp ha]
      have hsp:y5 p (Q.take m)=y5 p (Q.take j)++y5 p ((Q.take m).drop j):=by
        rw [← a1m]
        congr 1
        rw [show Q.take j=(Q.take m).take j by rw [List.take_take,Nat.min_eq_left hjm],List.take_append_drop]
      rw [hsp,List.length_append]
    refine ⟨B++(Q.take m).map a35,S',?_,hyes,fun p hp=>?_⟩
    · refine ⟨by rw [hlen]; exact h.R4,h.way,rfl,fun x hx=>(by cases hx),fun p=>List.nil_prefix,fun p=>?_,fun s hs=>?_,fun p hp=>?_,fun p hp hm=>?_,fun p hp hm=>?_⟩
      · rw [hS']
        dsimp only
        split
        · rw [List.length_drop]; have:=h.short p; omega
        · exact Nat.zero_le _
      · rw [hv1]; exact hmsg S' s hs
      · rw [hlen] at hp
        cases ha:r8 w p with
        | true=>rw [hyes p hp ha]; exact ⟨rfl,fun q hq=>by cases hq⟩
        | false=>rw [hno p hp ha]; exact ⟨rfl,fun q hq=>by cases hq⟩
      · rw [hlen] at hp
        rw [hv3 p hp] at hm
        rw [hyes p hp hm]
        obtain ⟨⟨j,hj⟩,hsaid⟩:=h.mem p hp (a0e.1 hm).2.1
        have hok:=hj.ok
        rw [hj.from_] at hok
        have hoke:=a1c hok
        have hjm:=hjm p hp hm j hj
        have hsub:S' p=((S p).drop (y5 p (Q.take j)).length).drop ((y5 p (Q.take m)).length - (y5 p (Q.take j)).length):=by
          rw [hS1 p hp hm,List.drop_drop]
          congr 1
          have:(y5 p (Q.take j)).length≤(y5 p (Q.take m)).length:=by
            have:=(a07 (p:=p) (Q:=Q.take m) (i:=j)).length_le
            rw [List.take_take,Nat.min_eq_left hjm] at this
            exact this
          omega
        refine ⟨⟨0,Nat.zero_le _,rfl,fun q hq=>(by cases hq),by simp,by simp [y5],?_⟩,?_⟩
        · refine b3N ⟨by decide,by decide⟩ ?_ ?_
          · rw [hsub,List.length_drop]; have:=hoke.2.1; simp only at this; omega
          · rw [hsub]; exact b4v hoke.2.2
        · rw [hsaid,b0r,a7h,hS1 p hp hm,List.append_assoc]
          congr 1
          have hpre:=(a07 (p:=p) (Q:=Q) (i:=m)).trans (h.b0o p)
          conv=>lhs; rw [← List.take_append_drop (y5 p (Q.take m)).length (S p)]
          rw [← List.prefix_iff_eq_take.1 hpre]
      · rw [hlen] at hp
        rw [hv3 p hp] at hm
        refine ⟨hS0 p hm,?_⟩
        rw [b0r,a7h]
        have hpre:=(a07 (p:=p) (Q:=Q) (i:=m)).trans (h.b0o p)
        cases hm0:V8 w.1.2.1 p with
        | true =>
          rw [(h.mem p hp hm0).2]
          exact (List.prefix_append_right_inj _).2 hpre
        | false =>
          obtain ⟨e1,e2⟩:=h.out p hp hm0
          rw [e1] at hpre
          rw [List.prefix_nil.1 hpre,List.append_nil]
          exact e2
    · cases ha:r8 w p with
      | true =>
        rw [hyes p hp ha]
        obtain ⟨⟨j,hj⟩,-⟩:=h.mem p hp (a0e.1 ha).2.1
        have hjm:=hjm p hp ha j hj
        rw [hj.log]
        refine (List.prefix_append_right_inj _).2 (List.IsPrefix.map a35 ?_)
        rw [show Q.take j=(Q.take m).take j by rw [List.take_take,Nat.min_eq_left hjm]]
        exact List.take_prefix ..
      | false=>rw [hno p hp ha]; exact List.prefix_rfl
  · have hall:∀ p:Nat,p<w.2.1.length→r8 w p=false:=fun p hp=>by
      cases ha:r8 w p with
      | false=>rfl
      | true=>exact absurd ⟨p,hp,ha⟩ hex
    refine ⟨[],fun _=>[],?_,fun p hp ha=>(by rw [hall p hp] at ha; cases ha),fun p hp=>by rw [hno p hp (hall p hp)]; exact List.prefix_rfl⟩
    refine ⟨by rw [hlen]; exact h.R4,h.way,rfl,fun x hx=>(by cases hx),fun p=>List.nil_prefix,fun p=>Nat.zero_le _,fun s hs=>?_,fun p hp=>?_,fun p hp hm=>?_,fun p hp hm=>⟨rfl,List.nil_prefix⟩⟩
    · rw [hv1]; exact hmsg _ s hs
    · rw [hlen] at hp
      rw [hno p hp (hall p hp)]; exact ⟨rfl,fun q hq=>by cases hq⟩
    · rw [hlen] at hp
      rw [hv3 p hp,hall p hp] at hm; cases hm
end
end Go.Proofs.YtijlnmgondibnaaGreatDoor
namespace Go.Proofs.YtijlnmgondibnaaGreatDoor
open Go.Ex
set_option maxRecDepth 100000
attribute [local irreducible] Go.Ex.exec
section
variable {H:Array Go.Obj} {S:Nat→Prop} {O:List Nat} {cs:List Value}
theorem b3l {α β:Type} {R:List Nat→List Value→α→Prop} {R':List Nat→List Value→β→Prop} {sz:Nat} {f:α→β} (hr:∀ O cs x,R O cs x→R' O cs (f x)):∀ {l:List α} {O:List Nat} {cs:List Value},i7 R sz O cs l→i7 R' sz O cs (l.map f)
  | [],_,_,h=>h
  | _::_,_,_,⟨O1,O2,e,h1,h2⟩=>⟨O1,O2,e,hr _ _ _ h1,b3l hr h2⟩
theorem c6e {l:List o8} (h:f7 H S (.d0 true a2i) O cs l):f7 H S (.d0 true V3) O cs (l.map toM):=by
  have e:(l.map toM).length=l.length:=List.length_map ..
  rcases h with ⟨a,b,c⟩|⟨b,off,cap,O',h1,h2,h3,h4,h5,h6⟩
  · exact .inl ⟨a,b,by rw [c]; rfl⟩
  · refine .inr ⟨b,off,cap,O',?_,?_,h3,?_,?_,h6⟩
    · rw [h1]; exact congrArg (fun n:Nat=>[Value.slice (some ⟨b,off,none⟩) n cap]) e.symm
    · exact Nat.le_trans (Nat.le_of_eq e) h2
    · exact Nat.le_trans (Nat.le_of_eq (congrArg (fun n:Nat=>off+n*V3.size) e)) h4
    · have:=b3l (R':=f7 H S V3) (f:=toM) (fun _ _ _ h=>h) h5
      have e2:d8 H b off (List.length (l.map toM)*V3.size)=d8 H b off (List.length l*a2i.size):=congrArg (fun n:Nat=>d8 H b off (n*V3.size)) e
      show i7 (f7 H S V3) V3.size O' (d8 H b off (List.length (l.map toM)*V3.size)) (l.map toM)
      rw [e2]
      exact this
theorem c2q {l:List o8} (h:f7 H S (.d0 true V3) O cs (l.map toM)):f7 H S (.d0 true a2i) O cs l:=by
  have e:(l.map toM).length=l.length:=List.length_map ..
  rcases h with ⟨a,b,c⟩|⟨b,off,cap,O',h1,h2,h3,h4,h5,h6⟩
  · exact .inl ⟨a,b,List.map_eq_nil_iff.1 c⟩
  · refine .inr ⟨b,off,cap,O',?_,?_,h3,?_,?_,h6⟩
    · rw [h1]; exact congrArg (fun n:Nat=>[Value.slice (some ⟨b,off,none⟩) n cap]) e
    · exact Nat.le_trans (Nat.le_of_eq e.symm) h2
    · exact Nat.le_trans (Nat.le_of_eq (congrArg (fun n:Nat=>off+n*V3.size) e.symm)) h4
    · have e2:d8 H b off (List.length (l.map toM)*V3.size)=d8 H b off (List.length l*a2i.size):=congrArg (fun n:Nat=>d8 H b off (n*V3.size)) e
      have h5:i7 (f7 H S V3) V3.size O' (d8 H b off (List.length (l.map toM)*V3.size)) (l.map toM):=h5
      rw [e2] at h5
      exact i7.c6p (R:=f7 H S a2i) (f:=toM) (fun _ _ _ h=>h) h5
theorem c4O {w:f8} (h:f7 H S w9 O cs w):f7 H S W6 O cs (a0p w):=by
  obtain ⟨v,al,r⟩:=w
  obtain ⟨P1,P2,e,r1,P3,P4,e',r2,r3⟩:=h
  exact ⟨P1,P2,e,r1,P3,P4,e',c6e r2,r3⟩
theorem c0N {w:f8} (h:f7 H S W6 O cs (a0p w)):f7 H S w9 O cs w:=by
  obtain ⟨v,al,r⟩:=w
  obtain ⟨P1,P2,e,r1,P3,P4,e',r2,r3⟩:=h
  exact ⟨P1,P2,e,r1,P3,P4,e',c2q r2,r3⟩
end
def b4l:p7:={ ps:=[.rw w9],rs:=[e8],pre:=fun x=>a0M x.1,fn:=fun x=>((H3 x.1).2,()),out:=fun x=>((H3 x.1).1,()) }
theorem a9L {w:f8} (h:(R9 w).2.1≠0):H3 w=(w,(R9 w).2.1):=by rw [H3]; exact if_pos h
theorem a7R {w:f8} (h:¬ (R9 w).2.1≠0):H3 w=(F9 w,0):=by rw [H3]; exact if_neg h
attribute [local irreducible] H3 F9 R9 in
theorem b0K:b4l.Valid Tryz.prog 25:=by
  refine ⟨a5S.ent,?_,fun h=>by cases h⟩
  rintro w S vs ⟨(x:f8),⟨⟩⟩ L hS hgl (hpre:a0M x) ⟨v,us,L1,L2,rfl,rfl,⟨b,off,O,rfl,hr,hf,rfl⟩,rfl,rfl⟩ - hnd hL
  by_cases hn:(R9 x).2.1≠0
  · have hs:f7 w.heap (fun c=>S c∨c∈b::O) J0 [] (d8 w.heap b off w9.size) x:=hr.a1s (S':=fun c=>S c∨c∈b::O) (fun c h=>.inr (List.mem_cons_of_mem _ h)) (fun c h=>.inl h) rfl
    refine (b0L.run w (fun c=>S c∨c∈b::O) [.pointer (some ⟨b,off,none⟩)] (x,()) [] ?_ (hgl.sub (fun c h=>.inl h)) ⟨hpre.R4,hn⟩ ⟨_,[],[],[],rfl,rfl,⟨rfl,b,off,rfl,.inr List.mem_cons_self,?_,hs⟩,rfl,rfl⟩ trivial List.nodup_nil (by simp)).mono ?_
    · rintro c (h|h)
      · exact hS c h
      · exact (hL c (by simpa using h)).2
    · exact K4.s5 hf
    rintro e w' ⟨us,O2,Lo,S',e1,hp,s1,s2,h1,h2,hnd2,hb2⟩
    obtain ⟨v1,us1,P1,P2,cs,rfl,rfl,rfl,⟨rfl,rfl,hk⟩,rfl,rfl⟩:=h1
    have hfr:∀ c,c<w.heap.size→w'.heap[c]?=w.heap[c]?:=fun c hc=>hp.frame c hc (by simp)
    have hLb:∀ c∈b::O,¬ S c∧c<w.heap.size:=fun c hc=>hL c (by simpa using hc)
    have hb:=hfr b (hLb b List.mem_cons_self).2
    have hch:=a9L hn
    refine ⟨[_],[],b::O,S,e1,⟨hp.os,hp.tape,hp.out,hp.size,fun c hc hn=>hfr c hc⟩,fun _ h=>h,fun c h=>.inl h,⟨_,[],[],[],_,rfl,rfl,rfl,⟨rfl,?_,?_⟩,rfl,rfl⟩,⟨b,off,O,[],[],rfl,?_,?_,by simp,rfl,rfl⟩,?_,?_⟩
    · show [Value.int .i64 _]=[Value.int .i64 (H3 x).2]
      rw [hch]; rfl
    · show q9 .i64 (H3 x).2
      rw [hch]; exact hk
    · show f7 w'.heap S w9 O (d8 w'.heap b off w9.size) (H3 x).1
      rw [hch,l4 hb]
      exact hr.r7 (fun c hc=>hfr c (hc.elim (fun h=>(hLb c (List.mem_cons_of_mem _ h)).2) (hS c))) (fun _ h=>h)
    · exact K4.r7 hb hf
    · simpa using hnd
    · intro c hc
      have hc:c∈b::O:=by simpa using hc
      exact ⟨(hLb c hc).1,.inr (by simpa using hc),Nat.lt_of_lt_of_le (hLb c hc).2 hp.size⟩
  · have hch:=a7R hn
    have hft:=c2X x
    refine (a5S.run w S [.pointer (some ⟨b,off,none⟩)] (a0p x,()) (b::O++[]) hS hgl ⟨?_,?_,?_⟩ ⟨_,[],b::O,[],rfl,rfl,⟨b,off,O,rfl,c4O hr,hf,rfl⟩,rfl,rfl⟩ trivial hnd hL).mono ?_
    · show a0p x=a0p (a0x (a0p x)); rw [hft]
    · show a0M (a0x (a0p x)); rw [hft]; exact hpre
    · show ¬ (R9 (a0x (a0p x))).2.1≠0; rw [hft]; exact hn
    rintro e w' ⟨us,O2,Lo,S',e1,hp,s1,s2,h1,h2,h3,h4⟩
    refine ⟨us,O2,Lo,S',e1,hp,s1,s2,?_,?_,h3,h4⟩
    · have h1:J1 w'.heap S' [e8] O2 us ((0:Int),()):=h1
      show J1 w'.heap S' [e8] O2 us ((H3 x).2,())
      rw [hch]; exact h1
    · obtain ⟨b',off',O',us',L',e',hr',hf',e2,h'⟩:=h2
      refine ⟨b',off',O',us',L',e',?_,hf',e2,h'⟩
      have hr':f7 w'.heap S' W6 O' (d8 w'.heap b' off' W6.size) (a0p (F9 (a0x (a0p x)))):=hr'
      show f7 w'.heap S' w9 O' (d8 w'.heap b' off' w9.size) (H3 x).1
      rw [hch]
      rw [hft] at hr'
      exact c0N hr'
end Go.Proofs.YtijlnmgondibnaaGreatDoor
namespace Go.Proofs.YtijlnmgondibnaaGreatDoor
open Go.Ex
set_option maxRecDepth 100000
attribute [local irreducible] Go.Ex.exec
abbrev b5B:=Int×Int×Int×Unit
abbrev Event:Ty:=.pair e8 (.pair e8 (.pair e8 .unit))
abbrev a2I:=List UInt8
def b9t:p7:={ ps:=[.v e8,.v e8,.v e8],rs:=[.bool],pre:=fun _=>True,fn:=fun x=>(V6 x.1 x.2.1 x.2.2.1,()),out:=fun _=>() }
noncomputable def c0l:Env:={ P:=Tryz.prog,tt:=tt,C0:=[],res:=[Go.ResultVar.tmp 6],rs:=[Ty.bool],ps:=[PK.v e8,PK.v e8,PK.v e8],y6:=[],nt:=15 }
theorem b5z:u7 c0l:=x6 p9 trivial
theorem b4X:B0 c0l Tryz.f92:=⟨rfl,rfl⟩
theorem c52 (x0:Int) (x1:Int) (x2:Int):exec c0l 1000 [.code (d9 Tryz.prog 92)] (s6 b9t.ps ((x0,x1,x2,()))) =
  cond (decide (x1≤x0)) (.ret ((decide (x0≤x2),()))) (.ret ((false,()))):=by kernel_rfl
theorem b6l:b9t.Valid Tryz.prog 92:=by
  refine p7.o6 b5z rfl rfl Tryz.func92 (c:=d9 Tryz.prog 92) rfl rfl b4X rfl ?_
  rintro ⟨(a:Int),(b:Int),(c:Int),⟨⟩⟩ - -
  refine j5 (n:=1000) b5z b4X ?_
  refine g9 (c52 a b c) ?_
  simp only [j8,Tree.holds,true_and,true_implies,decide_eq_true_eq,decide_eq_false_iff_not,Bool.not_eq_true',Bool.not_eq_false',Int.toNat_natCast,j9,List.length_set,List.length_cons,List.length_nil]
  repeat' first|exact trivial|(refine And.intro ?_ ?_)|(intro _)
  all_goals (show ((_,()):Bool×Unit)=(V6 a b c,()); simp [V6, *])
def b82:p7:={ ps:=[.v (.d0 false .str),.v .str],rs:=[e8],pre:=fun _=>True,fn:=fun x=>(idxOf (fun y=>decide ((show (List UInt8) from x.2.1)=y)) x.1,()),out:=fun _=>() }
noncomputable def b2T:Env:={ P:=Tryz.prog,tt:=tt,C0:=[],res:=[Go.ResultVar.tmp 4],rs:=[Ty.int IntKind.i64],ps:=[PK.v (Ty.d0 false Ty.str),PK.v Ty.str],y6:=[(2,[(0,none),(1,none),(7,none),(8,none)])],nt:=19 }
theorem a8K:u7 b2T:=x6 p9 trivial
theorem a8F:B0 b2T Tryz.f90:=⟨rfl,rfl⟩
theorem c5G (x0:List (List UInt8)) (x1:List UInt8):exec b2T 1000 [.code (d9 Tryz.prog 90)] (s6 b82.ps ((x0,x1,()))) =
  .ctL (f9 (d9 Tryz.prog 90) 2) (St.mk [(0,AV.val (Ty.d0 false Ty.str) x0),(1,AV.val Ty.str x1),(7,AV.val e8 (↑(List.length x0):Int)),(8,AV.val e8 (0:Int))] []):=by kernel_rfl
def b40 (v0:List (List UInt8)) (v1:List UInt8) (v7:Int) (v8:Int):St:=St.mk [(0,AV.val (Ty.d0 false Ty.str) v0),(1,AV.val Ty.str v1),(7,AV.val e8 v7),(8,AV.val e8 v8)] []
theorem c3K (v0:List (List UInt8)) (v1:List UInt8) (v7:Int) (v8:Int):exec b2T 1000 (.code (f9 (d9 Tryz.prog 90) 2).1::.inLoop (f9 (d9 Tryz.prog 90) 2).1::(f9 (d9 Tryz.prog 90) 2).2) (b40 v0 v1 v7 v8) =
  cond (decide (v8<v7)) (.f6 ((0:Int)≤v8∧v8<(↑(List.length v0):Int)) (cond (decide (v1=List.getD v0 (Int.toNat v8) [])) (.ret ((v8,()))) (.f6 (q9 IntKind.i64 (v8+(1:Int))) (.ctL (f9 (d9 Tryz.prog 90) 2) (St.mk [(0,AV.val (Ty.d0 false Ty.str) v0),(1,AV.val Ty.str v1),(7,AV.val e8 v7),(8,AV.val e8 (v8+(1:Int)))] []))))) (.ret (((-1:Int),()))):=by kernel_rfl
theorem b52:b82.Valid Tryz.prog 90:=by
  refine p7.o6 a8K rfl rfl Tryz.func90 (c:=d9 Tryz.prog 90) rfl rfl a8F rfl ?_
  rintro ⟨(l:List ((List UInt8))),(x:(List UInt8)),⟨⟩⟩ - ⟨⟨hl,-⟩,-⟩
  have hl:l.length≤9223372036854775807:=hl
  refine j5 (n:=1000) a8K a8F ?_
  refine g9 (c5G l x) ?_
  refine Reach.N3 a8K a8F (fun i:Nat=>b40 l x (l.length:Int) (i:Int) ) (fun i=>i≤l.length∧idxOf (fun y=>decide (x=y)) l=S5 (fun y=>decide (x=y)) (l.drop i) i)
    (fun i=>l.length - i) 1000 (fun _=>⟨u3 rfl,u3 rfl⟩) ?_ 0 ⟨by omega,rfl⟩
  rintro i ⟨k1,k2⟩ - ih
  refine g9 (c3K ..) ?_
  simp only [j8,Tree.holds,true_and,true_implies,decide_eq_true_eq,decide_eq_false_iff_not,Bool.not_eq_true',Bool.not_eq_false',Int.toNat_natCast,j9,List.length_set,List.length_cons,List.length_nil]
  refine ⟨fun h=>?_,fun h=>?_⟩
  · rw [a6r (show i<l.length by omega) [],S5] at k2
    have key:∀ b:Bool,(b=true↔x=l.getD i [])→(b=true→(((i:Int),()):Int×Unit)=(idxOf (fun y=>decide (x=y)) l,()))∧(b=false→idxOf (fun y=>decide (x=y)) l=S5 (fun y=>decide (x=y)) (l.drop (i+1)) (i+1)):=fun b hb=>by
      refine ⟨fun c=>?_,fun c=>?_⟩
      · rw [k2,if_pos (decide_eq_true (hb.1 c))]
      · rw [k2,if_neg (fun h9=>by rw [hb.2 (of_decide_eq_true h9)] at c; cases c)]
    refine ⟨by omega,fun _=>⟨fun c=>?_,fun c=>⟨by omega,fun _=>ih (i+1) ⟨by omega,?_⟩ (by omega)⟩⟩⟩
    · exact (key true ⟨fun _=>c,fun _=>rfl⟩).1 rfl
    · exact (key false ⟨fun h9=>(by cases h9),fun h9=>(c h9).elim⟩).2 rfl
  · rw [List.drop_eq_nil_of_le (by omega)] at k2
    show (((-1:Int),()):Int×Unit)=(idxOf (fun y=>decide (x=y)) l,())
    rw [k2]; rfl
def I8 (n:Int):Int:=min (max n (-1000000000)) 1000000000
theorem c1t (n:Int):(if 1000000000<(if n < -1000000000 then -1000000000 else n) then 1000000000 else (if n < -1000000000 then -1000000000 else n))=I8 n:=by
  unfold I8; split<;>split<;>omega
theorem c3q (n:Int):-1000000000≤I8 n∧I8 n≤1000000000:=by unfold I8; omega
def b4k:p7:={ ps:=[.v e8],rs:=[e8],pre:=fun _=>True,fn:=fun x=>(I8 x.1,()),out:=fun _=>() }
noncomputable def b5y:Env:={ P:=Tryz.prog,tt:=tt,C0:=[],res:=[Go.ResultVar.tmp 2],rs:=[Ty.int IntKind.i64],ps:=[PK.v e8],y6:=[],nt:=6 }
theorem b2n:u7 b5y:=x6 p9 trivial
theorem b1Z:B0 b5y Tryz.f93:=⟨rfl,rfl⟩
theorem c4c (x0:Int):exec b5y 1000 [.code (d9 Tryz.prog 93)] (s6 b4k.ps ((x0,()))) =
  .ret ((if (1000000000:Int)<if x0<(-1000000000:Int) then (-1000000000:Int) else x0 then (1000000000:Int) else if x0<(-1000000000:Int) then (-1000000000:Int) else x0,())):=by kernel_rfl
theorem b4j:b4k.Valid Tryz.prog 93:=by
  refine p7.o6 b2n rfl rfl Tryz.func93 (c:=d9 Tryz.prog 93) rfl rfl b1Z rfl ?_
  rintro ⟨(n:Int),⟨⟩⟩ - -
  refine j5 (n:=1000) b2n b1Z ?_
  refine g9 (c4c n) ?_
  show ((_,()):Int×Unit)=(I8 n,())
  rw [← c1t]
abbrev E2:List UInt8:=[32]
abbrev a1A:List (List UInt8):=[[115,101,116],[97,100,100],[109,111,115,116],[99,111,112,121]]
def b0y (n:Int):Int:=min (max n (-4000000000)) 4000000000
theorem c5h (n:Int):(if 4000000000<(if n < -4000000000 then -4000000000 else n) then 4000000000 else (if n < -4000000000 then -4000000000 else n))=b0y n:=by
  unfold b0y; split<;>split<;>omega
def b0h (v:List Int) (c:b5B):List Int :=
  if c.1=1 then v.set c.2.1.toNat (I8 c.2.2.1)
  else if c.1=2 then v.set c.2.1.toNat (I8 (b0y (v.getD c.2.1.toNat 0)+I8 c.2.2.1))
  else if c.1=3 then v.set c.2.1.toNat (max (v.getD c.2.1.toNat 0) (I8 c.2.2.1))
  else if c.1=4 then v.set c.2.1.toNat (v.getD c.2.2.1.toNat 0)
  else v
def c3m:p7:={ ps:=[.rw a0L,.v Event],rs:=[],pre:=fun x=>(LE.le (α:=Int) 0 x.2.1.2.1∧LT.lt (α:=Int) x.2.1.2.1 10)∧(x.2.1.1=(4:Int)→LE.le (α:=Int) 0 x.2.1.2.2.1∧LT.lt (α:=Int) x.2.1.2.2.1 10),fn:=fun _=>(),out:=fun x=>(b0h x.1 x.2.1,()) }
noncomputable def c3M:Env:={ P:=Tryz.prog,tt:=tt,C0:=[(93,b4k)],res:=[],rs:=[],ps:=[PK.rw a0L,PK.v (Ty.pair e8 c4D)],y6:=[],nt:=54 }
theorem b7D:u7 c3M:=x6 p9 ⟨b4j,trivial⟩
theorem b7t:B0 c3M Tryz.f74:=⟨rfl,rfl⟩
theorem c6V (x0:List Int) (x1_1:Int) (x1_2_1:Int) (x1_2_2_1:Int):exec c3M 1000 [.code (d9 Tryz.prog 74)] (s6 c3m.ps ((x0,(x1_1,x1_2_1,x1_2_2_1,()),()))) =
  .f6 ((0:Int)≤x1_2_1∧x1_2_1<(↑10:Int)) (cond (decide (x1_1=(1:Int))) (.f6 (True) (.ret ((List.set x0 (Int.toNat x1_2_1) (I8 x1_2_2_1),())))) (cond (decide (x1_1=(2:Int))) (.f6 (True) (.f6 (q9 IntKind.i64 ((if (4000000000:Int)<if List.getD x0 (Int.toNat x1_2_1) (0:Int)<(-4000000000:Int) then (-4000000000:Int) else List.getD x0 (Int.toNat x1_2_1) (0:Int) then (4000000000:Int) else if List.getD x0 (Int.toNat x1_2_1) (0:Int)<(-4000000000:Int) then (-4000000000:Int) else List.getD x0 (Int.toNat x1_2_1) (0:Int))+I8 x1_2_2_1)) (.f6 (True) (.ret ((List.set x0 (Int.toNat x1_2_1) (I8 ((if (4000000000:Int)<if List.getD x0 (Int.toNat x1_2_1) (0:Int)<(-4000000000:Int) then (-4000000000:Int) else List.getD x0 (Int.toNat x1_2_1) (0:Int) then (4000000000:Int) else if List.getD x0 (Int.toNat x1_2_1) (0:Int)<(-4000000000:Int) then (-4000000000:Int) else List.getD x0 (Int.toNat x1_2_1) (0:Int))+I8 x1_2_2_1)),())))))) (cond (decide (x1_1=(3:Int))) (.f6 (True) (.ret ((List.set x0 (Int.toNat x1_2_1) (if List.getD x0 (Int.toNat x1_2_1) (0:Int)<I8 x1_2_2_1 then I8 x1_2_2_1 else List.getD x0 (Int.toNat x1_2_1) (0:Int)),())))) (cond (decide (x1_1=(4:Int))) (.f6 ((0:Int)≤x1_2_2_1∧x1_2_2_1<(↑10:Int)) (.ret ((List.set x0 (Int.toNat x1_2_1) (List.getD x0 (Int.toNat x1_2_2_1) (0:Int)),())))) (.ret ((x0,()))))))):=by kernel_rfl
theorem b85:c3m.Valid Tryz.prog 74:=by
  refine p7.o6 b7D rfl rfl Tryz.func74 (c:=d9 Tryz.prog 74) rfl rfl b7t rfl ?_
  rintro ⟨(v:List Int),⟨(k:Int),(i:Int),(n:Int),⟨⟩⟩,⟨⟩⟩ ⟨⟨(h1:0≤i),(h2:i<10)⟩,(h3:k=4→0≤n∧n<10)⟩ -
  refine j5 (n:=1000) b7D b7t ?_
  refine g9 (c6V v k i n) ?_
  have hd:b0h v (k,i,n,())=if k=1 then v.set i.toNat (I8 n) else if k=2 then v.set i.toNat (I8 (b0y (v.getD i.toNat 0)+I8 n)) else if k=3 then v.set i.toNat (max (v.getD i.toNat 0) (I8 n)) else if k=4 then v.set i.toNat (v.getD n.toNat 0) else v:=rfl
  have hg:∀ x:Int,q9 .i64 (b0y x+I8 n):=fun x=>by have:=c3q n; exact j9.2 (by unfold b0y; omega)
  have fin:∀ y:List Int,y=b0h v (k,i,n,())→((y,()):List Int×Unit)=(b0h v (k,i,n,()),()):=fun y e=>by rw [e]
  simp only [j8,Tree.holds,true_and,true_implies,decide_eq_true_eq,decide_eq_false_iff_not,Bool.not_eq_true',Bool.not_eq_false',Int.toNat_natCast,j9,List.length_set,List.length_cons,List.length_nil,c5h]
  refine ⟨⟨h1,by omega⟩,fun _=>⟨fun e=>fin _ (by rw [hd,if_pos e]),fun e=>⟨fun e2=>⟨hg _,fun _=>fin _ (by rw [hd,if_neg e,if_pos e2])⟩,fun e2=>⟨fun e3=>fin _ ?_,fun e3=>⟨fun e4=>⟨by have:=h3 e4; omega,fun _=>fin _ (by rw [hd,if_neg e,if_neg e2,if_neg e3,if_pos e4])⟩,fun e4=>fin _ (by rw [hd,if_neg e,if_neg e2,if_neg e3,if_neg e4])⟩⟩⟩⟩⟩
  rw [hd,if_neg e,if_neg e2,if_pos e3]
  refine congrArg (List.set v i.toNat) ?_
  show (if v.getD i.toNat 0<I8 n then I8 n else v.getD i.toNat 0:Int)=max (v.getD i.toNat 0) (I8 n)
  rw [Int.max_def]
  split<;>split<;>omega
def kindOf (s:a2I):Int:=idxOf (fun y=>decide (s=y)) a1A+1
def a9e (l:List a2I):b5B×Int :=
  if (l.length:Int)≠3 then ((0,0,0,()),12)
  else if kindOf (l.getD 0 [])=0 then ((0,0,0,()),12)
  else if (I2 (l.getD 1 [])).2=false then ((0,0,0,()),12)
  else if (I2 (l.getD 2 [])).2=false then ((0,0,0,()),12)
  else if V6 (I2 (l.getD 1 [])).1 0 9=false then ((0,0,0,()),1)
  else if kindOf (l.getD 0 [])=4∧V6 (I2 (l.getD 2 [])).1 0 9=false then ((0,0,0,()),1)
  else ((kindOf (l.getD 0 []),(I2 (l.getD 1 [])).1,(I2 (l.getD 2 [])).1,()),0)
def N7 (s:a2I):b5B×Int:=a9e (Lib.split s E2)
def c3t:p7:={ ps:=[.v .str],rs:=[Event,e8],pre:=fun x=>List.length (α:=UInt8) x.1≤4294967280,fn:=fun x=>((N7 x.1).1,(N7 x.1).2,()),out:=fun _=>() }
theorem a82 (p:List UInt8):∀ (k:Nat) (s:List UInt8),∀ x∈Lib.splitK p 0 k s,x.length≤s.length
  | 0,s,x,hx=>by
    have hx:x∈[s]:=hx
    rw [List.mem_singleton] at hx; rw [hx]; exact Nat.le_refl _
  | k+1,s,x,hx=>by
    unfold Lib.splitK at hx
    split at hx
    · rw [List.mem_singleton] at hx; rw [hx]; exact Nat.le_refl _
    · rcases List.mem_cons.1 hx with rfl|hx
      · rw [List.length_take]; omega
      · have:=a82 p k _ x hx
        rw [List.length_drop] at this; omega
theorem b1b {s p:List UInt8} {i:Nat}:((Lib.split s p).getD i []).length≤s.length:=by
  by_cases h:i<(Lib.split s p).length
  · refine a82 p (Lib.count s p) s _ ?_
    rw [List.getD_eq_getElem?_getD,List.getElem?_eq_getElem h]
    exact List.getElem_mem h
  · rw [List.getD_eq_getElem?_getD,List.getElem?_eq_none (by omega)]; simp
theorem c4t {α:Type} {p:α→Bool}:∀ {l:List α} {i:Nat},-1≤S5 p l i∧S5 p l i≤(i+l.length:Nat)
  | [],i=>by simp only [S5]; omega
  | x::l,i=>by
    rw [S5]
    split
    · omega
    · have:=c4t (p:=p) (l:=l) (i:=i+1)
      rw [List.length_cons]; omega
theorem c1a (s:a2I):0≤kindOf s∧kindOf s≤5:=by
  have:=c4t (p:=fun y=>decide (s=y)) (l:=a1A) (i:=0)
  simp only [kindOf,idxOf]
  have e:a1A.length=4:=rfl
  rw [e] at this
  omega
noncomputable def c0k:Env:={ P:=Tryz.prog,tt:=tt,C0:=[(89,c1r),(90,b82),(91,b7g),(92,b9t)],res:=[Go.ResultVar.cell 2 126,Go.ResultVar.tmp 3],rs:=[Ty.pair e8 c4D,Ty.int IntKind.i64],ps:=[PK.v Ty.str],y6:=[],nt:=66 }
theorem b5x:u7 c0k:=x6 p9 ⟨b33,b52,b2A,b6l,trivial⟩
theorem b4W:B0 c0k Tryz.f73:=⟨rfl,rfl⟩
theorem c51 (x0:List UInt8):exec c0k 1000 [.code (d9 Tryz.prog 73)] (s6 c3t.ps ((x0,()))) =
  .f6 (List.length x0≤4294967280∧1≤List.length E2) (cond (decide ((↑(List.length (Go.Lib.split x0 E2)):Int)≠(3:Int))) (.ret ((((0:Int),(0:Int),(0:Int),()),(12:Int),()))) (.f6 ((0:Int)≤(0:Int)∧(0:Int)<(↑(List.length (Go.Lib.split x0 E2)):Int)) (.f6 (True) (.f6 (q9 IntKind.i64 (idxOf (fun y=>decide (List.getD (Go.Lib.split x0 E2) (Int.toNat (0:Int)) []=y)) a1A+(1:Int))) (.f6 ((0:Int)≤(1:Int)∧(1:Int)<(↑(List.length (Go.Lib.split x0 E2)):Int)) (.f6 (List.length (List.getD (Go.Lib.split x0 E2) (Int.toNat (1:Int)) [])≤4294967280) (.f6 ((0:Int)≤(2:Int)∧(2:Int)<(↑(List.length (Go.Lib.split x0 E2)):Int)) (.f6 (List.length (List.getD (Go.Lib.split x0 E2) (Int.toNat (2:Int)) [])≤4294967280) (cond (decide (idxOf (fun y=>decide (List.getD (Go.Lib.split x0 E2) (Int.toNat (0:Int)) []=y)) a1A+(1:Int)=(0:Int))) (.ret ((((0:Int),(0:Int),(0:Int),()),(12:Int),()))) (cond (!Prod.snd (I2 (List.getD (Go.Lib.split x0 E2) (Int.toNat (1:Int)) []))) (.ret ((((0:Int),(0:Int),(0:Int),()),(12:Int),()))) (cond (!Prod.snd (I2 (List.getD (Go.Lib.split x0 E2) (Int.toNat (2:Int)) []))) (.ret ((((0:Int),(0:Int),(0:Int),()),(12:Int),()))) (.f6 (True) (cond (!V6 (Prod.fst (I2 (List.getD (Go.Lib.split x0 E2) (Int.toNat (1:Int)) []))) (0:Int) (9:Int)) (.ret ((((0:Int),(0:Int),(0:Int),()),(1:Int),()))) (cond (decide (idxOf (fun y=>decide (List.getD (Go.Lib.split x0 E2) (Int.toNat (0:Int)) []=y)) a1A+(1:Int)=(4:Int))) (.f6 (True) (cond (!V6 (Prod.fst (I2 (List.getD (Go.Lib.split x0 E2) (Int.toNat (2:Int)) []))) (0:Int) (9:Int)) (.ret ((((0:Int),(0:Int),(0:Int),()),(1:Int),()))) (.ret (((idxOf (fun y=>decide (List.getD (Go.Lib.split x0 E2) (Int.toNat (0:Int)) []=y)) a1A+(1:Int),Prod.fst (I2 (List.getD (Go.Lib.split x0 E2) (Int.toNat (1:Int)) [])),Prod.fst (I2 (List.getD (Go.Lib.split x0 E2) (Int.toNat (2:Int)) [])),()),(0:Int),()))))) (.ret (((idxOf (fun y=>decide (List.getD (Go.Lib.split x0 E2) (Int.toNat (0:Int)) []=y)) a1A+(1:Int),Prod.fst (I2 (List.getD (Go.Lib.split x0 E2) (Int.toNat (1:Int)) [])),Prod.fst (I2 (List.getD (Go.Lib.split x0 E2) (Int.toNat (2:Int)) [])),()),(0:Int),()))))))))))))))))):=by kernel_rfl
theorem b9r:c3t.Valid Tryz.prog 73:=by
  refine p7.o6 b5x rfl rfl Tryz.func73 (c:=d9 Tryz.prog 73) rfl rfl b4W rfl ?_
  rintro ⟨(s:List UInt8),⟨⟩⟩ (hp:s.length≤4294967280) -
  refine j5 (n:=1000) b5x b4W ?_
  refine g9 (c51 s) ?_
  have hd:N7 s=a9e (Lib.split s E2):=rfl
  have e1:((Lib.split s E2).getD 1 []).length≤4294967280:=Nat.le_trans b1b hp
  have e2:((Lib.split s E2).getD 2 []).length≤4294967280:=Nat.le_trans b1b hp
  have hk:=c1a ((Lib.split s E2).getD 0 [])
  have hk2:idxOf (fun y=>decide ((Lib.split s E2).getD 0 []=y)) a1A+1=kindOf ((Lib.split s E2).getD 0 []):=rfl
  generalize hl:Lib.split s E2=l at *
  have hin:q9 .i64 (kindOf (l.getD 0 [])):=j9.2 (by omega)
  have fin:∀ {y:b5B×Int},a9e l=y→((y.1,y.2,()):b5B×Int×Unit)=((N7 s).1,(N7 s).2,()):=fun e=>by rw [hd,e]
  have hr:a9e l=if (l.length:Int)≠3 then ((0,0,0,()),12) else if kindOf (l.getD 0 [])=0 then ((0,0,0,()),12) else if (I2 (l.getD 1 [])).2=false then ((0,0,0,()),12) else if (I2 (l.getD 2 [])).2=false then ((0,0,0,()),12) else if V6 (I2 (l.getD 1 [])).1 0 9=false then ((0,0,0,()),1) else if kindOf (l.getD 0 [])=4∧V6 (I2 (l.getD 2 [])).1 0 9=false then ((0,0,0,()),1) else ((kindOf (l.getD 0 []),(I2 (l.getD 1 [])).1,(I2 (l.getD 2 [])).1,()),0):=rfl
  simp only [j8,Tree.holds,true_and,true_implies,decide_eq_true_eq,decide_eq_false_iff_not,Bool.not_eq_true',Bool.not_eq_false',Int.toNat_natCast,j9,List.length_set,List.length_cons,List.length_nil,Int.reduceToNat,hk2]
  refine ⟨⟨hp,by decide⟩,fun _=>⟨fun h3=>?_,fun h3=>?_⟩⟩
  · exact fin (by rw [hr,if_pos h3])
  · rw [if_neg h3] at hr
    have h3:(l.length:Int)=3:=by omega
    refine ⟨by omega,fun _=>⟨hin,fun _=>⟨by omega,fun _=>⟨e1,fun _=>⟨by omega,fun _=>⟨e2,fun _=>⟨fun g1=>?_,fun g1=>?_⟩⟩⟩⟩⟩⟩⟩
    · exact fin (by rw [hr,if_pos g1])
    rw [if_neg g1] at hr
    refine ⟨fun g2=>?_,fun g2=>?_⟩
    · exact fin (by rw [hr,if_pos (by simpa using g2)])
    rw [if_neg (by simpa using g2)] at hr
    refine ⟨fun g3=>?_,fun g3=>?_⟩
    · exact fin (by rw [hr,if_pos (by simpa using g3)])
    rw [if_neg (by simpa using g3)] at hr
    refine ⟨fun g4=>?_,fun g4=>?_⟩
    · exact fin (by rw [hr,if_pos (by simpa using g4)])
    rw [if_neg (by simpa using g4)] at hr
    refine ⟨fun g5=>⟨fun g6=>?_,fun g6=>?_⟩,fun g5=>?_⟩
    · exact fin (by rw [hr,if_pos ⟨g5,by simpa using g6⟩])
    · exact fin (by rw [hr,if_neg (fun h=>by rw [h.2] at g6; cases g6)])
    · exact fin (by rw [hr,if_neg (fun h=>g5 h.1)])
theorem c6x {s:a2I} (h:(N7 s).2=0):(0≤(N7 s).1.2.1∧(N7 s).1.2.1<10)∧((N7 s).1.1=4→0≤(N7 s).1.2.2.1∧(N7 s).1.2.2.1<10)∧1≤(N7 s).1.1:=by
  unfold N7 a9e at h ⊢
  split at h
  · cases h
  rename_i h1
  rw [if_neg h1]
  split at h
  · cases h
  rename_i h2
  rw [if_neg h2]
  split at h
  · cases h
  rename_i h3
  rw [if_neg h3]
  split at h
  · cases h
  rename_i h4
  rw [if_neg h4]
  split at h
  · cases h
  rename_i h5
  rw [if_neg h5]
  split at h
  · cases h
  rename_i h6
  rw [if_neg h6]
  have h5:V6 (I2 ((Lib.split s E2).getD 1 [])).1 0 9=true:=by
    cases e:V6 (I2 ((Lib.split s E2).getD 1 [])).1 0 9 with
    | true=>rfl
    | false=>exact absurd e h5
  have h5:=Y5.1 h5
  refine ⟨⟨h5.1,Int.lt_of_le_of_lt h5.2 (by decide)⟩,fun h7=>?_,?_⟩
  · have h8:V6 (I2 ((Lib.split s E2).getD 2 [])).1 0 9=true:=by
      cases e:V6 (I2 ((Lib.split s E2).getD 2 [])).1 0 9 with
      | true=>rfl
      | false=>exact absurd ⟨h7,e⟩ h6
    have h8:=Y5.1 h8
    exact ⟨h8.1,Int.lt_of_le_of_lt h8.2 (by decide)⟩
  · have:=(c1a ((Lib.split s E2).getD 0 [])).1
    show 1≤kindOf _
    omega
def a3F (a:List Int×Int) (s:a2I):List Int×Int:=if (N7 s).2=0 then (b0h a.1 (N7 s).1,a.2) else (a.1,a.2+1)
def U3 (v:List Int) (l:List a2I):List Int×Int:=l.foldl a3F (v,0)
def c3x:p7:={ ps:=[.v a0L,.v (.d0 false .str)],rs:=[a0L,e8],pre:=fun x=>∀ s∈(show List a2I from x.2.1),s.length≤4294967280,fn:=fun x=>((U3 x.1 x.2.1).1,(U3 x.1 x.2.1).2,()),out:=fun _=>() }
noncomputable def c0n:Env:={ P:=Tryz.prog,tt:=tt,C0:=[(73,c3t),(74,c3m)],res:=[Go.ResultVar.cell 4 60,Go.ResultVar.tmp 5],rs:=[Ty.arr 10 e8,Ty.int IntKind.i64],ps:=[PK.v a0L,PK.v (Ty.d0 false Ty.str)],y6:=[(3,[(2,none),(4,none),(6,none),(11,none),(12,none),(13,none)])],nt:=31 }
theorem b02:u7 c0n:=x6 p9 ⟨b9r,b85,trivial⟩
theorem b0U:B0 c0n Tryz.f57:=⟨rfl,rfl⟩
theorem c64 (x0:List Int) (x1:List (List UInt8)):exec c0n 1000 [.code (d9 Tryz.prog 57)] (s6 c3x.ps ((x0,x1,()))) =
  .ctL (f9 (d9 Tryz.prog 57) 3) (St.mk [(2,AV.ptr 2 []),(4,AV.ptr 4 []),(6,AV.val e8 (0:Int)),(11,AV.val (Ty.d0 false Ty.str) x1),(12,AV.val e8 (↑(List.length x1):Int)),(13,AV.val e8 (0:Int))] [(2,g8.var a0L x0),(4,g8.var a0L [(0:Int),(0:Int),(0:Int),(0:Int),(0:Int),(0:Int),(0:Int),(0:Int),(0:Int),(0:Int)])]):=by kernel_rfl
def b7M (v6:Int) (v11:List (List UInt8)) (v12:Int) (v13:Int) (o2:List Int) (o4:List Int):St:=St.mk [(2,AV.ptr 2 []),(4,AV.ptr 4 []),(6,AV.val e8 v6),(11,AV.val (Ty.d0 false Ty.str) v11),(12,AV.val e8 v12),(13,AV.val e8 v13)] [(2,g8.var a0L o2),(4,g8.var a0L o4)]
theorem c56 (v6:Int) (v11:List (List UInt8)) (v12:Int) (v13:Int) (o2:List Int) (o4:List Int):exec c0n 1000 (.code (f9 (d9 Tryz.prog 57) 3).1::.inLoop (f9 (d9 Tryz.prog 57) 3).1::(f9 (d9 Tryz.prog 57) 3).2) (b7M v6 v11 v12 v13 o2 o4) =
  cond (decide (v13<v12)) (.f6 ((0:Int)≤v13∧v13<(↑(List.length v11):Int)) (.f6 (List.length (List.getD v11 (Int.toNat v13) [])≤4294967280) (cond (decide (Prod.snd (N7 (List.getD v11 (Int.toNat v13) []))≠(0:Int))) (.f6 (q9 IntKind.i64 (v6+(1:Int))) (.f6 (q9 IntKind.i64 (v13+(1:Int))) (.ctL (f9 (d9 Tryz.prog 57) 3) (St.mk [(2,AV.ptr 2 []),(4,AV.ptr 4 []),(6,AV.val e8 (v6+(1:Int))),(11,AV.val (Ty.d0 false Ty.str) v11),(12,AV.val e8 v12),(13,AV.val e8 (v13+(1:Int)))] [(2,g8.var a0L o2),(4,g8.var a0L o4)])))) (.f6 (((0:Int)≤Prod.fst (Prod.snd (Prod.fst (N7 (List.getD v11 (Int.toNat v13) []))))∧Prod.fst (Prod.snd (Prod.fst (N7 (List.getD v11 (Int.toNat v13) []))))<(10:Int))∧(Prod.fst (Prod.fst (N7 (List.getD v11 (Int.toNat v13) [])))=(4:Int)→(0:Int)≤Prod.fst (Prod.snd (Prod.snd (Prod.fst (N7 (List.getD v11 (Int.toNat v13) [])))))∧Prod.fst (Prod.snd (Prod.snd (Prod.fst (N7 (List.getD v11 (Int.toNat v13) [])))))<(10:Int))) (.f6 (q9 IntKind.i64 (v13+(1:Int))) (.ctL (f9 (d9 Tryz.prog 57) 3) (St.mk [(2,AV.ptr 2 []),(4,AV.ptr 4 []),(6,AV.val e8 v6),(11,AV.val (Ty.d0 false Ty.str) v11),(12,AV.val e8 v12),(13,AV.val e8 (v13+(1:Int)))] [(2,g8.var a0L (b0h o2 (Prod.fst (N7 (List.getD v11 (Int.toNat v13) []))))),(4,g8.var a0L o4)]))))))) (.ret ((o2,v6,()))):=by kernel_rfl
theorem b8c {l:List a2I}:∀ {a:List Int×Int},a.2≤(l.foldl a3F a).2∧(l.foldl a3F a).2≤a.2+l.length:=by
  induction l with
  | nil=>intro a; simp
  | cons s l ih =>
    intro a
    have:=ih (a:=a3F a s)
    rw [List.foldl_cons,List.length_cons]
    unfold a3F at this ⊢
    split at this
    · rename_i h; rw [if_pos h]; have:=this; simp only at this; omega
    · rename_i h; rw [if_neg h]; have:=this; simp only at this; omega
theorem c0D {v:List Int} {l:List a2I} {k:Nat} (hk:k<l.length):U3 v (l.take (k+1))=a3F (U3 v (l.take k)) (l.getD k []):=by
  unfold U3
  rw [List.take_add_one,List.foldl_append,List.getElem?_eq_getElem hk,List.getD_eq_getElem?_getD,List.getElem?_eq_getElem hk]
  rfl
theorem b9z:c3x.Valid Tryz.prog 57:=by
  refine p7.o6 b02 rfl rfl Tryz.func57 (c:=d9 Tryz.prog 57) rfl rfl b0U rfl ?_
  rintro ⟨(v:List Int),(l:List a2I),⟨⟩⟩ (hp:∀ s∈l,s.length≤4294967280) ⟨-,hr,-⟩
  have hlen:l.length≤9223372036854775807:=hr.1
  refine j5 (n:=1000) b02 b0U ?_
  refine g9 (c64 v l) ?_
  refine Reach.N3 b02 b0U (fun k:Nat=>b7M (U3 v (l.take k)).2 l (l.length:Int) (k:Int) (U3 v (l.take k)).1 (List.replicate 10 0)) (fun k=>k≤l.length) (fun k=>l.length - k) 1000 (fun _=>⟨u3 rfl,u3 rfl⟩) ?_ 0 (by omega)
  rintro k hk - ih
  have hk:k≤l.length:=hk
  refine g9 (c56 ..) ?_
  have hb:=b8c (l:=l.take k) (a:=(v,0))
  have hb:0≤(U3 v (l.take k)).2∧(U3 v (l.take k)).2≤k:=by
    have e:(U3 v (l.take k)).2=((l.take k).foldl a3F (v,0)).2:=rfl
    rw [e]; rw [List.length_take] at hb
    simp only at hb; omega
  simp only [j8,Tree.holds,true_and,true_implies,decide_eq_true_eq,decide_eq_false_iff_not,Bool.not_eq_true',Bool.not_eq_false',Int.toNat_natCast,j9,List.length_set,List.length_cons,List.length_nil]
  refine ⟨fun c=>⟨by omega,fun _=>?_⟩,fun c=>?_⟩
  · have hkl:k<l.length:=by omega
    have hm:l.getD k []∈l:=by rw [List.getD_eq_getElem?_getD,List.getElem?_eq_getElem hkl]; exact List.getElem_mem hkl
    have ht:=c0D (v:=v) hkl
    have nx:=ih (k+1) (by omega) (by omega)
    rw [ht] at nx
    unfold a3F at nx
    refine ⟨hp _ hm,fun _=>⟨fun e=>⟨by omega,fun _=>⟨by omega,fun _=>?_⟩⟩,fun e=>?_⟩⟩
    · rw [if_neg e] at nx
      exact nx
    · have e:(N7 (l.getD k [])).2=0:=by omega
      obtain ⟨r1,r2,-⟩:=c6x e
      rw [if_pos e] at nx
      exact ⟨⟨r1,r2⟩,fun _=>⟨by omega,fun _=>nx⟩⟩
  · have:k=l.length:=by omega
    subst this
    rw [List.take_length]; rfl
def zeroV:List Int:=[0,0,0,0,0,0,0,0,0,0]
def Y0 (l:List B9):List (List UInt8):=l.map (fun s=>s.2.1)
def a04 (w:f8) (p:Int):List Int×Int×Unit:=if known w p≠0 then (zeroV,known w p,()) else ((U3 zeroV (Y0 (a0O w p))).1,0,())
def b2M:p7:={ ps:=[.rd J0,.v e8],rs:=[a0L,e8],pre:=fun x=>List.length (α:=o8) (x.1:f8).2.1≤6∧List.length (α:=B9) (a0O x.1 x.2.1)≤5864062014805∧∀ s∈a0O x.1 x.2.1,s.2.1.length≤4294967280,fn:=fun x=>a04 x.1 x.2.1,out:=fun _=>() }
noncomputable def a61:Env:={ P:=Tryz.prog,tt:=tt,C0:=[(19,c3p),(57,c3x)],res:=[Go.ResultVar.cell 4 60,Go.ResultVar.tmp 5],rs:=[Ty.arr 10 e8,Ty.int IntKind.i64],ps:=[PK.rd J0,PK.v e8],y6:=[(6,[(4,none),(8,some (Ty.d0 true Ty.str)),(23,some (Ty.d0 true u5)),(24,none),(25,none)])],nt:=42 }
theorem a60:u7 a61:=x6 p9 ⟨b9h,b9z,trivial⟩
theorem a6W:B0 a61 Tryz.f30:=⟨rfl,rfl⟩
theorem c3Z (x0_1_1:Int) (x0_1_2_1:Int) (x0_2_1:List o8) (x0_2_2_1:List (List UInt8)) (x0_2_2_2_1:List (List UInt8)) (x1:Int):exec a61 1000 [.code (d9 Tryz.prog 30)] (s6 b2M.ps ((((x0_1_1,x0_1_2_1,()),x0_2_1,x0_2_2_1,x0_2_2_2_1,()),x1,()))) =
  .f6 (List.length x0_2_1≤6∧List.length (a0O ((x0_1_1,x0_1_2_1,()),x0_2_1,x0_2_2_1,x0_2_2_2_1,()) x1)≤5864062014805) (cond (decide (Prod.fst (Prod.snd (a1x ((x0_1_1,x0_1_2_1,()),x0_2_1,x0_2_2_1,x0_2_2_2_1,()) x1))≠(0:Int))) (.ret (([(0:Int),(0:Int),(0:Int),(0:Int),(0:Int),(0:Int),(0:Int),(0:Int),(0:Int),(0:Int)],Prod.fst (Prod.snd (a1x ((x0_1_1,x0_1_2_1,()),x0_2_1,x0_2_2_1,x0_2_2_2_1,()) x1)),()))) (.ctL (f9 (d9 Tryz.prog 30) 6) (St.mk [(4,AV.ptr 4 []),(8,AV.at_ 1000008 []),(23,AV.at_ 1000023 []),(24,AV.val e8 (↑(List.length (Prod.fst (a1x ((x0_1_1,x0_1_2_1,()),x0_2_1,x0_2_2_1,x0_2_2_2_1,()) x1))):Int)),(25,AV.val e8 (0:Int))] [(4,g8.var a0L [(0:Int),(0:Int),(0:Int),(0:Int),(0:Int),(0:Int),(0:Int),(0:Int),(0:Int),(0:Int)]),(1000008,g8.own (Ty.d0 true Ty.str) []),(1000023,g8.own (Ty.d0 true u5) (Prod.fst (a1x ((x0_1_1,x0_1_2_1,()),x0_2_1,x0_2_2_1,x0_2_2_2_1,()) x1)))]))):=by kernel_rfl
def a6Z (v24:Int) (v25:Int) (o4:List Int) (oy008:List (List UInt8)) (oy023:List (Int×List UInt8×Unit)):St:=St.mk [(4,AV.ptr 4 []),(8,AV.at_ 1000008 []),(23,AV.at_ 1000023 []),(24,AV.val e8 v24),(25,AV.val e8 v25)] [(4,g8.var a0L o4),(1000008,g8.own (Ty.d0 true Ty.str) oy008),(1000023,g8.own (Ty.d0 true u5) oy023)]
theorem c2d (v24:Int) (v25:Int) (o4:List Int) (oy008:List (List UInt8)) (oy023:List (Int×List UInt8×Unit)):exec a61 1000 (.code (f9 (d9 Tryz.prog 30) 6).1::.inLoop (f9 (d9 Tryz.prog 30) 6).1::(f9 (d9 Tryz.prog 30) 6).2) (a6Z v24 v25 o4 oy008 oy023) =
  cond (decide (v25<v24)) (.f6 ((0:Int)≤v25∧v25<(↑(List.length oy023):Int)) (.f6 (List.length oy008+List.length (List.set [[]] (Int.toNat (↑0:Int)) (Prod.fst (Prod.snd (List.getD oy023 (Int.toNat v25) ((0:Int),[],())))))≤140737488355328∧(List.length oy008+List.length (List.set [[]] (Int.toNat (↑0:Int)) (Prod.fst (Prod.snd (List.getD oy023 (Int.toNat v25) ((0:Int),[],()))))))*Ty.wb Ty.str≤140737488355328) (.f6 (q9 IntKind.i64 (v25+(1:Int))) (.ctL (f9 (d9 Tryz.prog 30) 6) (St.mk [(4,AV.ptr 4 []),(8,AV.at_ 1000008 []),(23,AV.at_ 1000023 []),(24,AV.val e8 v24),(25,AV.val e8 (v25+(1:Int)))] [(4,g8.var a0L o4),(1000008,g8.own (Ty.d0 true Ty.str) (oy008++List.set [[]] (Int.toNat (↑0:Int)) (Prod.fst (Prod.snd (List.getD oy023 (Int.toNat v25) ((0:Int),[],())))))),(1000023,g8.own (Ty.d0 true u5) oy023)]))))) (.f6 (∀ (s:a2I),s∈oy008→List.length s≤4294967280) (.ret ((Prod.fst (U3 [(0:Int),(0:Int),(0:Int),(0:Int),(0:Int),(0:Int),(0:Int),(0:Int),(0:Int),(0:Int)] oy008),(0:Int),())))):=by kernel_rfl
theorem c5a {w:f8} {p:Int} (h:¬ (a1x w p).2.1≠0):(a1x w p).1=a0O w p∧¬ known w p≠0:=by
  unfold a1x at h ⊢
  split at h
  · rename_i h1; exact absurd h1 h
  · rename_i h1; rw [if_neg h1]; exact ⟨rfl,h1⟩
theorem b62 {w:f8} {p:Int} (h:(a1x w p).2.1≠0):known w p≠0∧(a1x w p).2.1=known w p:=by
  unfold a1x at h ⊢
  split at h
  · rename_i h1; rw [if_pos h1]; exact ⟨h1,rfl⟩
  · rename_i h1; exact absurd rfl h
attribute [local irreducible] a1x U3 a04 in
theorem b51:b2M.Valid Tryz.prog 30:=by
  refine p7.o6 a60 rfl rfl Tryz.func30 (c:=d9 Tryz.prog 30) rfl rfl a6W rfl ?_
  rintro ⟨⟨⟨(v0:Int),(v1:Int),⟨⟩⟩,(al:List o8),(od:List (List UInt8)),(wy:List (List UInt8)),⟨⟩⟩,(p:Int),⟨⟩⟩ ⟨(hp:al.length≤6),(hl:(a0O ((v0,v1,()),al,od,wy,()) p).length≤5864062014805),(ht:∀ s∈a0O ((v0,v1,()),al,od,wy,()) p,s.2.1.length≤4294967280)⟩ -
  refine j5 (n:=1000) a60 a6W ?_
  refine g9 (c3Z v0 v1 al od wy p) ?_
  simp only [j8,Tree.holds,true_and,true_implies,decide_eq_true_eq,decide_eq_false_iff_not,Bool.not_eq_true',Bool.not_eq_false',Int.toNat_natCast,j9,List.length_set,List.length_cons,List.length_nil]
  have key:∀ r:List Int×Int×Unit,a04 ((v0,v1,()),al,od,wy,()) p=r→r=a04 ((v0,v1,()),al,od,wy,()) p:=by rintro r rfl; rfl
  have e1:=fun a=>(a04.eq_1 ((v0,v1,()),al,od,wy,()) p).trans (if_pos a)
  have e2:=fun a=>(a04.eq_1 ((v0,v1,()),al,od,wy,()) p).trans (if_neg a)
  refine ⟨⟨hp,hl⟩,fun _=>⟨fun a=>key _ ?_,fun a=>?_⟩⟩
  · rw [e1 (b62 a).1,(b62 a).2]; rfl
  obtain ⟨g1,g2⟩:=c5a a
  rw [g1]
  have e3:=e2 g2
  obtain ⟨l,hll⟩:∃ l,l=a0O ((v0,v1,()),al,od,wy,()) p:=⟨_,rfl⟩
  rw [← hll] at hl ht e3 ⊢
  have key2:b2M.fn (((v0,v1,()),al,od,wy,()),p,())=((U3 zeroV (Y0 l)).1,0,()):=e3
  suffices go:Go.Ex.Reach a61 Tryz.f30 ((U3 zeroV (Y0 l)).1,(0:Int),()) () (.code (f9 (d9 Tryz.prog 30) 6).1::.inLoop (f9 (d9 Tryz.prog 30) 6).1::(f9 (d9 Tryz.prog 30) 6).2) (a6Z (l.length:Int) ((0:Nat):Int) zeroV (Y0 (l.take 0)) l) by
    rw [e3]; exact go
  refine Reach.N3 a60 a6W (fun i:Nat=>a6Z (l.length:Int) (i:Int) zeroV (Y0 (l.take i)) l) (fun i=>i≤l.length) (fun i=>l.length - i) 1000 (fun _=>⟨u3 rfl,u3 rfl⟩) ?_ 0 (Nat.zero_le _)
  rintro i k1 - ih
  have k1:i≤l.length:=k1
  refine g9 (c2d ..) ?_
  have e4:((i:Nat):Int)+1=((i+1:Nat):Int):=by omega
  have hwb:Ty.wb .str=16:=rfl
  have hlen:(Y0 (l.take i)).length=i:=by unfold Y0; rw [List.length_map,List.length_take]; omega
  simp only [j8,Tree.holds,true_and,true_implies,decide_eq_true_eq,decide_eq_false_iff_not,Bool.not_eq_true',Bool.not_eq_false',Int.toNat_natCast,j9,List.length_set,List.length_cons,List.length_nil,e4,hlen,hwb]
  refine ⟨fun c=>⟨by omega,fun _=>⟨by omega,fun _=>⟨j9.2 ⟨by omega,by omega⟩,fun _=>?_⟩⟩⟩,fun c=>⟨?_,fun _=>?_⟩⟩
  · have:=ih (i+1) (by show i+1≤l.length; omega) (by show l.length - (i+1)<l.length - i; omega)
    rw [show Y0 (l.take (i+1))=Y0 (l.take i)++[(l.getD i (0,[],())).2.1] by
      unfold Y0
      rw [a2O (show i<l.length by omega) (0,[],()),List.map_append]; rfl] at this
    exact this
  · intro s hs
    unfold Y0 at hs
    obtain ⟨y,hy,rfl⟩:=List.mem_map.1 hs
    exact ht y (List.mem_of_mem_take hy)
  · obtain rfl:i=l.length:=by omega
    rw [List.take_length]; rfl
end Go.Proofs.YtijlnmgondibnaaGreatDoor
namespace Go.Proofs.YtijlnmgondibnaaGreatDoor
open Go.Ex
set_option maxRecDepth 100000
structure Sz (c:Nat) (w:f8):Prop where
  log:∀ i:Nat,(w.2.1.getD i i8).2.1.length≤c
  ord:w.2.2.1.length≤c
  txt:∀ i:Nat,∀ s∈(w.2.1.getD i i8).2.1,s.2.1.length≤200
  late:∀ i:Nat,(w.2.1.getD i i8).2.2.1.2.1.length≤16
theorem Sz.mono {c d:Nat} {w:f8} (h:Sz c w) (hd:c≤d):Sz d w:=⟨fun i=>Nat.le_trans (h.log i) hd,Nat.le_trans h.ord hd,h.txt,h.late⟩
structure J3 (k:Nat) (w w':f8):Prop where
  view:w'.1=w.1
  len:w'.2.1.length=w.2.1.length
  log:∀ i:Nat,(w.2.1.getD i i8).2.1 <+: (w'.2.1.getD i i8).2.1
  fal:∀ i:Nat,(w'.2.1.getD i i8).1=(w.2.1.getD i i8).1
  sz:∀ c,Sz c w→Sz (c+k) w'
theorem J3.same {w w':f8} (h1:w'.1=w.1) (h2:w'.2.1=w.2.1) (h3:w'.2.2.1=w.2.2.1):J3 0 w w' :=
  ⟨h1,by rw [h2],fun i=>by rw [h2]; exact List.prefix_rfl,fun i=>by rw [h2],fun c h=>⟨by rw [h2]; exact h.log,by rw [h3]; exact h.ord,by rw [h2]; exact h.txt,by rw [h2]; exact h.late⟩⟩
theorem J3.more {k l:Nat} {w w':f8} (h:J3 k w w') (hl:k≤l):J3 l w w':=⟨h.view,h.len,h.log,h.fal,fun c hc=>(h.sz c hc).mono (by omega)⟩
theorem J3.trans {k l:Nat} {w w' w'':f8} (h:J3 k w w') (h':J3 l w' w''):J3 (k+l) w w'' :=
  ⟨h'.view.trans h.view,h'.len.trans h.len,fun i=>(h.log i).trans (h'.log i),fun i=>(h'.fal i).trans (h.fal i),fun c hc=>by rw [← Nat.add_assoc]; exact h'.sz _ (h.sz c hc)⟩
theorem T7.b8w {P:y4→Prop} {w w':f8} (h:T7 P w w'):J3 0 w w':=.same h.view h.all h.ord
theorem J3.set {k:Nat} {w:f8} {p:Nat} {x:o8} (h1:(w.2.1.getD p i8).2.1 <+: x.2.1) (h2:x.1=(w.2.1.getD p i8).1) (h3:x.2.1.length≤(w.2.1.getD p i8).2.1.length+k)
    (h4:(∀ s∈(w.2.1.getD p i8).2.1,s.2.1.length≤200)→∀ s∈x.2.1,s.2.1.length≤200) (h5:(w.2.1.getD p i8).2.2.1.2.1.length≤16→x.2.2.1.2.1.length≤16):J3 k w (w.1,w.2.1.set p x,w.2.2):=by
  have hg:∀ i,(w.2.1.set p x).getD i i8=x∧p=i∨(w.2.1.set p x).getD i i8=w.2.1.getD i i8:=fun i=>by
    rw [U2]
    split
    · rename_i e; exact .inl ⟨rfl,e.1⟩
    · exact .inr rfl
  refine ⟨rfl,List.length_set ..,fun i=>?_,fun i=>?_,fun c hc=>⟨fun i=>?_,Nat.le_trans hc.ord (Nat.le_add_right _ _),fun i=>?_,fun i=>?_⟩⟩
  · rcases hg i with ⟨e,rfl⟩|e
    · show _ <+: ((w.2.1.set p x).getD p i8).2.1; rw [e]; exact h1
    · show _ <+: ((w.2.1.set p x).getD i i8).2.1; rw [e]; exact List.prefix_rfl
  · rcases hg i with ⟨e,rfl⟩|e
    · show ((w.2.1.set p x).getD p i8).1=_; rw [e]; exact h2
    · show ((w.2.1.set p x).getD i i8).1=_; rw [e]
  · rcases hg i with ⟨e,rfl⟩|e
    · show ((w.2.1.set p x).getD p i8).2.1.length≤_; rw [e]; have:=hc.log p; omega
    · show ((w.2.1.set p x).getD i i8).2.1.length≤_; rw [e]; have:=hc.log i; omega
  · rcases hg i with ⟨e,rfl⟩|e
    · show ∀ s∈((w.2.1.set p x).getD p i8).2.1,_; rw [e]; exact h4 (hc.txt p)
    · show ∀ s∈((w.2.1.set p x).getD i i8).2.1,_; rw [e]; exact hc.txt i
  · rcases hg i with ⟨e,rfl⟩|e
    · show ((w.2.1.set p x).getD p i8).2.2.1.2.1.length≤_; rw [e]; exact h5 (hc.late p)
    · show ((w.2.1.set p x).getD i i8).2.2.1.2.1.length≤_; rw [e]; exact hc.late i
theorem b1K {w:f8} {k f t q:Int} {x:C5}:J3 0 w (K9 w k f t q x):=by
  obtain ⟨h1,h2,h3⟩:=a3I (w:=w) (k:=k) (f:=f) (t:=t) (s:=q) (x:=x)
  exact .same h2 h1 h3
theorem c0L (w:f8) (p:Int) (t:C5):J3 0 w (Y1 w p t).1:=by
  rw [Y1]
  split
  · exact .same rfl rfl rfl
  split
  · exact .same rfl rfl rfl
  split
  · exact .same rfl rfl rfl
  split
  · exact .same rfl rfl rfl
  · rename_i hl
    obtain ⟨g1,g2,g3⟩:=b61 hl
    have hok:=a1c g2
    refine J3.trans (w':=setFrom w p (M5 (Y7 w p) t).1) (k:=0) ?_ b1K
    refine J3.set (k:=0) List.prefix_rfl rfl (Nat.le_refl _) id (fun _=>?_)
    rw [g1]; exact hok.2.1
theorem b6w (w:f8) (p:Int):J3 0 w (a9Y w p).1:=by
  rw [a9Y]
  split
  · exact .same rfl rfl rfl
  · obtain ⟨h1,h2,h3⟩:=a87 (p:=p) (l:=a3u w p) (w:=w) (a3u w p).length
    exact (J3.same h2 h1 h3).trans b1K
theorem b5M (w:f8) (n:y4):J3 16 w (U6 w n):=by
  rw [U6]
  split
  · exact (J3.same rfl rfl rfl).more (by omega)
  · rename_i he
    obtain ⟨-,-,a3,-⟩:=a0G (Decidable.not_not.1 he)
    have h0:J3 0 w (a1k w n.2.1 (a2o (K6 w n.2.1) (W0 w n).1)):=J3.set List.prefix_rfl rfl (Nat.le_refl _) id id
    obtain ⟨h1,h2,h3⟩:=a5W (f:=n.2.1) (first:=(K6 w n.2.1).2.2.2.2.1.1) (l:=(W0 w n).2.1) (w:=a1k w n.2.1 (a2o (K6 w n.2.1) (W0 w n).1)) (W0 w n).2.1.length
    refine (h0.trans (l:=16) ⟨h2,by rw [h1],fun i=>by rw [h1]; exact List.prefix_rfl,fun i=>by rw [h1],fun c hc=>⟨fun i=>?_,?_,by rw [h1]; exact hc.txt,by rw [h1]; exact hc.late⟩⟩).more (by omega)
    · rw [h1]; have:=hc.log i; omega
    · rw [h3]
      have:=hc.ord
      have a3:(W0 w n).2.1.length≤16:=a3
      omega
theorem b5R {s:a0U} {x:Int} (h:(N1 s x).2.1=0):(N1 s x).1.2.1.length≤s.2.1.length:=by
  unfold N1 at h ⊢
  split
  · rename_i h1; rw [if_pos h1] at h; exact absurd h h1
  · rename_i h1
    rw [if_neg h1] at h
    split
    · rename_i h2; rw [if_pos h2] at h; exact absurd h (by decide)
    · exact List.length_drop ..▸Nat.sub_le _ _
theorem b5V (q:Int) (x:o8) (t:C5):(a0Q q x t).1=x.1∧(x.2.2.1.2.1.length≤16→(a0Q q x t).2.2.1.2.1.length≤16):=by
  by_cases h:who t=q∧(N1 x.2.2.1 (nth t+1)).2.1=0
  · rw [a6l h.1 h.2]
    exact ⟨rfl,fun h2=>Nat.le_trans (b5R h.2) h2⟩
  · rw [a5f h]
    exact ⟨rfl,id⟩
theorem c2j (t:C5):(a3Y t).length≤t.length:=by
  unfold a3Y
  exact Nat.le_trans (a3r _).2 (a3r _).2
theorem a5L {q:Int} {x:o8} {l:List C5} (hl:∀ t∈l,D5 t=false):∀ {i},i≤l.length→x.2.1 <+: (I4 q x l i).2.1∧(I4 q x l i).1=x.1∧(x.2.2.1.2.1.length≤16→(I4 q x l i).2.2.1.2.1.length≤16) ∧
    ((∀ s∈x.2.1,s.2.1.length≤200)→∀ s∈(I4 q x l i).2.1,s.2.1.length≤200)
  | 0,_=>⟨List.prefix_rfl,rfl,id,id⟩
  | i+1,hi=>by
    obtain ⟨h1,h2,h3,h4⟩:=a5L (q:=q) (x:=x) hl (show i≤l.length by omega)
    obtain ⟨g1,g2⟩:=b5V q (I4 q x l i) (l.getD i [])
    have g3:=b1n q (I4 q x l i) (l.getD i [])
    rw [I4]
    refine ⟨h1.trans (by rw [g3]; exact List.prefix_append ..),g1.trans h2,fun h=>g2 (h3 h),fun h s hs=>?_⟩
    rw [g3] at hs
    rcases List.mem_append.1 hs with hs|hs
    · exact h4 h s hs
    · rw [List.mem_singleton] at hs
      rw [hs]
      have hm:l.getD i []∈l:=by rw [List.getD_eq_getElem?_getD,List.getElem?_eq_getElem (by omega)]; exact List.getElem_mem _
      exact Nat.le_trans (c2j _) (a6h (hl _ hm))
theorem b76 (w:f8) (n:y4):J3 16 w (Z7 w n):=by
  rw [Z7]
  split
  · exact (J3.same rfl rfl rfl).more (by omega)
  · rename_i he
    obtain ⟨a1,-,a3,-⟩:=a0G (Decidable.not_not.1 he)
    obtain ⟨h1,h2,h3,h4⟩:=a5L (q:=n.2.2.1) (x:=a86 (K6 w n.2.2.1) (M8 w n).1) (fun t ht=>(a1 t ht).2) (Nat.le_refl (M8 w n).2.1.length)
    have h5:=a38 (q:=n.2.2.1) (x:=a86 (K6 w n.2.2.1) (M8 w n).1) (l:=(M8 w n).2.1) (M8 w n).2.1.length
    refine J3.set (k:=16) h1 h2 ?_ h4 h3
    rw [h5]
    have a3:(M8 w n).2.1.length≤16:=a3
    exact Nat.add_le_add_left a3 _
theorem b2y (w:f8) (n:y4):J3 16 w (E7 w n):=by
  rw [E7]
  split
  · exact (J3.same rfl rfl rfl).more (by omega)
  split
  · exact b5M w n
  split
  · obtain ⟨h1,h2,h3⟩:=a1o (w:=w) (n:=n) 4
    exact (J3.same h2 h1 h3).more (by omega)
  split
  · exact b76 w n
  · exact (J3.same rfl rfl rfl).more (by omega)
theorem b8u (w:f8) (k how:Int):J3 16 w (I5 w k how).1:=by
  have h0:J3 16 w w:=(J3.same rfl rfl rfl).more (by omega)
  rw [I5]
  split
  · exact h0
  split
  · exact h0
  split
  · exact h0
  split
  · exact (J3.same (w:=w) (w':=b2N w k.toNat) rfl rfl rfl).more (Nat.zero_le 16)
  · refine (J3.trans (k:=0) (l:=16) (w':=a5m w k) (J3.same (w:=w) (w':=a5m w k) rfl rfl rfl) ?_).more (Nat.le_refl 16)
    show J3 16 (a5m w k) (a0Z (a5m w k) how (w.2.2.2.1.getD k.toNat []))
    rw [a0Z]
    split
    · exact b2y _ _
    · exact (J3.same rfl rfl rfl).more (by omega)
abbrev a3X:=Int×Int×Int×List UInt8×Unit
def doW (w:f8) (d:a3X):f8×Int :=
  if d.1=1 then Y1 w d.2.1 d.2.2.2.1 else if d.1=2 then a9Y w d.2.1 else if d.1=3 then I5 w d.2.1 d.2.2.1 else if d.1=4 then X9 w d.2.1 else if d.1=5 then H3 w else (w,1)
structure Ok (c:Nat) (said:Nat→List C5) (w:f8):Prop where
  mem:0≤w.1.2.1∧w.1.2.1≤255
  sz:Sz c w
  inv:∃ B S Q,Inv said B S Q w
structure Good (w:f8):Prop where
  move:a7s w
  change:a0M w
theorem Ok.R4 {c:Nat} {said:Nat→List C5} {w:f8} (h:Ok c said w):w.2.1.length≤6:=by
  obtain ⟨B,S,Q,hI⟩:=h.inv
  exact hI.R4
theorem Inv.note {said:Nat→List C5} {B:List B9} {S:Nat→List C5} {Q:List S8} {w:f8} (h:Inv said B S Q w) {s:C5} (hs:s∈w.2.2.2.1) (h1:(s9 s).2.1=0) (h2:(s9 s).1.2.2.2.1=w.1.1) (h3:r8 w (s9 s).1.2.2.1=true) {c:Nat} (hc:Sz c w) (hc1:c≤1000000000000):a0o w (s9 s).1:=by
  obtain ⟨p,hp,hpl,hv,-⟩:=a1L.1 h3
  obtain ⟨⟨m,hM⟩,-⟩:=h.mem p hpl hv
  have hm:=(h.msg s hs h1).2 h2
  refine ⟨h.R4,by omega,b3n h1,?_,Nat.le_trans hc.ord hc1,fun hk t ht=>?_⟩
  · rw [hp]; exact Nat.le_trans (hc.log p) hc1
  · have hp':K6 w (s9 s).1.2.2.1=w.2.1.getD p i8:=by rw [hp]; rfl
    unfold M8 at ht
    rw [hp'] at ht
    have hin:∃ i:Nat,(I1 Q)[i]?=some t:=by
      by_cases he:(C3 (w.2.1.getD p i8).2.2.2.1 ((s9 s).1.2.2.2.2.1,(s9 s).1.2.2.2.2.2.2.1,())).2.2.1=0
      · obtain ⟨a1,-⟩:=a0G he
        rcases (a1 t ht).1 with e|⟨q,hq,e⟩
        · refine ⟨(s9 s).1.2.2.2.2.1.toNat,?_⟩
          rw [e,← h.ord]
          exact hm.2 hk
        · exact ⟨_,by rw [e]; exact hM.wait q hq⟩
      · rw [c00 he] at ht; cases ht
    obtain ⟨i,hi⟩:=hin
    rw [b1C] at hi
    cases hQ:Q[i]? with
    | none=>rw [hQ] at hi; cases hi
    | some y =>
      rw [hQ] at hi
      have e:G8 y.1 (y5 y.1 (Q.take i)).length y.2=t:=by simpa using hi
      have hy:=h.le5 y (List.mem_of_getElem? hQ)
      have h5:=((a07 (p:=y.1) (Q:=Q) (i:=i)).trans (h.b0o y.1)).length_le
      have h6:=h.short y.1
      exact ⟨y.1,_,y.2,hy,by omega,e.symm⟩
theorem Ok.b3J {c:Nat} {said:Nat→List C5} {w:f8} (h:Ok c said w) (hc:c≤1000000000000):Good w:=by
  obtain ⟨B,S,Q,hI⟩:=h.inv
  exact ⟨⟨hI.R4,hI.way,fun s hs h1 h2 h3=>hI.note hs h1 h2 h3 h.sz hc⟩,hI.R4,fun i=>Nat.le_trans (h.sz.log i) (by omega),fun i=>Nat.le_trans (h.sz.late i) (by omega)⟩
def a2p (said:Nat→List C5) (d:a3X) (e:Int):Nat→List C5:=if d.1=1∧e=0 then a4N said d.2.1.toNat (said d.2.1.toNat++[d.2.2.2.1]) else said
structure a8R (c:Nat) (said:Nat→List C5) (w:f8) (d:a3X) (w':f8) (e:Int):Prop where
  ok:Ok (c+16) (a2p said d e) w'
  len:w'.2.1.length=w.2.1.length
  log:∀ i:Nat,(w.2.1.getD i i8).2.1 <+: (w'.2.1.getD i i8).2.1
  fal:∀ i:Nat,i<w.2.1.length→(w'.2.1.getD i i8).1=((w.2.1.getD i i8).1 || decide (d.1=4∧e=0∧d.2.1=i))
  mem:∀ i:Nat,i<w.2.1.length→V8 w'.1.2.1 i=true→V8 w.1.2.1 i=true
theorem a8R.b8w {c:Nat} {said:Nat→List C5} {w w':f8} {d:a3X} {e:Int} (h:Ok c said w) (hm:J3 16 w w') (hi:∃ B S Q,Inv (a2p said d e) B S Q w') (hf:d.1≠4):a8R c said w d w' e :=
  ⟨⟨by rw [hm.view]; exact h.mem,hm.sz c h.sz,hi⟩,hm.len,hm.log,fun i _=>by rw [hm.fal i,show decide (d.1=4∧e=0∧d.2.1=i)=false from decide_eq_false (fun c=>hf c.1),Bool.or_false],fun i _ h=>by rw [hm.view] at h; exact h⟩
theorem a7w {w:f8} {p:Int} (h:¬ M7 w p≠0):r8 w p=true:=by
  unfold M7 at h
  split at h
  · rename_i h1; exact absurd h1 h
  · split at h
    · rename_i h2; exact h2
    · exact absurd (by decide) h
theorem c09 {w:f8} {p:Int}:¬ known w p≠0↔0≤p∧p<(w.2.1.length:Int):=by
  unfold known
  split
  · rename_i h
    have:=S4.1 h
    constructor
    · intro _; omega
    · intro _ h2; exact h2 rfl
  · rename_i h
    constructor
    · intro h2; exact absurd (by decide) h2
    · intro h2; exact absurd (S4.2 ⟨h2.1,by omega⟩) h
theorem a8u {c:Nat} {said:Nat→List C5} {w:f8} (h:Ok c said w) (d:a3X):a8R c said w d (doW w d).1 (doW w d).2:=by
  obtain ⟨B,S,Q,hI⟩:=h.inv
  have stay:∀ e:Int,(d.1=1→e≠0)→(d.1=4→e≠0)→a8R c said w d w e:=fun e he hf =>
    ⟨⟨h.mem,h.sz.mono (by omega),B,S,Q,by rw [a2p,if_neg (fun c=>he c.1 c.2)]; exact hI⟩,rfl,fun _=>List.prefix_rfl,fun i _=>by rw [show decide (d.1=4∧e=0∧d.2.1=i)=false from decide_eq_false (fun c=>hf c.1 c.2.1),Bool.or_false],fun _ _ h=>h⟩
  unfold doW
  by_cases c1:d.1=1
  · rw [if_pos c1]
    have hmd:=(c0L w d.2.1 d.2.2.2.1).more (Nat.zero_le 16)
    have hf:d.1=4→False:=fun e=>by omega
    rw [Y1] at hmd ⊢
    by_cases a:M7 w d.2.1≠0
    · rw [if_pos a]; exact stay _ (fun _=>a) (fun e=>(hf e).elim)
    rw [if_neg a] at hmd ⊢
    by_cases b:(150:Int)<d.2.2.2.1.length
    · rw [if_pos b]; exact stay 2 (fun _=>by decide) (fun e=>(hf e).elim)
    rw [if_neg b] at hmd ⊢
    by_cases b2:(w.2.2.2.1.length:Int)=60
    · rw [if_pos b2]; exact stay 8 (fun _=>by decide) (fun e=>(hf e).elim)
    rw [if_neg b2] at hmd ⊢
    by_cases b3:(M5 (Y7 w d.2.1) d.2.2.2.1).2.1≠0
    · rw [if_pos b3]; exact stay _ (fun _=>b3) (fun e=>(hf e).elim)
    rw [if_neg b3] at hmd ⊢
    obtain ⟨p,hp,hpl,hv,-⟩:=a1L.1 (a7w a)
    refine a8R.b8w h hmd ?_ (fun e=>hf e)
    rw [a2p,if_pos ⟨c1,rfl⟩,hp]
    rw [hp] at b3
    exact ⟨_,_,_,hI.say hpl hv b3⟩
  rw [if_neg c1]
  by_cases c2:d.1=2
  · rw [if_pos c2]
    have hmd:=(b6w w d.2.1).more (Nat.zero_le 16)
    rw [a9Y] at hmd ⊢
    by_cases a:M7 w d.2.1≠0
    · rw [if_pos a]; exact stay _ (fun e=>absurd e c1) (fun e=>by omega)
    rw [if_neg a] at hmd ⊢
    obtain ⟨p,hp,hpl,hv,-⟩:=a1L.1 (a7w a)
    refine a8R.b8w h hmd ?_ (by omega)
    rw [a2p,if_neg (fun c=>c1 c.1),hp]
    exact ⟨_,_,_,hI.again hpl hv⟩
  rw [if_neg c2]
  by_cases c3:d.1=3
  · rw [if_pos c3]
    refine a8R.b8w h (b8u _ _ _) ?_ (by omega)
    rw [a2p,if_neg (fun c=>c1 c.1)]
    obtain ⟨Q',h'⟩:=hI.move d.2.1 d.2.2.1
    exact ⟨_,_,_,h'⟩
  rw [if_neg c3]
  by_cases c4:d.1=4
  · rw [if_pos c4]
    unfold X9
    by_cases a:known w d.2.1≠0
    · rw [if_pos a]; exact stay _ (fun e=>absurd e c1) (fun _=>a)
    rw [if_neg a]
    have hk:=c09.1 a
    obtain ⟨p,hp⟩:∃ p:Nat,d.2.1=p:=⟨d.2.1.toNat,by omega⟩
    rw [hp] at hk ⊢
    have hpl:p<w.2.1.length:=by omega
    have hg:∀ i,(w.2.1.set p (true,(w.2.1.getD p i8).2)).getD i i8=if p=i then (true,(w.2.1.getD p i8).2) else w.2.1.getD i i8:=fun i=>by
      rw [U2]
      by_cases e:p=i
      · rw [if_pos ⟨e,hpl⟩,if_pos e]
      · rw [if_neg (fun h=>e h.1),if_neg e]
    have hg2:∀ i,((w.2.1.set p (true,(w.2.1.getD p i8).2)).getD i i8).2=(w.2.1.getD i i8).2:=fun i=>by
      rw [hg]; split
      · rename_i e; rw [e]
      · rfl
    refine ⟨⟨h.mem,⟨fun i=>?_,Nat.le_trans h.sz.ord (Nat.le_add_right _ _),fun i=>?_,fun i=>?_⟩,B,S,Q,?_⟩,List.length_set ..,fun i=>?_,fun i hi=>?_,fun _ _ h=>h⟩
    · show ((w.2.1.set p (true,(w.2.1.getD p i8).2)).getD i i8).2.1.length≤_
      rw [hg2]; exact Nat.le_trans (h.sz.log i) (Nat.le_add_right _ _)
    · show ∀ s∈((w.2.1.set p (true,(w.2.1.getD p i8).2)).getD i i8).2.1,_
      rw [hg2]; exact h.sz.txt i
    · show ((w.2.1.set p (true,(w.2.1.getD p i8).2)).getD i i8).2.2.1.2.1.length≤_
      rw [hg2]; exact h.sz.late i
    · rw [a2p,if_neg (fun c=>c1 c.1)]; exact hI.c7x p
    · show _ <+: ((w.2.1.set p (true,(w.2.1.getD p i8).2)).getD i i8).2.1
      rw [hg2]; exact List.prefix_rfl
    · show ((w.2.1.set p (true,(w.2.1.getD p i8).2)).getD i i8).1=_
      rw [hg]
      by_cases e:p=i
      · rw [if_pos e,decide_eq_true ⟨c4,rfl,by rw [hp,e]⟩,Bool.or_true]
      · rw [if_neg e,decide_eq_false (fun c=>e (by have:=c.2.2; omega)),Bool.or_false]
  rw [if_neg c4]
  by_cases c5:d.1=5
  · rw [if_pos c5]
    by_cases a:(R9 w).2.1≠0
    · rw [a9L a]; exact stay _ (fun e=>absurd e c1) (fun e=>absurd e c4)
    rw [a7R a]
    obtain ⟨B',S',hI',h1,h2⟩:=hI.change h.mem a
    obtain ⟨hv1,hv2,hv3⟩:=members hI.R4 h.mem a
    have hlen:(F9 w).2.1.length=w.2.1.length:=List.length_mapIdx ..
    have hget:∀ i:Nat,i<w.2.1.length→(F9 w).2.1.getD i i8=Y8 w (G4 w w.2.1.length) i (w.2.1.getD i i8):=fun i hi=>a7B hi
    have hout:∀ i:Nat,¬ i<w.2.1.length→(F9 w).2.1.getD i i8=i8:=fun i hi=>by
      rw [List.getD_eq_getElem?_getD,List.getElem?_eq_none (by rw [hlen]; omega)]; rfl
    have hLm:(G4 w w.2.1.length).length≤c∧∀ s∈G4 w w.2.1.length,s.2.1.length≤200:=by
      rcases a6g (w:=w) (k:=w.2.1.length) with e|⟨i,-,-,e⟩
      · rw [e]; exact ⟨Nat.zero_le _,fun s hs=>by cases hs⟩
      · rw [e]; exact ⟨h.sz.log i,h.sz.txt i⟩
    have hch:∀ i x,(Y8 w (G4 w w.2.1.length) i x).2.1=G4 w w.2.1.length∨(Y8 w (G4 w w.2.1.length) i x).2.1=x.2.1:=fun i x=>by
      unfold Y8; split
      · exact .inl rfl
      · exact .inr rfl
    have hcl:∀ i x,(Y8 w (G4 w w.2.1.length) i x).2.2.1.2.1.length≤x.2.2.1.2.1.length:=fun i x=>by
      unfold Y8; split
      · exact List.length_drop ..▸Nat.sub_le _ _
      · exact Nat.le_refl _
    refine ⟨⟨hv2,⟨fun i=>?_,Nat.zero_le _,fun i=>?_,fun i=>?_⟩,B',S',[],?_⟩,hlen,fun i=>?_,fun i hi=>?_,fun i hi hm=>?_⟩
    · by_cases hi:i<w.2.1.length
      · rw [hget i hi]
        have:=h.sz.log i
        rcases hch i (w.2.1.getD i i8) with e|e
        · rw [e]; omega
        · rw [e]; omega
      · rw [hout i hi]; exact Nat.zero_le _
    · by_cases hi:i<w.2.1.length
      · rw [hget i hi]
        rcases hch i (w.2.1.getD i i8) with e|e
        · rw [e]; exact hLm.2
        · rw [e]; exact h.sz.txt i
      · rw [hout i hi]; exact fun s hs=>by cases hs
    · by_cases hi:i<w.2.1.length
      · rw [hget i hi]; exact Nat.le_trans (hcl _ _) (h.sz.late i)
      · rw [hout i hi]; exact Nat.zero_le _
    · rw [a2p,if_neg (fun c=>c1 c.1)]; exact hI'
    · by_cases hi:i<w.2.1.length
      · exact h2 i hi
      · have e:w.2.1.getD i i8=i8:=by rw [List.getD_eq_getElem?_getD,List.getElem?_eq_none (by omega)]; rfl
        rw [e]; exact List.nil_prefix
    · rw [hget i hi,c1u,decide_eq_false (fun c=>c4 c.1),Bool.or_false]
    · rw [hv3 i hi] at hm; exact (a0e.1 hm).2.1
  · rw [if_neg c5]; exact stay _ (fun e=>absurd e c1) (fun e=>absurd e c4)
attribute [local irreducible] Go.Ex.exec
def R4 (n:Int):Int:=rest n 6+1
theorem c1h (n:Int):1≤R4 n∧R4 n≤6:=by have:=b6O (a:=n) (n:=6) (by omega); unfold R4; omega
def c3r:p7:={ ps:=[.v e8],rs:=[e8],pre:=fun _=>True,fn:=fun x=>(R4 x.1,()),out:=fun _=>() }
noncomputable def c0j:Env:={ P:=Tryz.prog,tt:=tt,C0:=[(39,b86)],res:=[Go.ResultVar.tmp 2],rs:=[Ty.int IntKind.i64],ps:=[PK.v e8],y6:=[],nt:=6 }
theorem b5u:u7 c0j:=x6 p9 ⟨b53,trivial⟩
theorem b4V:B0 c0j Tryz.f36:=⟨rfl,rfl⟩
theorem c50 (x0:Int):exec c0j 1000 [.code (d9 Tryz.prog 36)] (s6 c3r.ps ((x0,()))) =
  .f6 ((6:Int)≤(1000000000:Int)) (.f6 (q9 IntKind.i64 (rest x0 (6:Int)+(1:Int))) (.ret ((rest x0 (6:Int)+(1:Int),())))):=by kernel_rfl
theorem b6i:c3r.Valid Tryz.prog 36:=by
  refine p7.o6 b5u rfl rfl Tryz.func36 (c:=d9 Tryz.prog 36) rfl rfl b4V rfl ?_
  rintro ⟨(n:Int),⟨⟩⟩ - -
  refine j5 (n:=1000) b5u b4V ?_
  refine g9 (c50 n) ?_
  have:=c1h n
  have:=b6O (a:=n) (n:=6) (by omega)
  simp only [j8,Tree.holds,true_and,true_implies,decide_eq_true_eq,decide_eq_false_iff_not,Bool.not_eq_true',Bool.not_eq_false',Int.toNat_natCast,j9,List.length_set,List.length_cons,List.length_nil]
  exact ⟨by decide,fun _=>⟨by omega,fun _=>rfl⟩⟩
def a8g (n:Int):f8:=((0,a9x n,()),List.replicate n.toNat i8,[],[],())
def b2O:p7:={ ps:=[.v e8],rs:=[.box true none w9,e8],pre:=fun x=>LE.le (α:=Int) 1 x.1∧LE.le (α:=Int) x.1 6,fn:=fun x=>(some (a8g x.1),0,()),out:=fun _=>() }
theorem c0V {n:Int} (h:1≤n∧n≤6):b8q n=(some (a8g n),0,()):=if_pos (S4.2 h)
theorem a7P:b2O.Valid Tryz.prog 14:=by
  refine ⟨a9I.ent,fun w S vs x L hS hgl hpre hK hKl hLn hLb=>?_,fun h=>by cases h⟩
  obtain ⟨(n:Int),⟨⟩⟩:=x
  have:=a9I.run w S vs (n,()) L hS hgl trivial hK hKl hLn hLb
  rw [show c3o.fn (n,())=b2O.fn (n,()) from c0V hpre] at this
  exact this
end Go.Proofs.YtijlnmgondibnaaGreatDoor
namespace Go.Proofs.YtijlnmgondibnaaGreatDoor
open Go.Ex
set_option maxRecDepth 100000
theorem c2w {n i:Nat}:(List.replicate n i8).getD i i8=i8:=by
  rw [List.getD_eq_getElem?_getD,List.getElem?_replicate]
  split<;>rfl
theorem c0U {n:Int} (h:1≤n∧n≤6):Ok 0 (fun _=>[]) (a8g n):=by
  have hr:∀ i,(a8g n).2.1.getD i i8=i8:=fun i=>c2w
  have hl:(a8g n).2.1.length=n.toNat:=List.length_replicate ..
  refine ⟨P8 (k:=.u8) _,⟨fun i=>?_,Nat.zero_le _,fun i=>?_,fun i=>?_⟩,[],fun _=>[],[],?_⟩
  · rw [hr]; exact Nat.zero_le _
  · rw [hr]; exact fun s hs=>by cases hs
  · rw [hr]; exact Nat.zero_le _
  · refine ⟨by rw [hl]; omega,Nat.zero_le _,rfl,fun x hx=>(by cases hx),fun p=>List.nil_prefix,fun p=>Nat.zero_le _,fun s hs=>(by cases hs),fun p hp=>?_,fun p hp hv=>?_,fun p hp hv=>⟨rfl,List.prefix_rfl⟩⟩
    · rw [hr]; exact ⟨rfl,fun q hq=>by cases hq⟩
    · rw [hr]
      exact ⟨⟨0,Nat.le_refl _,rfl,fun q hq=>(by cases hq),rfl,rfl,rfl⟩,rfl⟩
def b8v (k how:Int):a3X:=(3,k,how,[],())
theorem c3d (w:f8) (k how:Int):doW w (b8v k how)=I5 w k how:=by
  unfold doW b8v
  rw [if_neg (show ¬ (3:Int)=1 by decide),if_neg (show ¬ (3:Int)=2 by decide),if_pos rfl]
theorem Ok.c7f {c:Nat} {said:Nat→List C5} {w:f8} (h:Ok c said w) (k how:Int):Ok (c+16) said (I5 w k how).1:=by
  have:=(a8u h (b8v k how)).ok
  rw [c3d] at this
  exact this
abbrev b9Q:C5:=[97,100,100,32,52,32]
def wS:Nat→f8
  | 0=>a8g 3
  | p+1=>(Y1 (wS p) p (b9Q++D0 ((p:Int)+1))).1
def a7i (w:f8):f8:=if (0:Int)<(w.2.2.2.1.length:Int) then (I5 w 0 1).1 else w
def allM:Nat→f8→Bool
  | 0,w=>decide (w.2.2.2.1.length=0) && (List.range 3).all fun p=>decide (a04 w (p:Int)=([0,0,0,0,6,0,0,0,0,0],0,()))
  | k+1,w=>(decide (w.2.2.2.1.length=0) || decide ((I5 w 0 1).2=0)) && allM k (a7i w)
theorem c4M:(List.range 3).all (fun p=>decide ((Y1 (wS p) p (b9Q++D0 ((p:Int)+1))).2=0))=true:=by decide +kernel
theorem a8h:allM 12 (wS 3)=true:=by decide +kernel
def wM:Nat→f8
  | 0=>wS 3
  | k+1=>a7i (wM k)
def c4z (w:f8):Prop:=w.2.2.2.1.length=0∧∀ p:Nat,p<3→a04 w (p:Int)=([0,0,0,0,6,0,0,0,0,0],0,())
theorem a2X:∀ {k j:Nat},allM k (wM j)=true→(∀ i,i<k→(wM (j+i)).2.2.2.1.length=0∨(I5 (wM (j+i)) 0 1).2=0)∧c4z (wM (j+k))
  | 0,j,h=>by
    rw [allM,Bool.and_eq_true,List.all_eq_true] at h
    exact ⟨fun i hi=>by omega,of_decide_eq_true h.1,fun p hp=>of_decide_eq_true (h.2 p (List.mem_range.2 hp))⟩
  | k+1,j,h=>by
    rw [allM,Bool.and_eq_true,Bool.or_eq_true] at h
    obtain ⟨h1,h2⟩:=a2X (k:=k) (j:=j+1) h.2
    refine ⟨fun i hi=>?_,by rw [show j+(k+1)=j+1+k by omega]; exact h2⟩
    rcases Nat.eq_zero_or_pos i with e|e
    · subst e
      exact h.1.imp of_decide_eq_true of_decide_eq_true
    · have:=h1 (i - 1) (by omega)
      rw [show j+1+(i - 1)=j+i by omega] at this
      exact this
theorem c2G {w:f8} (h:w.2.2.2.1.length=0):a7i w=w:=by unfold a7i; rw [if_neg (by omega)]
theorem b0f:∀ k,wM (12+k)=wM 12
  | 0=>rfl
  | k+1=>by
    rw [show 12+(k+1)=(12+k)+1 by omega,wM,b0f k]
    exact c2G (by have:=(a2X (k:=12) (j:=0) a8h).2.1; rw [Nat.zero_add] at this; exact this)
theorem c7b (i:Nat):(wM i).2.2.2.1.length=0∨(I5 (wM i) 0 1).2=0:=by
  obtain ⟨h1,h2⟩:=a2X (k:=12) (j:=0) a8h
  by_cases h:i<12
  · have:=h1 i h
    rw [Nat.zero_add] at this
    exact this
  · rw [show i=12+(i - 12) by omega,b0f]
    rw [Nat.zero_add] at h2
    exact .inl h2.1
theorem c4H:c4z (wM 100):=by
  have:=(a2X (k:=12) (j:=0) a8h).2
  rw [Nat.zero_add] at this
  rw [show 100=12+88 by rfl,b0f]
  exact this
def c2t (p:Int) (t:C5):a3X:=(1,p,0,t,())
theorem c5j (w:f8) (p:Int) (t:C5):doW w (c2t p t)=Y1 w p t:=by
  unfold doW c2t
  exact if_pos rfl
theorem Ok.c7u {c:Nat} {said:Nat→List C5} {w:f8} (h:Ok c said w) (p:Int) (t:C5):∃ said',Ok (c+16) said' (Y1 w p t).1:=by
  have:=(a8u h (c2t p t)).ok
  rw [c5j] at this
  exact ⟨_,this⟩
theorem b7P:∀ p,∃ said,Ok (16*p) said (wS p)
  | 0=>⟨_,c0U (n:=3) (by decide)⟩
  | p+1=>by
    obtain ⟨said,h⟩:=b7P p
    obtain ⟨s',h'⟩:=h.c7u p (b9Q++D0 ((p:Int)+1))
    exact ⟨s',by rw [show 16*(p+1)=16*p+16 by omega]; exact h'⟩
theorem c0u:∀ k,∃ said,Ok (48+16*k) said (wM k)
  | 0=>b7P 3
  | k+1=>by
    obtain ⟨said,h⟩:=c0u k
    refine ⟨said,?_⟩
    rw [wM,a7i]
    split
    · have:=h.c7f 0 1
      rw [show 48+16*(k+1)=48+16*k+16 by omega]
      exact this
    · exact ⟨h.mem,h.sz.mono (by omega),h.inv⟩
def b3Y:p7:={ ps:=[],rs:=[.bool],pre:=fun _=>True,fn:=fun _=>(true,()),out:=fun _=>() }
noncomputable def a0V:Env:={ P:=Tryz.prog,tt:=tt,C0:=[(14,b2O),(50,b4a),(15,c3l),(17,c3i),(18,b9f),(30,b2M)],res:=[Go.ResultVar.tmp 0],rs:=[Ty.bool],ps:=[],y6:=[(5,[(1,none),(17,none)]),(11,[(1,none),(29,none)]),(16,[(1,none),(40,none)])],nt:=57 }
theorem a1P:u7 a0V:=x6 p9 ⟨a7P,a6D,b84,b8W,b6a,b51,trivial⟩
theorem a1O:B0 a0V Tryz.f35:=⟨rfl,rfl⟩
theorem c2c:exec a0V 1000 [.code (d9 Tryz.prog 35)] (s6 b3Y.ps (())) =
  .f6 ((1:Int)≤(3:Int)∧(3:Int)≤(6:Int)) (.ctL (f9 (d9 Tryz.prog 35) 5) (St.mk [(1,AV.ptr 1008 []),(17,AV.val e8 (0:Int))] [(1008,g8.var w9 (((0:Int),a9x (3:Int),()),List.replicate (Int.toNat (3:Int)) i8,[],[],()))])):=by kernel_rfl
def a5D (v17:Int) (o1008_1_1:Int) (o1008_1_2_1:Int) (o1008_2_1:List o8) (o1008_2_2_1:List (List UInt8)) (o1008_2_2_2_1:List (List UInt8)):St:=St.mk [(1,AV.ptr 1008 []),(17,AV.val e8 v17)] [(1008,g8.var w9 ((o1008_1_1,o1008_1_2_1,()),o1008_2_1,o1008_2_2_1,o1008_2_2_2_1,()))]
theorem b97 (v17:Int) (o1008_1_1:Int) (o1008_1_2_1:Int) (o1008_2_1:List o8) (o1008_2_2_1:List (List UInt8)) (o1008_2_2_2_1:List (List UInt8)):exec a0V 1000 (.code (f9 (d9 Tryz.prog 35) 5).1::.inLoop (f9 (d9 Tryz.prog 35) 5).1::(f9 (d9 Tryz.prog 35) 5).2) (a5D v17 o1008_1_1 o1008_1_2_1 o1008_2_1 o1008_2_2_1 o1008_2_2_2_1) =
  cond (decide (v17<(3:Int))) (.f6 (q9 IntKind.i64 (v17+(1:Int))) (.f6 (True) (.f6 (List.length (Array.toList (ByteArray.data (ByteArray.mk #[(97:UInt8),(100:UInt8),(100:UInt8),(32:UInt8),(52:UInt8),(32:UInt8)])))+List.length (D0 (v17+(1:Int)))≤Go.maxLen) (.f6 (List.length o1008_2_1≤6) (cond (decide (Prod.snd (Y1 ((o1008_1_1,o1008_1_2_1,()),o1008_2_1,o1008_2_2_1,o1008_2_2_2_1,()) v17 (Array.toList (ByteArray.data (ByteArray.mk #[(97:UInt8),(100:UInt8),(100:UInt8),(32:UInt8),(52:UInt8),(32:UInt8)]))++D0 (v17+(1:Int))))≠(0:Int))) (.ret ((false,()))) (.f6 (q9 IntKind.i64 (v17+(1:Int))) (.ctL (f9 (d9 Tryz.prog 35) 5) (St.mk [(1,AV.ptr 1008 []),(17,AV.val e8 (v17+(1:Int)))] [(1008,g8.var w9 (Prod.fst (Y1 ((o1008_1_1,o1008_1_2_1,()),o1008_2_1,o1008_2_2_1,o1008_2_2_2_1,()) v17 (Array.toList (ByteArray.data (ByteArray.mk #[(97:UInt8),(100:UInt8),(100:UInt8),(32:UInt8),(52:UInt8),(32:UInt8)]))++D0 (v17+(1:Int))))))])))))))) (.ctL (f9 (d9 Tryz.prog 35) 11) (St.mk [(1,AV.ptr 1008 []),(29,AV.val e8 (0:Int))] [(1008,g8.var w9 ((o1008_1_1,o1008_1_2_1,()),o1008_2_1,o1008_2_2_1,o1008_2_2_2_1,()))])):=by kernel_rfl
def a4g (v29:Int) (o1008_1_1:Int) (o1008_1_2_1:Int) (o1008_2_1:List o8) (o1008_2_2_1:List (List UInt8)) (o1008_2_2_2_1:List (List UInt8)):St:=St.mk [(1,AV.ptr 1008 []),(29,AV.val e8 v29)] [(1008,g8.var w9 ((o1008_1_1,o1008_1_2_1,()),o1008_2_1,o1008_2_2_1,o1008_2_2_2_1,()))]
theorem b6y (v29:Int) (o1008_1_1:Int) (o1008_1_2_1:Int) (o1008_2_1:List o8) (o1008_2_2_1:List (List UInt8)) (o1008_2_2_2_1:List (List UInt8)):exec a0V 1000 (.code (f9 (d9 Tryz.prog 35) 11).1::.inLoop (f9 (d9 Tryz.prog 35) 11).1::(f9 (d9 Tryz.prog 35) 11).2) (a4g v29 o1008_1_1 o1008_1_2_1 o1008_2_1 o1008_2_2_1 o1008_2_2_2_1) =
  cond (decide (v29<(100:Int))) (.f6 (True) (cond (decide ((0:Int)<(↑(List.length o1008_2_2_2_1):Int))) (.f6 (a7s ((o1008_1_1,o1008_1_2_1,()),o1008_2_1,o1008_2_2_1,o1008_2_2_2_1,())) (cond (decide (Prod.snd (I5 ((o1008_1_1,o1008_1_2_1,()),o1008_2_1,o1008_2_2_1,o1008_2_2_2_1,()) (0:Int) (1:Int))≠(0:Int))) (.ret ((false,()))) (.f6 (q9 IntKind.i64 (v29+(1:Int))) (.ctL (f9 (d9 Tryz.prog 35) 11) (St.mk [(1,AV.ptr 1008 []),(29,AV.val e8 (v29+(1:Int)))] [(1008,g8.var w9 (Prod.fst (I5 ((o1008_1_1,o1008_1_2_1,()),o1008_2_1,o1008_2_2_1,o1008_2_2_2_1,()) (0:Int) (1:Int))))]))))) (.f6 (q9 IntKind.i64 (v29+(1:Int))) (.ctL (f9 (d9 Tryz.prog 35) 11) (St.mk [(1,AV.ptr 1008 []),(29,AV.val e8 (v29+(1:Int)))] [(1008,g8.var w9 ((o1008_1_1,o1008_1_2_1,()),o1008_2_1,o1008_2_2_1,o1008_2_2_2_1,()))]))))) (.ctL (f9 (d9 Tryz.prog 35) 16) (St.mk [(1,AV.ptr 1008 []),(40,AV.val e8 (0:Int))] [(1008,g8.var w9 ((o1008_1_1,o1008_1_2_1,()),o1008_2_1,o1008_2_2_1,o1008_2_2_2_1,()))])):=by kernel_rfl
def a4f (v40:Int) (o1008_1_1:Int) (o1008_1_2_1:Int) (o1008_2_1:List o8) (o1008_2_2_1:List (List UInt8)) (o1008_2_2_2_1:List (List UInt8)):St:=St.mk [(1,AV.ptr 1008 []),(40,AV.val e8 v40)] [(1008,g8.var w9 ((o1008_1_1,o1008_1_2_1,()),o1008_2_1,o1008_2_2_1,o1008_2_2_2_1,()))]
theorem b6x (v40:Int) (o1008_1_1:Int) (o1008_1_2_1:Int) (o1008_2_1:List o8) (o1008_2_2_1:List (List UInt8)) (o1008_2_2_2_1:List (List UInt8)):exec a0V 1000 (.code (f9 (d9 Tryz.prog 35) 16).1::.inLoop (f9 (d9 Tryz.prog 35) 16).1::(f9 (d9 Tryz.prog 35) 16).2) (a4f v40 o1008_1_1 o1008_1_2_1 o1008_2_1 o1008_2_2_1 o1008_2_2_2_1) =
  cond (decide (v40<(3:Int))) (.f6 (List.length o1008_2_1≤6∧List.length (a0O ((o1008_1_1,o1008_1_2_1,()),o1008_2_1,o1008_2_2_1,o1008_2_2_2_1,()) v40)≤5864062014805∧∀ (s:B9),s∈a0O ((o1008_1_1,o1008_1_2_1,()),o1008_2_1,o1008_2_2_1,o1008_2_2_2_1,()) v40→List.length (Prod.fst (Prod.snd s))≤4294967280) (cond (decide (Prod.fst (Prod.snd (a04 ((o1008_1_1,o1008_1_2_1,()),o1008_2_1,o1008_2_2_1,o1008_2_2_2_1,()) v40))≠(0:Int))) (.ret ((false,()))) (cond (!H7 (Ty.arr 10 e8) (Prod.fst (a04 ((o1008_1_1,o1008_1_2_1,()),o1008_2_1,o1008_2_2_1,o1008_2_2_2_1,()) v40)) (List.set [(0:Int),(0:Int),(0:Int),(0:Int),(0:Int),(0:Int),(0:Int),(0:Int),(0:Int),(0:Int)] (Int.toNat (↑4:Int)) (6:Int))) (.ret ((false,()))) (.f6 (q9 IntKind.i64 (v40+(1:Int))) (.ctL (f9 (d9 Tryz.prog 35) 16) (St.mk [(1,AV.ptr 1008 []),(40,AV.val e8 (v40+(1:Int)))] [(1008,g8.var w9 ((o1008_1_1,o1008_1_2_1,()),o1008_2_1,o1008_2_2_1,o1008_2_2_2_1,()))])))))) (.ret ((true,()))):=by kernel_rfl
attribute [local irreducible] Y1 I5 a04 in
theorem b3X:b3Y.Valid Tryz.prog 35:=by
  refine p7.o6 a1P rfl rfl Tryz.func35 (c:=d9 Tryz.prog 35) rfl rfl a1O rfl ?_
  rintro ⟨⟩ - -
  refine j5 (n:=1000) a1P a1O ?_
  refine g9 (c2c ) ?_
  refine ⟨by decide,fun _=>?_⟩
  have hmx:maxLen=9223372036854775807:=by decide
  suffices go:Go.Ex.Reach a0V Tryz.f35 (true,()) () (.code (f9 (d9 Tryz.prog 35) 5).1::.inLoop (f9 (d9 Tryz.prog 35) 5).1::(f9 (d9 Tryz.prog 35) 5).2) (a5D ((0:Nat):Int) (wS 0).1.1 (wS 0).1.2.1 (wS 0).2.1 (wS 0).2.2.1 (wS 0).2.2.2.1) by exact go
  refine Reach.N3 a1P a1O (fun p:Nat=>a5D (p:Int) (wS p).1.1 (wS p).1.2.1 (wS p).2.1 (wS p).2.2.1 (wS p).2.2.2.1) (fun p=>p≤3) (fun p=>3 - p) 1000 (fun _=>⟨u3 rfl,u3 rfl⟩) ?_ 0 (Nat.zero_le _)
  rintro p k1 - ih
  have k1:p≤3:=k1
  refine g9 (b97 ..) ?_
  have e1:((p:Nat):Int)+1=((p+1:Nat):Int):=by omega
  obtain ⟨said,hok⟩:=b7P p
  have hsay:p<3→(Y1 (wS p) p (b9Q++D0 ((p:Int)+1))).2=0:=fun h=>of_decide_eq_true (List.all_eq_true.1 c4M p (List.mem_range.2 h))
  have hnl:(D0 ((p:Int)+1)).length≤20:=a1u (by omega) (by omega)
  rw [e1] at hnl hsay
  have ih1:p<3→_:=fun h=>ih (p+1) (by show p+1≤3; omega) (by show 3 - (p+1)<3 - p; omega)
  rw [wS,e1] at ih1
  simp only [j8,Tree.holds,true_and,true_implies,decide_eq_true_eq,decide_eq_false_iff_not,Bool.not_eq_true',Bool.not_eq_false',Int.toNat_natCast,j9,List.length_set,List.length_cons,List.length_nil,e1]
  refine ⟨fun c=>⟨j9.2 ⟨by omega,by omega⟩,fun _=>⟨by rw [hmx]; omega,fun _=>⟨hok.R4,fun _=>⟨fun d=>absurd (hsay (by omega)) d,fun d=>⟨j9.2 ⟨by omega,by omega⟩,fun _=>ih1 (by omega)⟩⟩⟩⟩⟩,fun c=>?_⟩
  obtain rfl:p=3:=by omega
  clear ih ih1
  suffices go:Go.Ex.Reach a0V Tryz.f35 (true,()) () (.code (f9 (d9 Tryz.prog 35) 11).1::.inLoop (f9 (d9 Tryz.prog 35) 11).1::(f9 (d9 Tryz.prog 35) 11).2) (a4g ((0:Nat):Int) (wM 0).1.1 (wM 0).1.2.1 (wM 0).2.1 (wM 0).2.2.1 (wM 0).2.2.2.1) by exact go
  refine Reach.N3 a1P a1O (fun k:Nat=>a4g (k:Int) (wM k).1.1 (wM k).1.2.1 (wM k).2.1 (wM k).2.2.1 (wM k).2.2.2.1) (fun k=>k≤100) (fun k=>100 - k) 1000 (fun _=>⟨u3 rfl,u3 rfl⟩) ?_ 0 (Nat.zero_le _)
  rintro k k1 - ih
  have k1:k≤100:=k1
  refine g9 (b6y ..) ?_
  have e1:((k:Nat):Int)+1=((k+1:Nat):Int):=by omega
  obtain ⟨said,hok⟩:=c0u k
  have hmv:=c7b k
  have ih1:k<100→_:=fun h=>ih (k+1) (by show k+1≤100; omega) (by show 100 - (k+1)<100 - k; omega)
  rw [wM,a7i] at ih1
  simp only [j8,Tree.holds,true_and,true_implies,decide_eq_true_eq,decide_eq_false_iff_not,Bool.not_eq_true',Bool.not_eq_false',Int.toNat_natCast,j9,List.length_set,List.length_cons,List.length_nil,e1]
  refine ⟨fun c=>⟨fun d=>⟨(hok.b3J (by omega)).move,fun _=>⟨fun e=>?_,fun e=>⟨j9.2 ⟨by omega,by omega⟩,fun _=>?_⟩⟩⟩,fun d=>⟨j9.2 ⟨by omega,by omega⟩,fun _=>?_⟩⟩,fun c=>?_⟩
  · rcases hmv with h|h
    · omega
    · exact absurd h e
  · have:=ih1 (by omega)
    rw [if_pos (by omega)] at this
    exact this
  · have:=ih1 (by omega)
    rw [if_neg (by omega)] at this
    exact this
  obtain rfl:k=100:=by omega
  clear ih ih1 hmv
  obtain ⟨u,hu⟩:∃ u,u=wM 100:=⟨_,rfl⟩
  have hdn:=c4H
  rw [← hu] at hdn hok ⊢
  suffices go:Go.Ex.Reach a0V Tryz.f35 (true,()) () (.code (f9 (d9 Tryz.prog 35) 16).1::.inLoop (f9 (d9 Tryz.prog 35) 16).1::(f9 (d9 Tryz.prog 35) 16).2) (a4f ((0:Nat):Int) u.1.1 u.1.2.1 u.2.1 u.2.2.1 u.2.2.2.1) by exact go
  refine Reach.N3 a1P a1O (fun p:Nat=>a4f (p:Int) u.1.1 u.1.2.1 u.2.1 u.2.2.1 u.2.2.2.1) (fun p=>p≤3) (fun p=>3 - p) 1000 (fun _=>⟨u3 rfl,u3 rfl⟩) ?_ 0 (Nat.zero_le _)
  rintro p k1 - ih
  have k1:p≤3:=k1
  refine g9 (b6x ..) ?_
  have e1:((p:Nat):Int)+1=((p+1:Nat):Int):=by omega
  have ih1:p<3→_:=fun h=>ih (p+1) (by show p+1≤3; omega) (by show 3 - (p+1)<3 - p; omega)
  have hv:p<3→a04 ((u.1.1,u.1.2.1,()),u.2.1,u.2.2.1,u.2.2.2.1,()) (p:Int)=([0,0,0,0,6,0,0,0,0,0],0,()):=fun h=>hdn.2 p h
  simp only [j8,Tree.holds,true_and,true_implies,decide_eq_true_eq,decide_eq_false_iff_not,Bool.not_eq_true',Bool.not_eq_false',Int.toNat_natCast,j9,List.length_set,List.length_cons,List.length_nil,e1]
  refine ⟨fun c=>⟨⟨hok.R4,Nat.le_trans (hok.sz.log p) (by omega),fun s hs=>Nat.le_trans (hok.sz.txt p s hs) (by omega)⟩,fun _=>⟨fun d=>?_,fun d=>⟨fun e=>?_,fun e=>⟨j9.2 ⟨by omega,by omega⟩,fun _=>ih1 (by omega)⟩⟩⟩⟩,fun c=>rfl⟩
  · rw [hv (by omega)] at d; exact absurd rfl d
  · rw [hv (by omega)] at e; exact absurd e (by decide)
attribute [local irreducible] Go.Ex.exec
def G7 (n g:Int):Nat→f8×Nat
  | 0=>(a8g n,0)
  | p+1=>if V8 g p=true then ((X9 (G7 n g p).1 p).1,(G7 n g p).2+1) else G7 n g p
def b3d (n g:Int) (w:f8) (k:Nat):Bool :=
  if n≤2*(k:Int) then decide ((H3 w).2=11) && decide ((H3 w).1.1.1=0)
  else decide ((H3 w).2=0) && decide ((H3 w).1.1.1=1) && decide ((H3 w).1.1.2.1=Q4 .u8 (a9x n) g)
def b6J (n g:Nat):Bool :=
  (List.range n).all (fun p=>!V8 g p || decide ((X9 (G7 n g p).1 p).2=0)) && b3d n g (G7 n g n).1 (G7 n g n).2
theorem c0H:(List.range 7).all (fun n=>n == 0 || (List.range 256).all fun g=>b6J n g)=true:=by decide +kernel
theorem c0G {n g:Int} (hn:1≤n∧n≤6) (hg:0≤g∧g≤255):(∀ p:Nat,p<n.toNat→V8 g p=true→(X9 (G7 n g p).1 p).2=0)∧b3d n g (G7 n g n.toNat).1 (G7 n g n.toNat).2=true:=by
  obtain ⟨a,rfl⟩:∃ a:Nat,n=a:=⟨n.toNat,by omega⟩
  obtain ⟨b,rfl⟩:∃ b:Nat,g=b:=⟨g.toNat,by omega⟩
  have h:=List.all_eq_true.1 c0H a (List.mem_range.2 (by omega))
  rw [Bool.or_eq_true] at h
  have h:=h.resolve_left (by simp; omega)
  have h:=List.all_eq_true.1 h b (List.mem_range.2 (by omega))
  unfold b6J at h
  rw [Bool.and_eq_true] at h
  refine ⟨fun p hp hm=>?_,h.2⟩
  have h1:=List.all_eq_true.1 h.1 p (List.mem_range.2 hp)
  rw [hm,Bool.not_true,Bool.false_or] at h1
  exact of_decide_eq_true h1
def b8R (p:Int):a3X:=(4,p,0,[],())
theorem c3e (w:f8) (p:Int):doW w (b8R p)=X9 w p:=by
  unfold doW b8R
  rw [if_neg (show ¬ (4:Int)=1 by decide),if_neg (show ¬ (4:Int)=2 by decide),if_neg (show ¬ (4:Int)=3 by decide),if_pos rfl]
theorem b3S {n g:Int} (hn:1≤n∧n≤6):∀ p,(∃ said,Ok (16*p) said (G7 n g p).1)∧(G7 n g p).2≤p
  | 0=>⟨⟨_,c0U hn⟩,Nat.le_refl _⟩
  | p+1=>by
    obtain ⟨⟨said,h⟩,h2⟩:=b3S (g:=g) hn p
    rw [G7]
    split
    · have:=(a8u h (b8R p)).ok
      rw [c3e] at this
      refine ⟨⟨_,by rw [show 16*(p+1)=16*p+16 by omega]; exact this⟩,by show (G7 n g p).2+1≤p+1; omega⟩
    · exact ⟨⟨said,h.mem,h.sz.mono (by omega),h.inv⟩,by omega⟩
abbrev c7j:p7:=c3r
def b1E:p7:=b8E [e8,U8] (fun _=>True)
noncomputable def a4K:Env:={ P:=Tryz.prog,tt:=tt,C0:=[(35,b3Y),(36,c7j),(14,b2O),(37,b9o),(25,b4l),(29,b30)],res:=[Go.ResultVar.tmp 4],rs:=[Ty.bool],ps:=[PK.v e8,PK.v U8],y6:=[(9,[(0,none),(1,none),(5,none),(7,none),(21,none),(22,none)])],nt:=70 }
theorem a5G:u7 a4K:=x6 p9 ⟨b3X,b6i,a7P,b6j,b0K,b3Z,trivial⟩
theorem a5C:B0 a4K Tryz.f10:=⟨rfl,rfl⟩
theorem c2h (x0:Int) (x1:Int):exec a4K 1000 [.code (d9 Tryz.prog 10)] (s6 b1E.ps ((x0,x1,()))) =
  .f6 (True) (.f6 (True) (.f6 ((1:Int)≤R4 x0∧R4 x0≤(6:Int)) (.ctL (f9 (d9 Tryz.prog 10) 9) (St.mk [(0,AV.val e8 (R4 x0)),(1,AV.val U8 x1),(5,AV.ptr 1016 []),(7,AV.val e8 (0:Int)),(21,AV.val e8 (R4 x0)),(22,AV.val e8 (0:Int))] [(1016,g8.var w9 (((0:Int),a9x (R4 x0),()),List.replicate (Int.toNat (R4 x0)) i8,[],[],()))])))):=by kernel_rfl
def a5F (v0:Int) (v1:Int) (v7:Int) (v21:Int) (v22:Int) (o1016_1_1:Int) (o1016_1_2_1:Int) (o1016_2_1:List o8) (o1016_2_2_1:List (List UInt8)) (o1016_2_2_2_1:List (List UInt8)):St:=St.mk [(0,AV.val e8 v0),(1,AV.val U8 v1),(5,AV.ptr 1016 []),(7,AV.val e8 v7),(21,AV.val e8 v21),(22,AV.val e8 v22)] [(1016,g8.var w9 ((o1016_1_1,o1016_1_2_1,()),o1016_2_1,o1016_2_2_1,o1016_2_2_2_1,()))]
theorem c0h (v0:Int) (v1:Int) (v7:Int) (v21:Int) (v22:Int) (o1016_1_1:Int) (o1016_1_2_1:Int) (o1016_2_1:List o8) (o1016_2_2_1:List (List UInt8)) (o1016_2_2_2_1:List (List UInt8)):exec a4K 1000 (.code (f9 (d9 Tryz.prog 10) 9).1::.inLoop (f9 (d9 Tryz.prog 10) 9).1::(f9 (d9 Tryz.prog 10) 9).2) (a5F v0 v1 v7 v21 v22 o1016_1_1 o1016_1_2_1 o1016_2_1 o1016_2_2_1 o1016_2_2_2_1) =
  cond (decide (v22<v21)) (.f6 ((0:Int)≤v22) (cond (decide (R6 IntKind.u8 (v1 / (2:Int)^min (Int.toNat v22) (IntKind.bits IntKind.u8)) (1:Int)=(1:Int))) (.f6 (List.length o1016_2_1≤6) (cond (decide (Prod.snd (X9 ((o1016_1_1,o1016_1_2_1,()),o1016_2_1,o1016_2_2_1,o1016_2_2_2_1,()) v22)≠(0:Int))) (.ret ((false,()))) (.f6 (q9 IntKind.i64 (v7+(1:Int))) (.f6 (q9 IntKind.i64 (v22+(1:Int))) (.ctL (f9 (d9 Tryz.prog 10) 9) (St.mk [(0,AV.val e8 v0),(1,AV.val U8 v1),(5,AV.ptr 1016 []),(7,AV.val e8 (v7+(1:Int))),(21,AV.val e8 v21),(22,AV.val e8 (v22+(1:Int)))] [(1016,g8.var w9 (Prod.fst (X9 ((o1016_1_1,o1016_1_2_1,()),o1016_2_1,o1016_2_2_1,o1016_2_2_2_1,()) v22)))])))))) (.f6 (q9 IntKind.i64 (v22+(1:Int))) (.ctL (f9 (d9 Tryz.prog 10) 9) (St.mk [(0,AV.val e8 v0),(1,AV.val U8 v1),(5,AV.ptr 1016 []),(7,AV.val e8 v7),(21,AV.val e8 v21),(22,AV.val e8 (v22+(1:Int)))] [(1016,g8.var w9 ((o1016_1_1,o1016_1_2_1,()),o1016_2_1,o1016_2_2_1,o1016_2_2_2_1,()))]))))) (.f6 (a0M ((o1016_1_1,o1016_1_2_1,()),o1016_2_1,o1016_2_2_1,o1016_2_2_2_1,())) (.f6 (q9 IntKind.i64 ((2:Int)*v7)) (cond (decide (v0≤(2:Int)*v7)) (cond (decide (Prod.snd (H3 ((o1016_1_1,o1016_1_2_1,()),o1016_2_1,o1016_2_2_1,o1016_2_2_2_1,()))=(11:Int))) (.f6 (True) (.ret ((decide (Prod.fst (Prod.fst (Prod.fst (H3 ((o1016_1_1,o1016_1_2_1,()),o1016_2_1,o1016_2_2_1,o1016_2_2_2_1,()))))=(0:Int)),())))) (.ret ((false,())))) (.f6 (True) (cond (decide (Prod.snd (H3 ((o1016_1_1,o1016_1_2_1,()),o1016_2_1,o1016_2_2_1,o1016_2_2_2_1,()))=(0:Int))) (cond (decide (Prod.fst (Prod.fst (Prod.fst (H3 ((o1016_1_1,o1016_1_2_1,()),o1016_2_1,o1016_2_2_1,o1016_2_2_2_1,()))))=(1:Int))) (.f6 ((0:Int)≤v0) (.ret ((decide (Prod.fst (Prod.snd (Prod.fst (Prod.fst (H3 ((o1016_1_1,o1016_1_2_1,()),o1016_2_1,o1016_2_2_1,o1016_2_2_2_1,())))))=Q4 IntKind.u8 (IntKind.wrap IntKind.u8 (IntKind.wrap IntKind.u8 ((1:Int)*(2:Int)^min (Int.toNat v0) (IntKind.bits IntKind.u8)) - (1:Int))) v1),())))) (.ret ((false,())))) (.ret ((false,())))))))):=by kernel_rfl
attribute [local irreducible] X9 H3 in
theorem a9Q:b1E.Valid Tryz.prog 10:=by
  refine p7.o6 a5G rfl rfl Tryz.func10 (c:=d9 Tryz.prog 10) rfl rfl a5C rfl ?_
  rintro ⟨(n0:Int),(g:Int),⟨⟩⟩ - ⟨-,(hg:0≤g∧g≤255),-⟩
  refine j5 (n:=1000) a5G a5C ?_
  refine g9 (c2h n0 g) ?_
  have hn:=c1h n0
  obtain ⟨n,hnn⟩:∃ n,n=R4 n0:=⟨_,rfl⟩
  rw [← hnn] at hn ⊢
  obtain ⟨hs1,hs2⟩:=c0G hn hg
  refine ⟨trivial,fun _=>⟨trivial,fun _=>⟨hn,fun _=>?_⟩⟩⟩
  suffices go:Go.Ex.Reach a4K Tryz.f10 (true,()) () (.code (f9 (d9 Tryz.prog 10) 9).1::.inLoop (f9 (d9 Tryz.prog 10) 9).1::(f9 (d9 Tryz.prog 10) 9).2) (a5F n g (((G7 n g 0).2:Nat):Int) n ((0:Nat):Int) (G7 n g 0).1.1.1 (G7 n g 0).1.1.2.1 (G7 n g 0).1.2.1 (G7 n g 0).1.2.2.1 (G7 n g 0).1.2.2.2.1) by exact go
  refine Reach.N3 a5G a5C (fun p:Nat=>a5F n g (((G7 n g p).2:Nat):Int) n (p:Int) (G7 n g p).1.1.1 (G7 n g p).1.1.2.1 (G7 n g p).1.2.1 (G7 n g p).1.2.2.1 (G7 n g p).1.2.2.2.1) (fun p=>p≤n.toNat) (fun p=>n.toNat - p) 1000 (fun _=>⟨u3 rfl,u3 rfl⟩) ?_ 0 (Nat.zero_le _)
  rintro p k1 - ih
  have k1:p≤n.toNat:=k1
  refine g9 (c0h ..) ?_
  have e1:((p:Nat):Int)+1=((p+1:Nat):Int):=by omega
  have ih1:p<n.toNat→_:=fun h=>ih (p+1) (by show p+1≤n.toNat; omega) (by show n.toNat - (p+1)<n.toNat - p; omega)
  obtain ⟨⟨said,hok⟩,hk⟩:=b3S (g:=g) hn p
  have hm:V8 g p=true↔R6 .u8 (g / 2^min p IntKind.u8.bits) 1=1:=decide_eq_true_iff
  have hs1:=hs1 p
  rw [G7] at ih1
  have e2:(((G7 n g p).2:Nat):Int)+1=(((G7 n g p).2+1:Nat):Int):=by omega
  generalize hr:G7 n g p=r at *
  simp only [j8,Tree.holds,true_and,true_implies,decide_eq_true_eq,decide_eq_false_iff_not,Bool.not_eq_true',Bool.not_eq_false',Int.toNat_natCast,j9,List.length_set,List.length_cons,List.length_nil,e1,e2]
  refine ⟨fun c=>⟨by omega,fun _=>⟨fun d=>⟨hok.R4,fun _=>⟨fun e=>absurd (hs1 (by omega) (hm.2 d)) e,fun e=>⟨j9.2 ⟨by omega,by omega⟩,fun _=>⟨j9.2 ⟨by omega,by omega⟩,fun _=>?_⟩⟩⟩⟩,fun d=>⟨j9.2 ⟨by omega,by omega⟩,fun _=>?_⟩⟩⟩,fun c=>?_⟩
  · have:=ih1 (by omega)
    rw [if_pos (hm.2 d)] at this
    exact this
  · have:=ih1 (by omega)
    rw [if_neg (fun h=>d (hm.1 h))] at this
    exact this
  obtain rfl:p=n.toNat:=by omega
  rw [hr] at hs2
  unfold b3d at hs2
  refine ⟨(hok.b3J (by omega)).change,fun _=>⟨j9.2 ⟨by omega,by omega⟩,fun _=>⟨fun d=>?_,fun d=>?_⟩⟩⟩
  · rw [if_pos d,Bool.and_eq_true,decide_eq_true_eq,decide_eq_true_eq] at hs2
    exact ⟨fun e=>congrArg (fun b:Bool=>((b,()):Bool×Unit)) (decide_eq_true hs2.2),fun e=>absurd hs2.1 e⟩
  · rw [if_neg d,Bool.and_eq_true,Bool.and_eq_true,decide_eq_true_eq,decide_eq_true_eq,decide_eq_true_eq] at hs2
    exact ⟨fun e=>⟨fun f=>⟨by omega,fun _=>congrArg (fun b:Bool=>((b,()):Bool×Unit)) (decide_eq_true hs2.2)⟩,fun f=>absurd hs2.1.2 f⟩,fun e=>absurd hs2.1.1 e⟩
end Go.Proofs.YtijlnmgondibnaaGreatDoor
