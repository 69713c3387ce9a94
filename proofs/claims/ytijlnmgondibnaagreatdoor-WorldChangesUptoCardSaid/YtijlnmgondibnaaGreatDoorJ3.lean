import Derived.Test.YtijlnmgondibnaaGreatDoorJ2
import Derived.Test.YtijlnmgondibnaaGreatDoorJ1
set_option linter.unusedVariables false
set_option linter.unusedSimpArgs false
set_option linter.unusedSectionVars false
namespace Go.Proofs.YtijlnmgondibnaaGreatDoor
open Go.Ex
set_option maxRecDepth 100000
def yn (S:Nat->List D8) (O:List D8) (n:C2):Prop :=
  (n.1=1->(S n.2.1.toNat)[n.2.2.2.2.1.toNat]?=some n.2.2.2.2.2.2.1)/\(n.1=2->O[n.2.2.2.2.1.toNat]?=some n.2.2.2.2.2.2.1)
def Ad (S:Nat->List D8) (O:List D8) (V:Int) (s:D8):Prop:=(x7 s).2.1=0->(x7 s).1.2.2.2.1<=V/\((x7 s).1.2.2.2.1=V->yn S O (x7 s).1)
structure Dw (said:Nat->List D8) (B:List D7) (S:Nat->List D8) (Q:List W7) (p:Nat) (x:n9) (m:Nat):Prop where
  le:m<=Q.length
  next:x.2.2.2.1.1=m
  wait:∀ q∈x.2.2.2.1.2.1,(Q4 Q)[q.1.toNat]?=some q.2.1
  log:x.2.1=B++(Q.take m).map xl
  from_:x.2.2.1=(((C5 p (Q.take m)).length:Int),(S p).drop (C5 p (Q.take m)).length,())
  ok:I7 x.2.2.1=0
structure Inv (said:Nat->List D8) (B:List D7) (S:Nat->List D8) (Q:List W7) (w:f9):Prop where
  K1:w.2.1.length<=6
  way:w.2.2.2.1.length<=60
  ord:w.2.2.1=Q4 Q
  inQ:∀ x∈Q,x.1<w.2.1.length
  zV:∀ p,C5 p Q <+: S p
  short:∀ p,(S p).length<=16777215
  msg:∀ s∈w.2.2.2.1,Ad S w.2.2.1 w.1.1 s
  rcv:∀ p:Nat,p<w.2.1.length->(w.2.1.getD p j8).2.2.2.2.1.1=(C5 p Q).length/\∀ q∈(w.2.1.getD p j8).2.2.2.2.1.2.1,(S p)[q.1.toNat]?=some q.2.1
  mem:∀ p:Nat,p<w.2.1.length->T1 w.1.2.1 p=true->(∃ m,Dw said B S Q p (w.2.1.getD p j8) m)/\said p=ofP p B++S p
  out:∀ p:Nat,p<w.2.1.length->T1 w.1.2.1 p=false->S p=[]/\ofP p B <+: said p
  Mr:∀ s∈B,0<=s.1/\s.1<(w.2.1.length:Int)
structure X4 (P:C2->Prop) (w w':f9):Prop where
  view:w'.1=w.1
  all:w'.2.1=w.2.1
  ord:w'.2.2.1=w.2.2.1
  len:w.2.2.2.1.length<=60->w'.2.2.2.1.length<=60
  way:∀ s∈w'.2.2.2.1,s∈w.2.2.2.1\/∃ n:C2,x7 s=(n,0,())/\n.2.2.2.1=w.1.1/\P n
theorem X4.refl {P:C2->Prop} (w:f9):X4 P w w:=⟨rfl,rfl,rfl,id,λ _ h=>.inl h⟩
theorem X4.trans {P:C2->Prop} {w w' w'':f9} (h:X4 P w w') (h':X4 P w' w''):X4 P w w'' :=
  ⟨h'.view.trans h.view,h'.all.trans h.all,h'.ord.trans h.ord,λ e=>h'.len (h.len e),λ s hs=>by
    rcases h'.way s hs with h1|⟨n,h1,h2,h3⟩
    . exact h.way s h1
    . exact .inr ⟨n,h1,by rw [h2,h.view],h3⟩⟩
theorem X4.one {P:C2->Prop} {w:f9} {k f t q:Int} {x:D8} (h:P (k,f,t,w.1.1,q,[0,0,0,0,0,0],x,())):X4 P w (N1 w k f t q x):=by
  by_cases c:(V2 (k,f,t,w.1.1,q,[0,0,0,0,0,0],x,())).2.1=0/\(w.2.2.2.1.length:Int)<60
  . rw [Kz c.1 c.2];refine ⟨rfl,rfl,rfl,λ _=>?_,λ s hs=>?_⟩
    . show (w.2.2.2.1++[_]).length<=60;rw [aAe];have:=c.2;simp only [aBw]; omega
    . rcases aAi.1 hs with hs|hs
      . exact .inl hs
      . rw [aBg] at hs;have hc:I5 (k,f,t,w.1.1,q,[0,0,0,0,0,0],x,())=0:=by
          by_cases hc:I5 (k,f,t,w.1.1,q,[0,0,0,0,0,0],x,())=0
          . exact hc
          . have:=c.1;rw [YH hc] at this;exact absurd this hc
        rw [YI hc] at hs;exact .inr ⟨_,by rw [hs]; exact c3R hc rfl,rfl,h⟩
  . rw [Fa c]; exact .refl w
theorem Inv.HA {said:Nat->List D8} {B:List D7} {S:Nat->List D8} {Q:List W7} {w w':f9} (h:Inv said B S Q w) (hs:X4 (yn S w.2.2.1) w w'):Inv said B S Q w':=by
  obtain ⟨h1,h2,h3,h4,h5,h6,h7,h8,h9,jf,jL⟩:=h;refine ⟨by rw [hs.all]; exact h1,hs.len h2,by rw [hs.ord]; exact h3,by rw [hs.all]; exact h4,h5,h6,?_,by rw [hs.all]; exact h8,by rw [hs.all,hs.view]; exact h9,by rw [hs.all,hs.view]; exact jf,by rw [hs.all]; exact jL⟩;intro s hm;rw [hs.view,hs.ord];rcases hs.way s hm with h|⟨n,e1,e2,e3⟩
  . exact h7 s h
  . intro _;rw [e1];exact ⟨by show n.2.2.2.1<=w.1.1; omega,λ _=>e3⟩
theorem Inv.E3 {said:Nat->List D8} {B:List D7} {S:Nat->List D8} {Q:List W7} {w:f9} (h:Inv said B S Q w) {p:Nat} {x:n9}
    (hr:p<w.2.1.length->x.2.2.2.2.1.1=(C5 p Q).length/\∀ q∈x.2.2.2.2.1.2.1,(S p)[q.1.toNat]?=some q.2.1)
    (hm:p<w.2.1.length->T1 w.1.2.1 p=true->∃ m,Dw said B S Q p x m):Inv said B S Q (w.1,w.2.1.set p x,w.2.2):=by
  obtain ⟨h1,h2,h3,h4,h5,h6,h7,h8,h9,jf,jL⟩:=h;have hl:(w.2.1.set p x).length=w.2.1.length:=aCa ..;refine ⟨by rw [hl]; exact h1,h2,h3,by rw [hl]; exact h4,h5,h6,h7,λ q hq=>?_,λ q hq hv=>?_,λ q hq hv=>?_,by show ∀ s∈B,0<=s.1/\s.1<((w.2.1.set p x).length:Int); rw [hl]; exact jL⟩
  . rw [hl] at hq;rw [Y1]
    split
    . rename_i e; rw [<- e.1]; exact hr e.2
    . exact h8 q hq
  . rw [hl] at hq;rw [Y1];refine ⟨?_,(h9 q hq hv).2⟩
    split
    . rename_i e; rw [<- e.1]; rw [<- e.1] at hv; exact hm e.2 hv
    . exact (h9 q hq hv).1
  . rw [hl] at hq;exact jf q hq hv
theorem yn.mono {S S':Nat->List D8} {O O':List D8} {n:C2} (h:yn S O n) (hS:∀ p,S p <+: S' p) (hO:O <+: O'):yn S' O' n :=
  ⟨λ e=>Ax (hS _) (h.1 e),λ e=>Ax hO (h.2 e)⟩
theorem Ad.mono {S S':Nat->List D8} {O O':List D8} {V:Int} {s:D8} (h:Ad S O V s) (hS:∀ p,S p <+: S' p) (hO:O <+: O'):Ad S' O' V s :=
  λ e=>⟨(h e).1,λ e2=>((h e).2 e2).mono hS hO⟩
def wm (f:Nat->List D8) (p:Nat) (x:List D8):Nat->List D8:=λ q=>if q=p then x else f q
theorem AJ {f:Nat->List D8} {p:Nat} {x:List D8}:wm f p x p=x:=if_pos rfl
theorem zr {f:Nat->List D8} {p q:Nat} {x:List D8} (h:q≠p):wm f p x q=f q:=if_neg h
theorem OP {s:vV} {x:D8} (h:¬ (R9 s x).2.1≠0):(R9 s x).1=(s.1,s.2.1++[x],())/\I7 (s.1,s.2.1++[x],())=0/\s.1+s.2.1.length<16777215:=by
  unfold R9 at h ⊢;by_cases h1:I7 s≠0
  . rw [if_pos h1] at h; exact absurd h1 h
  rw [if_neg h1] at h ⊢;have aM:=xY (aBq.1 h1);by_cases h2:E7 x=true
  . rw [if_pos h2] at h; exact absurd (by decide) h
  rw [if_neg h2] at h ⊢;by_cases h3:(s.2.1.length:Int)=16\/16777215<=s.1+s.2.1.length
  . rw [if_pos h3] at h; exact absurd (by decide) h
  rw [if_neg h3];have h4:¬ (s.2.1.length:Int)=16:=λ e=>h3 (.inl e);have h5:¬ 16777215<=s.1+s.2.1.length:=λ e=>h3 (.inr e);refine ⟨rfl,?_,by omega⟩;unfold I7;rw [if_neg (by rw [xb.2 aM.1]; decide),if_neg,if_neg]
  . rw [List.any_append,aM.2.2];simpa using h2
  . show ¬ (16:Int)<((s.2.1++[x]).length:Int);rw [aAe]; simp only [aBw];have:=aM.2.1;omega
theorem Inv.say {said:Nat->List D8} {B:List D7} {S:Nat->List D8} {Q:List W7} {w:f9} (h:Inv said B S Q w) {p:Nat} {t:D8} (hp:p<w.2.1.length) (hv:T1 w.1.2.1 p=true)
    (hl:¬ (R9 (wt w p) t).2.1≠0):Inv (wm said p (said p++[t])) B (wm S p (S p++[t])) Q (MP w p t (R9 (wt w p) t).1):=by
  obtain ⟨h1,h2,h3,h4,h5,h6,h7,h8,h9,jf,jL⟩:=h;obtain ⟨g1,g2,g3⟩:=OP hl;obtain ⟨⟨m,hm⟩,eJ⟩:=h9 p hp hv;have hf:wt w p=(((C5 p (Q.take m)).length:Int),(S p).drop (C5 p (Q.take m)).length,()):=hm.from_;have hle:(C5 p (Q.take m)).length<=(S p).length:=((zD (p:=p) (Q:=Q) (i:=m)).trans (h5 p)).length_le;rw [g1];rw [hf] at g2 g3 ⊢;simp only [aAq] at g3;have nj:(S p).drop (C5 p (Q.take m)).length++[t]=(S p++[t]).drop (C5 p (Q.take m)).length:=(aGk hle).symm;simp only [nj] at g2 ⊢;have hS:∀ q,S q <+: wm S p (S p++[t]) q:=λ q=>by
    by_cases e:q=p
    . subst e; rw [AJ]; exact aFc ..
    . rw [zr e]; exact aCe
  have hlen:(setFrom w p (((C5 p (Q.take m)).length:Int),(S p++[t]).drop (C5 p (Q.take m)).length,())).2.1.length=w.2.1.length:=aCa ..;have cB:∀ q,(setFrom w p (((C5 p (Q.take m)).length:Int),(S p++[t]).drop (C5 p (Q.take m)).length,())).2.1.getD q j8=if p=q then ((w.2.1.getD p j8).1,(w.2.1.getD p j8).2.1,(((C5 p (Q.take m)).length:Int),(S p++[t]).drop (C5 p (Q.take m)).length,()),(w.2.1.getD p j8).2.2.2) else w.2.1.getD q j8:=λ q=>by
    show (w.2.1.set p _).getD q j8=_;rw [Y1];by_cases e:p=q
    . rw [if_pos ⟨e,hp⟩,if_pos e]; rfl
    . rw [if_neg (λ h=>e h.1),if_neg e]
  have base:Inv (wm said p (said p++[t])) B (wm S p (S p++[t])) Q (setFrom w p (((C5 p (Q.take m)).length:Int),(S p++[t]).drop (C5 p (Q.take m)).length,())):=by
    refine ⟨by rw [hlen]; exact h1,h2,h3,by rw [hlen]; exact h4,λ q=>(h5 q).trans (hS q),λ q=>?_,λ s hs=>(h7 s hs).mono hS aCe,λ q hq=>?_,λ q hq hv=>?_,λ q hq hv=>?_,by rw [hlen]; exact jL⟩
    . by_cases e:q=p
      . subst e; rw [AJ,aAe]; simp only [aBw]; omega
      . rw [zr e]; exact h6 q
    . rw [hlen] at hq;rw [cB];by_cases e:p=q
      . subst e;rw [if_pos rfl];exact ⟨(h8 p hq).1,λ x hx=>Ax (hS p) ((h8 p hq).2 x hx)⟩
      . rw [if_neg e];exact ⟨(h8 q hq).1,λ x hx=>Ax (hS q) ((h8 q hq).2 x hx)⟩
    . rw [hlen] at hq;rw [cB];by_cases e:p=q
      . subst e;rw [if_pos rfl,AJ,AJ];refine ⟨⟨m,hm.le,hm.next,hm.wait,hm.log,?_,g2⟩,by rw [eJ,aAl]⟩;rw [AJ]
      . rw [if_neg e,zr (Ne.symm e),zr (Ne.symm e)];obtain ⟨⟨m',gz⟩,lI⟩:=h9 q hq hv;refine ⟨⟨m',gz.le,gz.next,gz.wait,gz.log,?_,gz.ok⟩,lI⟩;rw [zr (Ne.symm e)];exact gz.from_
    . rw [hlen] at hq;have e:q≠p:=by
        rintro rfl;have fK:T1 w.1.2.1 q=false:=hv;rename_i eT;rw [eT] at fK; cases fK
      rw [zr e,zr e];exact jf q hq hv
  refine base.HA (X4.one ⟨λ _=>?_,λ h=>by cases h⟩);show (wm S p (S p++[t]) ((p:Int)).toNat)[(((C5 p (Q.take m)).length:Int)+(((S p++[t]).drop (C5 p (Q.take m)).length).length:Int) - 1).toNat]?=some t;rw [show ((p:Int)).toNat=p from rfl,AJ];rw [aAq,aAe];simp only [aBw];rw [show (((C5 p (Q.take m)).length:Int)+(((S p).length+1 - (C5 p (Q.take m)).length:Nat):Int) - 1).toNat=(S p).length by omega];rw [aDv (aAj _),aHi]; rfl
section
variable {said:Nat->List D8} {B:List D7} {S:Nat->List D8} {Q:List W7} {w:f9}
theorem Ti {b most:Int} {l:List D8}:∀ {k:Nat},k<=l.length->∀ x∈xS b most l k,∃ i,i<l.length/\x=(b+i,l.getD i [],())
  | 0,_,x,h=>by cases h
  | k+1,hk,x,h=>by
    rw [xS] at h;rcases aAi.1 h with h|h
    . exact Ti (by omega) x h
    . split at h
      . rw [aBg] at h; exact ⟨k,by omega,h⟩
      . cases h
theorem Ul {P:C2->Prop} {p:Int} {l:List D7} {w:f9} (h:∀ x∈l,∀ f v,P (1,p,f,v,x.1,[0,0,0,0,0,0],x.2.1,())):∀ {k},k<=l.length->X4 P w (N6 p l w k)
  | 0,_=>.refl w
  | k+1,hk=>by
    rw [N6];refine (Ul h (by omega)).trans (X4.one (h _ ?_ _ _));rw [aAb,aAf (by omega)]; exact aCp _
theorem Inv.again (h:Inv said B S Q w) {p:Nat} (hp:p<w.2.1.length) (hv:T1 w.1.2.1 p=true) :
    Inv said B S Q (De (N6 p (yr w p) w (yr w p).length) p):=by
  refine h.HA ((Ul (λ x hx f v=>?_) (aAj _)).trans (X4.one ⟨λ e=>(by cases e),λ e=>(by cases e)⟩));refine ⟨λ _=>?_,λ e=>by cases e⟩;obtain ⟨⟨m,hm⟩,-⟩:=h.mem p hp hv;have hf:wt w p=(((C5 p (Q.take m)).length:Int),(S p).drop (C5 p (Q.take m)).length,()):=hm.from_;have pZ:I7 (wt w p)=0:=hm.ok;unfold yr wX at hx;rw [if_neg (by rw [pZ]; simp),hf] at hx;obtain ⟨i,hi,rfl⟩:=Ti (aAj _) x hx;show (S ((p:Int)).toNat)[(((C5 p (Q.take m)).length:Int)+(i:Int)).toNat]?=some (((S p).drop (C5 p (Q.take m)).length).getD i []);rw [show ((p:Int)).toNat=p from rfl,show (((C5 p (Q.take m)).length:Int)+(i:Int)).toNat=(C5 p (Q.take m)).length+i by omega];rw [<- aBi,aAb,aAf hi]; rfl
theorem Inv.UU (h:Inv said B S Q w) (p:Nat):Inv said B S Q (w.1,w.2.1.set p (true,(w.2.1.getD p j8).2),w.2.2):=by
  refine h.E3 (λ hp=>h.rcv p hp) (λ hp hv=>?_);obtain ⟨⟨m,hm⟩,-⟩:=h.mem p hp hv;exact ⟨m,hm.le,hm.next,hm.wait,hm.log,hm.from_,hm.ok⟩
theorem Inv.ways (h:Inv said B S Q w) {l:List D8} (hl:l.length<=60) (hm:∀ s∈l,s∈w.2.2.2.1):Inv said B S Q (w.1,w.2.1,w.2.2.1,l,()):=by
  obtain ⟨h1,h2,h3,h4,h5,h6,h7,h8,h9,jf,jL⟩:=h;exact ⟨h1,hl,h3,h4,h5,h6,λ s hs=>h7 s (hm s hs),h8,h9,jf,jL⟩
theorem Inv.drop (h:Inv said B S Q w) (k:Int):Inv said B S Q (ze w k):=by
  refine h.ways ?_ (λ s hs=>?_)
  . have:=h.way;rw [aAe,aAk,aAq];by_cases c:0<=k
    . omega
    . have e1:k.toNat=0:=by omega
      have e2:(k+1).toNat=0:=by omega
      rw [e1,e2]; omega
  . rcases aAi.1 hs with hs|hs
    . exact aFu hs
    . exact aEt hs
theorem Inv.copy (h:Inv said B S Q w) {k:Nat} (hk:k<w.2.2.2.1.length) (hn:¬ (w.2.2.2.1.length:Int)=60):Inv said B S Q (DC w k):=by
  refine h.ways ?_ (λ s hs=>?_)
  . have:=h.way;rw [aAe]; simp only [aBw]; omega
  . rcases aAi.1 hs with hs|hs
    . exact hs
    . rw [aBg] at hs;rw [hs,aAb,aAf hk]; exact aCp _
theorem Inv.asks (h:Inv said B S Q w) {n:C2} (h0:0<=n.2.2.2.2.1):∀ j,X4 (yn S w.2.2.1) w (G1 w n j)
  | 0=>.refl w
  | j+1=>by
    rw [G1]
    split
    . rename_i bf;refine (Inv.asks h h0 j).trans (X4.one ⟨λ e=>(by cases e),λ _=>?_⟩);rw [(AM j).2.2] at bf;show w.2.2.1[(n.2.2.2.2.1+j).toNat]?=some ((G1 w n j).2.2.1.getD (n.2.2.2.2.1+j).toNat []);rw [(AM j).2.2,aAb,aAf (by omega)]; rfl
    . exact Inv.asks h h0 j
structure Told (texts:List D8) (w w':f9):Prop where
  view:w'.1=w.1
  all:w'.2.1=w.2.1
  ord:w'.2.2.1=w.2.2.1++texts
  len:w.2.2.2.1.length<=60->w'.2.2.2.1.length<=60
  way:∀ s∈w'.2.2.2.1,s∈w.2.2.2.1\/∃ n:C2,x7 s=(n,0,())/\n.2.2.2.1=w.1.1/\n.1=2/\(w.2.2.1++texts)[n.2.2.2.2.1.toNat]?=some n.2.2.2.2.2.2.1
theorem Ub {x:D8} {w:f9} {P:C2->Prop} (h:∀ f t,P (2,f,t,w.1.1,(w.2.2.1.length:Int) - 1,[0,0,0,0,0,0],x,())):∀ p,X4 P w (H8 x w p)
  | 0=>.refl w
  | p+1=>by
    rw [H8];have ih:=Ub h p
    split
    . refine ih.trans (X4.one ?_);rw [ih.view,ih.ord];exact h _ _
    . exact ih
theorem told {f first:Int} {l:List D8} {w:f9}:∀ {i},i<=l.length->Told ((l.take i).mapIdx (λ j t=>J5 f (first+j) t)) w (J6 f first l w i)
  | 0,_=>⟨rfl,rfl,by simp [J6],id,λ s h=>.inl h⟩
  | i+1,hi=>by
    have ih:=told (f:=f) (first:=first) (w:=w) (show i<=l.length by omega);rw [J6];obtain ⟨u,hu⟩:∃ u,u=J6 f first l w i:=⟨_,rfl⟩
    obtain ⟨x,hx⟩:∃ x,x=J5 f (first+i) (l.getD i []):=⟨_,rfl⟩;rw [<- hu] at ih ⊢;rw [<- hx];have nT:(l.take (i+1)).mapIdx (λ j t=>J5 f (first+j) t)=(l.take i).mapIdx (λ j t=>J5 f (first+j) t)++[x]:=by
      rw [Fu (show i<l.length by omega) [],List.mapIdx_append,hx];simp only [aAk];rw [show min i l.length=i by omega];simp
    rw [nT];have hp:(Aa u x).2.2.1=w.2.2.1++((l.take i).mapIdx (λ j t=>J5 f (first+j) t)++[x]):=by
      show u.2.2.1++[x]=_;rw [ih.ord,aAl]
    have hc:=Ub (x:=x) (w:=Aa u x) (P:=λ n=>n.1=2/\(Aa u x).2.2.1[n.2.2.2.2.1.toNat]?=some n.2.2.2.2.2.2.1) (λ f t=>⟨rfl,by
      show (u.2.2.1++[x])[(((u.2.2.1++[x]).length:Int) - 1).toNat]?=some x;rw [aAe];simp only [aBw];rw [show (((u.2.2.1.length+1:Nat):Int) - 1).toNat=u.2.2.1.length by omega];rw [aDv (aAj _),aHi]; rfl⟩) u.2.1.length
    refine ⟨hc.view.trans ih.view,hc.all.trans ih.all,hc.ord.trans hp,λ e=>hc.len (ih.len e),λ s hs=>?_⟩;rcases hc.way s hs with hs|⟨n,e1,e2,e3,e4⟩
    . rcases ih.way s hs with hs|⟨n,e1,e2,e3,e4⟩
      . exact .inl hs
      . refine .inr ⟨n,e1,e2,e3,?_⟩;rw [<- aAl];exact Ax (aFc ..) e4
    . refine .inr ⟨n,e1,?_,e3,?_⟩
      . rw [e2];show u.1.1=w.1.1;rw [ih.view]
      . rw [<- hp]; exact e4
structure d0h (S:Nat->List D8) (w:f9) (n:C2):Prop where
  msg:yn S w.2.2.1 n
  seq:0<=n.2.2.2.2.1
theorem Uj {P:List W7} {p:Nat}:∀ {l:List D8} {c:Nat},(C5 p P).length=c->N8 P (l.map λ t=>(p,t))=l.mapIdx (λ j t=>J5 p ((c:Int)+j) t)
  | [],_,_=>rfl
  | t::l,c,h=>by
    rw [aDb,N8,List.mapIdx_cons,Uj (c:=c+1) (by rw [yI,aAe,h]; simp [C5])];rw [h];have e:(λ(j:Nat) (t:D8)=>J5 (p:Int) (((c+1:Nat):Int)+j) t)=λ j t=>J5 p ((c:Int)+((j+1:Nat):Int)) t:=by
      funext j t
      rw [show ((c+1:Nat):Int)+(j:Int)=(c:Int)+((j+1:Nat):Int) by omega]
    refine congr (congrArg List.cons ?_) (congrArg (λ f=>List.mapIdx f l) e);show J5 p c t=J5 p ((c:Int)+((0:Nat):Int)) t;rw [show (c:Int)+((0:Nat):Int)=c by omega]
theorem Inv.order (h:Inv said B S Q w) {n:C2} (hk:¬ known w n.2.1≠0) (hm:(S n.2.1.toNat)[n.2.2.2.2.1.toNat]?=some n.2.2.2.2.2.2.1) :
    ∃ Q',Inv said B S Q' (Y5 w n):=by
  by_cases he:(Z7 w n).2.2.1≠0
  . refine ⟨Q,?_⟩;rw [Y5,if_pos he]; exact h
  rw [Y5,if_neg he];obtain ⟨v,al,rr⟩:=w;have nZ:=EN hk;obtain ⟨p,hp⟩:∃ p:Nat,n.2.1=p:=⟨n.2.1.toNat,by omega⟩;have cd:p<al.length:=by omega
  rw [hp] at hm ⊢;have lG:Z7 (v,al,rr) n=D9 (al.getD p j8).2.2.2.2.1 (n.2.2.2.2.1,n.2.2.2.2.2.2.1,()):=by rw [Z7,hp]; rfl
  rw [lG] at he ⊢;obtain ⟨lK,mm⟩:=h.rcv p cd;obtain ⟨r,hr⟩:∃ r,r=D9 (al.getD p j8).2.2.2.2.1 (n.2.2.2.2.1,n.2.2.2.2.2.2.1,()):=⟨_,rfl⟩;have lj:=aBq.1 he;obtain ⟨a1,a2,a3,a4,a5,a6⟩:=zx lj;have fN:=RQ (F:=λ i=>(S p)[i]?) lj mm hm;rw [<- hr] at lj a1 a2 a3 a5 a6 fN ⊢;have pb:((al.getD p j8).2.2.2.2.1.1).toNat=(C5 p Q).length:=by
    have:(al.getD p j8).2.2.2.2.1.1=(C5 p Q).length:=lK;omega
  have mo:(al.getD p j8).2.2.2.2.1.1=((C5 p Q).length:Int):=lK;have hl:=YQ (X:=S p) (l:=r.2.1) (r:=(C5 p Q).length) (λ i hi=>by rw [<- pb]; exact fN i hi);have hT:=told (f:=(p:Int)) (first:=(C5 p Q).length) (l:=r.2.1) (w:=a12 (v,al,rr) p (yz (P8 (v,al,rr) p) r.1)) (aAj _);have lg:(P8 (v,al,rr) (p:Int)).2.2.2.2.1.1=((C5 p Q).length:Int):=lK;rw [lg];rw [aDo] at hT;have qe:r.2.1.mapIdx (λ j t=>J5 (p:Int) (((C5 p Q).length:Int)+j) t)=N8 Q (r.2.1.map λ t=>(p,t)):=(Uj rfl).symm;rw [qe] at hT;obtain ⟨u,hu⟩:∃ u,u=J6 (p:Int) ((C5 p Q).length:Int) r.2.1 (a12 (v,al,rr) p (yz (P8 (v,al,rr) p) r.1)) r.2.1.length:=⟨_,rfl⟩;rw [<- hu] at hT ⊢;have hQ:∀ q,C5 q (Q++r.2.1.map λ t=>(p,t))=C5 q Q++if p=q then r.2.1 else []:=λ q=>by rw [yI,Xw]
  have bD:u.2.1=al.set p (yz (al.getD p j8) r.1):=hT.all;have hlen:u.2.1.length=al.length:=by rw [bD,aCa]
  have iw:u.1=v:=hT.view;have pr:u.2.2.1=Q4 (Q++r.2.1.map λ t=>(p,t)):=by
    rw [hT.ord,Rg];congr 1;exact h.ord
  have mr:rr.1 <+: u.2.2.1:=⟨_,hT.ord.symm⟩;have cB:∀ q,u.2.1.getD q j8=if p=q then yz (al.getD p j8) r.1 else al.getD q j8:=λ q=>by
    rw [bD,Y1];by_cases e:p=q
    . rw [if_pos ⟨e,cd⟩,if_pos e]
    . rw [if_neg (λ h=>e h.1),if_neg e]
  refine ⟨Q++r.2.1.map λ t=>(p,t),by rw [hlen]; exact h.K1,hT.len h.way,pr,λ x hx=>?_,λ q=>?_,h.short,λ s hs=>?_,λ q hq=>?_,λ q hq hv=>?_,λ q hq hv=>?_,by rw [hlen]; exact h.Mr⟩
  . rw [hlen];rcases aAi.1 hx with hx|hx
    . exact h.inQ x hx
    . obtain ⟨t,-,rfl⟩:=aCu.1 hx;exact cd
  . rw [hQ];by_cases e:p=q
    . subst e;rw [if_pos rfl];have bc:C5 p Q=(S p).take (C5 p Q).length:=aGy.1 (h.zV p);have:C5 p Q++r.2.1=(S p).take ((C5 p Q).length+r.2.1.length):=by
        rw [List.take_add,<- hl,<- bc]
      rw [this];exact List.take_prefix ..
    . rw [if_neg e,aBc]; exact h.zV q
  . rw [iw];rcases hT.way s hs with hs|⟨m,e1,e2,e3,e4⟩
    . exact (h.msg s hs).mono (λ _=>aCe) mr
    . intro _;rw [e1];refine ⟨Int.le_of_eq e2,λ _=>⟨λ e=>?_,λ _=>?_⟩⟩
      . have e3:m.1=2:=e3;have e:m.1=1:=e;omega
      . rw [hT.ord]; exact e4
  . rw [hlen] at hq;rw [cB,hQ];by_cases e:p=q
    . subst e;rw [if_pos rfl,if_pos rfl];refine ⟨?_,λ x hx=>?_⟩
      . show r.1.1=_;rw [a5,mo,aAe]; omega
      . rcases a2 x hx with rfl|hx
        . exact hm
        . exact mm x hx
    . rw [if_neg e,if_neg e,aBc]; exact h.rcv q hq
  . rw [hlen] at hq;rw [iw] at hv;obtain ⟨⟨m,hm⟩,hs⟩:=h.mem q hq hv;refine ⟨⟨m,?_⟩,hs⟩;have bn:Dw said B S (Q++r.2.1.map λ t=>(p,t)) q (al.getD q j8) m:=by
      have lG:(Q++r.2.1.map λ t=>(p,t)).take m=Q.take m:=aDp hm.le;refine ⟨by rw [aAe]; have:=hm.le; omega,hm.next,λ x hx=>?_,by rw [lG]; exact hm.log,by rw [lG]; exact hm.from_,hm.ok⟩;rw [Rg];exact Ax (aFc ..) (hm.wait x hx)
    rw [cB];by_cases e:p=q
    . subst e;rw [if_pos rfl];exact ⟨bn.le,bn.next,bn.wait,bn.log,bn.from_,bn.ok⟩
    . rw [if_neg e]; exact bn
  . rw [hlen] at hq;rw [iw] at hv;exact h.out q hq hv
end
end Go.Proofs.YtijlnmgondibnaaGreatDoor
namespace Go.Proofs.YtijlnmgondibnaaGreatDoor
open Go.Ex
set_option maxRecDepth 100000
theorem Qk {b:Int} {l:List D8} (h1:0<=b/\b<=16777215) (h2:l.length<=16) (h3:l.any E7=false):I7 (b,l,())=0:=by
  unfold I7;rw [if_neg (by rw [xb.2 h1]; decide),if_neg (by show ¬ (16:Int)<(l.length:Int); omega),if_neg (by rw [h3]; decide)]
theorem Qx {l:List D8} {k:Nat} (h:l.any E7=false):(l.drop k).any E7=false:=by
  rw [List.any_eq_false] at h ⊢;exact λ x hx=>h x (aEt hx)
theorem Vm {k:Nat} {l:List D8} (h:I7 ((k:Int),l,())=0) (hl:1<=l.length) (hb:k+l.length<=16777215) :
    S7 ((k:Int),l,()) ((k:Int)+1)=((((k+1:Nat):Int),l.drop 1,()),0,())/\I7 (((k+1:Nat):Int),l.drop 1,())=0:=by
  have aM:=xY h;have ha:ahd (k:Int) ((k:Int)+1)=1:=by unfold ahd; rw [if_neg (by omega)]; omega
  constructor
  . unfold S7;rw [if_neg (by rw [h]; decide),if_neg (by show ¬ (k:Int)+(l.length:Int)<(k:Int)+1; omega)];simp only;rw [ha];rfl
  . exact Qk ⟨by omega,by omega⟩ (by rw [aAq]; have:=aM.2.1; simp only at this; omega) (Qx aM.2.2)
section
variable {said:Nat->List D8} {B:List D7} {S:Nat->List D8} {Q:List W7} {w:f9}
structure Bo (B:List D7) (S:Nat->List D8) (Q:List W7) (p m:Nat) (x:n9):Prop where
  log:x.2.1=B++(Q.take m).map xl
  from_:x.2.2.1=(((C5 p (Q.take m)).length:Int),(S p).drop (C5 p (Q.take m)).length,())
  ok:I7 x.2.2.1=0
theorem c1o {p m q:Nat} {x:n9} {s:D8} (h:Bo B S Q p m x) (hQ:Q[m]?=some (q,s)) (hq:q<=5) (bc:∀ p,C5 p Q <+: S p) (cg:∀ p,(S p).length<=16777215) :
    Bo B S Q p (m+1) (wq p x (J5 q (C5 q (Q.take m)).length s))/\(wq p x (J5 q (C5 q (Q.take m)).length s)).2.2.2=x.2.2.2/\(wq p x (J5 q (C5 q (Q.take m)).length s)).1=x.1:=by
  have hm:m<Q.length:=by
    by_cases hm:m<Q.length
    . exact hm
    . rw [aBx (by omega)] at hQ; cases hQ
  have eH:Q.take (m+1)=Q.take m++[(q,s)]:=by
    rw [aGc,hQ]; rfl
  have qj:∀ p,(C5 p (Q.take (m+1))).length<=(S p).length:=λ p=>((zD (p:=p) (Q:=Q) (i:=m+1)).trans (bc p)).length_le;have hk:(C5 q (Q.take m)).length<=16777300:=by
    have h1:=((zD (p:=q) (Q:=Q) (i:=m)).trans (bc q)).length_le;have:=cg q;omega
  have hw:who (J5 q (C5 q (Q.take m)).length s)=q:=YY hq;have hn:nth (J5 q (C5 q (Q.take m)).length s)=(C5 q (Q.take m)).length:=Qs hk;have ht:xm (J5 q (C5 q (Q.take m)).length s)=s:=c3t;have gB:x.2.1++[((q:Int),s,())]=B++(Q.take (m+1)).map xl:=by
    rw [h.log,eH,aEx,aAl]; rfl
  by_cases e:q=p
  . subst e;have hc:=qj q;rw [eH,yI] at hc;have h1:C5 q [(q,s)]=[s]:=by simp [C5]
    rw [h1,aAe] at hc;simp only [aBw] at hc;have aM:=h.ok;rw [h.from_] at aM;obtain ⟨g1,g2⟩:=Vm aM (by rw [aAq]; omega) (by rw [aAq]; have:=cg q; omega);have hl:S7 x.2.2.1 (nth (J5 q (C5 q (Q.take m)).length s)+1)=(((((C5 q (Q.take m)).length+1:Nat):Int),((S q).drop (C5 q (Q.take m)).length).drop 1,()),0,()):=by
      rw [h.from_,hn]; exact g1
    rw [KG hw (by rw [hl]),hl,hw,ht];refine ⟨⟨gB,?_,g2⟩,rfl,rfl⟩;show (((((C5 q (Q.take m)).length+1:Nat):Int),((S q).drop (C5 q (Q.take m)).length).drop 1,()):FrD)=_;rw [eH,yI,h1,aAe,aBj]; rfl
  . rw [EL (λ c=>e (by have:=c.1; rw [hw] at this; exact_mod_cast this)),hw,ht];refine ⟨⟨gB,?_,h.ok⟩,rfl,rfl⟩;have h1:C5 p [(q,s)]=[]:=by simp [C5,e]
    rw [eH,yI,h1,aBc];exact h.from_
theorem Sw {p m:Nat} {x:n9} {l:List D8} (h:Bo B S Q p m x) (hl:∀ i,i<l.length->(Q4 Q)[m+i]?=l[i]?) (hq:∀ y∈Q,y.1<=5) (bc:∀ p,C5 p Q <+: S p) (cg:∀ p,(S p).length<=16777215) :
    ∀ {i},i<=l.length->Bo B S Q p (m+i) (K7 p x l i)/\(K7 p x l i).2.2.2=x.2.2.2/\(K7 p x l i).1=x.1
  | 0,_=>⟨h,rfl,rfl⟩
  | i+1,hi=>by
    obtain ⟨g1,g2,g3⟩:=Sw h hl hq bc cg (show i<=l.length by omega);have h1:=hl i (by omega);rw [Rh,aAf (show i<l.length by omega)] at h1;cases hQ:Q[m+i]? with
    | none=>rw [hQ] at h1; cases h1
    | some y =>
      obtain ⟨q,s⟩:=y;rw [hQ] at h1;have h2:J5 q (C5 q (Q.take (m+i))).length s=l[i]:=by simpa using h1
      have hy:=hq (q,s) (aEu hQ);obtain ⟨k1,k2,k3⟩:=c1o (p:=p) g1 hQ hy bc cg;rw [K7,show l.getD i []=J5 q (C5 q (Q.take (m+i))).length s by rw [h2,aAb,aAf (show i<l.length by omega)]; rfl];exact ⟨k1,k2.trans g2,k3.trans g3⟩
theorem Inv.le5 (h:Inv said B S Q w):∀ y∈Q,y.1<=5:=λ y hy=>by have:=h.inQ y hy; have:=h.K1; omega
theorem Inv.take (h:Inv said B S Q w) {n:C2} {p:Nat} (hp:n.2.2.1=p) (cd:p<w.2.1.length) (hv:T1 w.1.2.1 p=true) (hm:w.2.2.1[n.2.2.2.2.1.toNat]?=some n.2.2.2.2.2.2.1) :
    Inv said B S Q (vM w n):=by
  by_cases he:(S5 w n).2.2.1≠0
  . rw [vM,if_pos he]; exact h
  rw [vM,if_neg he,hp];have lG:S5 w n=D9 (w.2.1.getD p j8).2.2.2.1 (n.2.2.2.2.1,n.2.2.2.2.2.2.1,()):=by rw [S5,hp]; rfl
  rw [lG] at he ⊢;have lj:=aBq.1 he;obtain ⟨⟨m,hM⟩,eJ⟩:=h.mem p cd hv;rw [h.ord] at hm;obtain ⟨a1,a2,a3,a4,a5,a6⟩:=zx lj;have fN:=RQ (F:=λ i=>(Q4 Q)[i]?) lj hM.wait hm;obtain ⟨r,hr⟩:∃ r,r=D9 (w.2.1.getD p j8).2.2.2.1 (n.2.2.2.2.1,n.2.2.2.2.2.2.1,()):=⟨_,rfl⟩;rw [<- hr] at lj a1 a2 a3 a5 a6 fN ⊢;have jW:=hM.next;have fN:∀ i,i<r.2.1.length->(Q4 Q)[m+i]?=r.2.1[i]?:=λ i hi=>by
    have:=fN i hi;rw [jW] at this;exact this
  have hH:Bo B S Q p m (Bw (P8 w (p:Int)) r.1):=⟨hM.log,hM.from_,hM.ok⟩;obtain ⟨k1,k2,k3⟩:=Sw hH fN h.le5 h.zV h.short (aAj _);refine h.E3 (p:=p) (λ _=>?_) (λ _ _=>⟨m+r.2.1.length,?_⟩)
  . rw [k2];exact h.rcv p cd
  . refine ⟨?_,?_,?_,k1.log,k1.from_,k1.ok⟩
    . rcases Nat.eq_zero_or_pos r.2.1.length with h0|h0
      . rw [h0]; exact hM.le
      . have h1:=fN (r.2.1.length - 1) (by omega);rw [aAf (show r.2.1.length - 1<r.2.1.length by omega)] at h1;have h2:m+(r.2.1.length - 1)<(Q4 Q).length:=by
          by_cases h2:m+(r.2.1.length - 1)<(Q4 Q).length
          . exact h2
          . rw [aBx (by omega)] at h1; cases h1
        rw [c4E] at h2;omega
    . rw [k2];show r.1.1=_;rw [a5,jW]; omega
    . rw [k2];intro x hx;rcases a2 x hx with rfl|hx
      . exact hm
      . exact hM.wait x hx
theorem Inv.XR (h:Inv said B S Q w) {n:C2} (h0:0<=n.2.2.2.2.1) (hm:yn S w.2.2.1 n) (ha:s8 w n.2.2.1=true):∃ Q',Inv said B S Q' (H2 w n):=by
  by_cases hk:known w n.2.1≠0
  . exact ⟨Q,by rw [TE hk]; exact h⟩
  by_cases c1:n.1=1
  . rw [UA hk c1]; exact h.order hk (hm.1 c1)
  by_cases c3:n.1=3
  . refine ⟨Q,?_⟩;rw [Uz hk c3]; exact h.HA (h.asks h0 4)
  by_cases c2:n.1=2
  . refine ⟨Q,?_⟩;rw [Us hk c2];obtain ⟨p,hp,cd,hv,-⟩:=CF.1 ha;exact h.take hp cd hv (hm.2 c2)
  . exact ⟨Q,by rw [Ur c1 c3 c2]; exact h⟩
theorem QB {s:D8} (h:(x7 s).2.1=0):0<=(x7 s).1.2.2.2.2.1/\(x7 s).1.2.2.2.2.1<=16777215:=(KB (XG h).1).seq
theorem Inv.VS (h:Inv said B S Q w) {bC:Int} {s:D8} (hs:Ad S w.2.2.1 w.1.1 s):∃ Q',Inv said B S Q' (xr w bC s):=by
  by_cases c:bC=1/\(x7 s).2.1=0/\(x7 s).1.2.2.2.1=w.1.1/\s8 w (x7 s).1.2.2.1=true
  . rw [Tr c];exact h.XR (QB c.2.1).1 ((hs c.2.1).2 c.2.2.1) c.2.2.2
  . exact ⟨Q,by rw [RV c]; exact h⟩
theorem Inv.move (h:Inv said B S Q w) (k bC:Int):∃ Q',Inv said B S Q' (G7 w k bC).1:=by
  by_cases c1:J3 bC 1 3=false
  . exact ⟨Q,by rw [RU c1]; exact h⟩
  by_cases c2:J3 k 0 ((w.2.2.2.1.length:Int) - 1)=false
  . exact ⟨Q,by rw [Tq c1 c2]; exact h⟩
  have hk:=W5.1 (aEm _▸c2:J3 k 0 ((w.2.2.2.1.length:Int) - 1)=true);by_cases c3:bC=3
  . by_cases c4:(w.2.2.2.1.length:Int)=60
    . exact ⟨Q,by rw [SM c1 c2 c3 c4]; exact h⟩
    . refine ⟨Q,?_⟩;rw [SL c1 c2 c3 c4];exact h.copy (by omega) c4
  . rw [Kg c1 c2 c3];refine (h.drop k).VS ?_;refine h.msg _ ?_;rw [aAb,aAf (by omega)]; exact aCp _
end
end Go.Proofs.YtijlnmgondibnaaGreatDoor
namespace Go.Proofs.YtijlnmgondibnaaGreatDoor
open Go.Ex
set_option maxRecDepth 100000
theorem AB {x:Int} (h:0<=x/\x<=255) {p:Nat} (hp:p<8):T1 x p=bit x p:=by
  have key:∀ n:Fin 256,∀ i:Fin 8,T1 ((n.val:Nat):Int) i.val=bit ((n.val:Nat):Int) i.val:=by decide +kernel
  have:=key ⟨x.toNat,by omega⟩ ⟨p,hp⟩;simpa [show ((x.toNat:Nat):Int)=x by omega] using this
theorem XD {k i:Nat} (hk:k<8) (hi:i<8):bit (IntKind.wrap .u8 (1*2^min ((k:Nat):Int).toNat IntKind.u8.bits)) i=decide (i=k):=by
  have key:∀ k:Fin 8,∀ i:Fin 8,bit (IntKind.wrap .u8 (1*2^min ((k.val:Nat):Int).toNat IntKind.u8.bits)) i.val=decide (i.val=k.val):=by decide +kernel
  exact key ⟨k,hk⟩ ⟨i,hi⟩
theorem QN (i:Nat):bit 0 i=false:=by
  show (0:Nat).testBit i=false;simp
theorem EK {w:f9} (hv:0<=w.1.2.1/\w.1.2.1<=255):∀ {k:Nat},k<=8->r9 .u8 (D4 w k)/\∀ i,i<8->bit (D4 w k) i=(decide (i<k) && T1 w.1.2.1 i && !s8 w i)
  | 0,_=>⟨u8_in.2 ⟨aEb 0,by show (0:Int)<=255; decide⟩,λ i _=>by
      show bit 0 i=_;rw [QN]; simp⟩
  | k+1,hk=>by
    obtain ⟨h1,h2⟩:=EK hv (show k<=8 by omega);rw [D4,Ql];by_cases a:s8 w k=true
    . rw [if_pos a];refine ⟨h1,λ i hi=>?_⟩;rw [h2 i hi];by_cases e:i=k
      . subst e;rw [a]; simp
      . rw [show decide (i<k+1)=decide (i<k) by by_cases c:i<k<;>simp [c]<;>omega]
    . rw [if_neg a];refine ⟨HE,λ i hi=>?_⟩;rw [Nk u8s h1 Nf,Pd u8s (u8_in.2 hv) (U7 _ _),XD (by omega) hi,h2 i hi,<- AB hv hi];by_cases e:i=k
      . subst e;have a':s8 w i=false:=by simpa using a
        rw [a']; simp
      . rw [show decide (i<k+1)=decide (i<k) by by_cases c:i<k<;>simp [c]<;>omega];simp [e]
theorem Qr {v:vK} {g:Int} (h:¬ (R5 v g 0).2.1≠0):(R5 v g 0).1=(v.1+1,bOr .u8 (S8 .u8 v.2.1 g) 0,())/\v.1<16777215/\0<=v.1:=by
  unfold R5 at h ⊢;by_cases c1:Q7 v≠0
  . rw [if_pos c1] at h; exact absurd c1 h
  rw [if_neg c1] at h ⊢;split at h
  . exact absurd (by decide) h
  rename_i c2;rw [if_neg c2];split at h
  . exact absurd (by decide) h
  rename_i c3;rw [if_neg c3];split at h
  . exact absurd (by decide) h
  rename_i c4;rw [if_neg c4];split at h
  . exact absurd (by decide) h
  rename_i c5;rw [if_neg c5];refine ⟨rfl,?_⟩;unfold Q7 at c1;split at c1
  . exact absurd (by decide) c1
  . rename_i c6;omega
theorem members {w:f9} (hf:w.2.1.length<=6) (hv:0<=w.1.2.1/\w.1.2.1<=255) (hn:¬ (L7 w).2.1≠0) :
    (E2 w).1.1=w.1.1+1/\(0<=(E2 w).1.2.1/\(E2 w).1.2.1<=255)/\∀ p,p<w.2.1.length->T1 (E2 w).1.2.1 p=s8 w p:=by
  obtain ⟨h1,h2⟩:=Qr hn;have he:(E2 w).1=(w.1.1+1,bOr .u8 (S8 .u8 w.1.2.1 (D4 w w.2.1.length)) 0,()):=h1;obtain ⟨g1,g2⟩:=EK hv (show w.2.1.length<=8 by omega);rw [he];refine ⟨rfl,u8_in.1 HE,λ p hp=>?_⟩;have z0:r9 .u8 (0:Int):=u8_in.2 ⟨by decide,by decide⟩;show T1 (bOr .u8 (S8 .u8 w.1.2.1 (D4 w w.2.1.length)) 0) p=s8 w p;rw [AB (u8_in.1 HE) (by omega),Nk u8s AL z0,SZ u8s (u8_in.2 hv) g1,g2 p (by omega),QN,<- AB hv (by omega),decide_eq_true hp];cases hm:T1 w.1.2.1 p with
  | true=>simp
  | false =>
    have:s8 w p=false:=by
      cases ha:s8 w p with
      | false=>rfl
      | true=>have:=(yJ.1 ha).2.1; rw [hm] at this; cases this
    rw [this]; rfl
theorem KJ {w:f9}:∀ {k:Nat},J0 w k=[]\/∃ i,i<k/\s8 w i=true/\J0 w k=(w.2.1.getD i j8).2.1
  | 0=>.inl rfl
  | k+1=>by
    rw [J0]
    split
    . rename_i h; exact .inr ⟨k,by omega,h.1,rfl⟩
    . rcases KJ (w:=w) (k:=k) with h|⟨i,h1,h2,h3⟩
      . exact .inl h
      . exact .inr ⟨i,by omega,h2,h3⟩
theorem TO {f:Nat->n9->n9} {l:List n9} {p:Nat} (hp:p<l.length):(l.mapIdx f).getD p j8=f p (l.getD p j8):=by
  rw [aAb,aHp,aAb,aAf hp]; rfl
theorem Zf {α:Type} {l:List α} {c:Nat}:l.drop (min c l.length)=l.drop c:=by
  by_cases h:c<=l.length
  . rw [aCc h]
  . rw [Nat.min_eq_right (by omega),List.drop_length,aDr (by omega)]
section
variable {said:Nat->List D8} {B:List D7} {S:Nat->List D8} {Q:List W7} {w:f9}
theorem Inv.long (h:Inv said B S Q w) {p0:Nat} (lN:p0<w.2.1.length) (ov:s8 w p0=true) :
    ∃ m,m<=Q.length/\J0 w w.2.1.length=B++(Q.take m).map xl/\∀ p,p<w.2.1.length->s8 w p=true->∀ j,Dw said B S Q p (w.2.1.getD p j8) j->j<=m:=by
  rcases KJ (w:=w) (k:=w.2.1.length) with hL|⟨i,hi,tP,hL⟩
  . have hz:∀ p,p<w.2.1.length->s8 w p=true->(w.2.1.getD p j8).2.1=[]:=λ p hp fg=>by
      have:=EA fg hp;rw [hL] at this;exact List.eq_nil_of_length_eq_zero (by simpa using this)
    obtain ⟨⟨j,hj⟩,-⟩:=h.mem p0 lN (yJ.1 ov).2.1;have h0:=hj.log;rw [hz p0 lN ov] at h0;have hB:B=[]:=(aBm.1 h0.symm).1;refine ⟨0,aAz _,by rw [hL,hB]; rfl,λ p hp fg j hj=>?_⟩;have h0:=hj.log;rw [hz p hp fg] at h0;have h1:=(aBm.1 h0.symm).2;have h2:=congrArg List.length h1;rw [aAn,aAk] at h2;have:=hj.le;simp only [aCh] at h2;omega
  . obtain ⟨⟨m,hm⟩,-⟩:=h.mem i hi (yJ.1 tP).2.1;refine ⟨m,hm.le,by rw [hL,hm.log],λ p hp fg j hj=>?_⟩;have:=EA fg hp;rw [hL,hm.log,hj.log,aAe,aAe,aAn,aAn,aAk,aAk] at this;have h1:=hj.le;have h2:=hm.le;omega
theorem Inv.change (h:Inv said B S Q w) (hv:0<=w.1.2.1/\w.1.2.1<=255) (hn:¬ (L7 w).2.1≠0) :
    ∃ B' S',Inv said B' S' [] (E2 w)/\(∀ p,p<w.2.1.length->s8 w p=true->(E2 w).2.1.getD p j8=((w.2.1.getD p j8).1,B',(0,S' p,()),(0,[],()),(0,[],()),())) /\
      (∀ p,p<w.2.1.length->(w.2.1.getD p j8).2.1 <+: ((E2 w).2.1.getD p j8).2.1):=by
  obtain ⟨eT,kG,jP⟩:=members h.K1 hv hn;have hlen:(E2 w).2.1.length=w.2.1.length:=aEf ..;have cB:∀ p:Nat,p<w.2.1.length->(E2 w).2.1.getD p j8=vr w (J0 w w.2.1.length) p (w.2.1.getD p j8):=λ p hp=>TO hp;have gO:∀ p:Nat,p<w.2.1.length->s8 w p=false->(E2 w).2.1.getD p j8=((w.2.1.getD p j8).1,(w.2.1.getD p j8).2.1,(w.2.1.getD p j8).2.2.1,(w.2.1.getD p j8).2.2.2.1,(0,[],()),()):=λ p hp ha=>by
    rw [cB p hp,vr,if_neg (by rw [ha]; decide)]
  have mP:∀ S',∀ s∈w.2.2.2.1,Ad S' [] (w.1.1+1) s:=λ S' s hs e=>by
    have:=(h.msg s hs e).1;exact ⟨by omega,λ e2=>absurd e2 (by omega)⟩
  by_cases hex:∃ p0:Nat,p0<w.2.1.length/\s8 w p0=true
  . obtain ⟨p0,lN,ov⟩:=hex;obtain ⟨m,uQ,hL,jC⟩:=h.long lN ov;rw [hL] at cB;obtain ⟨S',iR⟩:∃ S':Nat->List D8,S'=λ p=>if p<w.2.1.length/\s8 w p=true then (S p).drop (C5 p (Q.take m)).length else []:=⟨_,rfl⟩
    have gw:∀ p:Nat,p<w.2.1.length->s8 w p=true->S' p=(S p).drop (C5 p (Q.take m)).length:=λ p hp ha=>by rw [iR]; exact if_pos ⟨hp,ha⟩
    have eQ:∀ p:Nat,s8 w p=false->S' p=[]:=λ p ha=>by rw [iR]; exact if_neg (λ c=>by rw [c.2] at ha; cases ha)
    have jj:∀ p:Nat,p<w.2.1.length->s8 w p=true->(E2 w).2.1.getD p j8=((w.2.1.getD p j8).1,B++(Q.take m).map xl,(0,S' p,()),(0,[],()),(0,[],()),()):=λ p hp ha=>by
      obtain ⟨⟨j,hj⟩,-⟩:=h.mem p hp (yJ.1 ha).2.1;have jC:=jC p hp ha j hj;rw [cB p hp,vr,if_pos ha,Zf,hj.from_];simp only;have hd:(B++(Q.take m).map xl).drop (w.2.1.getD p j8).2.1.length=((Q.take m).drop j).map xl:=by
        rw [hj.log,aAe,aAn,aAk,aCc hj.le,<- aBj,List.drop_left,List.map_drop]
      rw [hd,SF,En,aBj,gw p hp ha];have fA:C5 p (Q.take m)=C5 p (Q.take j)++C5 p ((Q.take m).drop j):=by
        rw [<- yI];congr 1;rw [show Q.take j=(Q.take m).take j by rw [aCn,aCc jC],aBv]
      rw [fA,aAe]
    refine ⟨B++(Q.take m).map xl,S',?_,jj,λ p hp=>?_⟩
    . refine ⟨by rw [hlen]; exact h.K1,h.way,rfl,λ x hx=>(by cases hx),λ p=>aEw,λ p=>?_,λ s hs=>?_,λ p hp=>?_,λ p hp hm=>?_,λ p hp hm=>?_,λ s hs=>?_⟩
      . rw [iR];dsimp only
        split
        . rw [aAq]; have:=h.short p; omega
        . exact aAz _
      . rw [eT]; exact mP S' s hs
      . rw [hlen] at hp;cases ha:s8 w p with
        | true=>rw [jj p hp ha]; exact ⟨rfl,λ q hq=>by cases hq⟩
        | false=>rw [gO p hp ha]; exact ⟨rfl,λ q hq=>by cases hq⟩
      . rw [hlen] at hp;rw [jP p hp] at hm;rw [jj p hp hm];obtain ⟨⟨j,hj⟩,eJ⟩:=h.mem p hp (yJ.1 hm).2.1;have aM:=hj.ok;rw [hj.from_] at aM;have mC:=xY aM;have jC:=jC p hp hm j hj;have bU:S' p=((S p).drop (C5 p (Q.take j)).length).drop ((C5 p (Q.take m)).length - (C5 p (Q.take j)).length):=by
          rw [gw p hp hm,aBj];congr 1;have:(C5 p (Q.take j)).length<=(C5 p (Q.take m)).length:=by
            have:=(zD (p:=p) (Q:=Q.take m) (i:=j)).length_le;rw [aCn,aCc jC] at this;exact this
          omega
        refine ⟨⟨0,aAz _,rfl,λ q hq=>(by cases hq),by simp,by simp [C5],?_⟩,?_⟩
        . refine Qk ⟨by decide,by decide⟩ ?_ ?_
          . rw [bU,aAq]; have:=mC.2.1; simp only at this; omega
          . rw [bU]; exact Qx mC.2.2
        . rw [eJ,Jm,En,gw p hp hm,aAl];congr 1;have bc:=(zD (p:=p) (Q:=Q) (i:=m)).trans (h.zV p)
          conv=>lhs; rw [<- aBv (C5 p (Q.take m)).length (S p)]
          rw [<- aGy.1 bc]
      . rw [hlen] at hp;rw [jP p hp] at hm;refine ⟨eQ p hm,?_⟩;rw [Jm,En];have bc:=(zD (p:=p) (Q:=Q) (i:=m)).trans (h.zV p);cases ie:T1 w.1.2.1 p with
        | true =>
          rw [(h.mem p hp ie).2];exact (aGm _).2 bc
        | false =>
          obtain ⟨e1,e2⟩:=h.out p hp ie;rw [e1] at bc;rw [List.prefix_nil.1 bc,aBc];exact e2
      . rw [hlen];rcases aAi.1 hs with hs|hs
        . exact h.Mr s hs
        . obtain ⟨y,hy,rfl⟩:=aCu.1 hs;have:=h.inQ y (aFu hy);show 0<=((y.1:Nat):Int)/\((y.1:Nat):Int)<_;omega
    . cases ha:s8 w p with
      | true =>
        rw [jj p hp ha];obtain ⟨⟨j,hj⟩,-⟩:=h.mem p hp (yJ.1 ha).2.1;have jC:=jC p hp ha j hj;rw [hj.log];refine (aGm _).2 (List.IsPrefix.map xl ?_);rw [show Q.take j=(Q.take m).take j by rw [aCn,aCc jC]];exact List.take_prefix ..
      | false=>rw [gO p hp ha]; exact aCe
  . have bD:∀ p:Nat,p<w.2.1.length->s8 w p=false:=λ p hp=>by
      cases ha:s8 w p with
      | false=>rfl
      | true=>exact absurd ⟨p,hp,ha⟩ hex
    refine ⟨[],λ _=>[],?_,λ p hp ha=>(by rw [bD p hp] at ha; cases ha),λ p hp=>by rw [gO p hp (bD p hp)]; exact aCe⟩;refine ⟨by rw [hlen]; exact h.K1,h.way,rfl,λ x hx=>(by cases hx),λ p=>aEw,λ p=>aAz _,λ s hs=>?_,λ p hp=>?_,λ p hp hm=>?_,λ p hp hm=>⟨rfl,aEw⟩,λ s hs=>(by cases hs)⟩
    . rw [eT]; exact mP _ s hs
    . rw [hlen] at hp;rw [gO p hp (bD p hp)]; exact ⟨rfl,λ q hq=>by cases hq⟩
    . rw [hlen] at hp;rw [jP p hp,bD p hp] at hm; cases hm
end
end Go.Proofs.YtijlnmgondibnaaGreatDoor
namespace Go.Proofs.YtijlnmgondibnaaGreatDoor
open Go.Ex
set_option maxRecDepth 100000
attribute [local irreducible] Go.Ex.exec
section
variable {H:Array Go.Obj} {S:Nat->Prop} {O:List Nat} {cs:List Value}
theorem QC {α β:Type} {R:List Nat->List Value->α->Prop} {R':List Nat->List Value->β->Prop} {sz:Nat} {f:α->β} (hr:∀ O cs x,R O cs x->R' O cs (f x)):∀ {l:List α} {O:List Nat} {cs:List Value},j5 R sz O cs l->j5 R' sz O cs (l.map f)
  | [],_,_,h=>h
  | _::_,_,_,⟨O1,O2,e,h1,h2⟩=>⟨O1,O2,e,hr _ _ _ h1,QC hr h2⟩
theorem Wy {l:List n9} (h:g9 H S (.d0 true a28) O cs l):g9 H S (.d0 true Z2) O cs (l.map toM):=by
  have e:(l.map toM).length=l.length:=aAn ..;rcases h with ⟨a,b,c⟩|⟨b,off,cap,O',h1,h2,h3,h4,h5,h6⟩
  . exact .inl ⟨a,b,by rw [c]; rfl⟩
  . refine .inr ⟨b,off,cap,O',?_,?_,h3,?_,?_,h6⟩
    . rw [h1]; exact congrArg (λ n:Nat=>[Value.slice (some ⟨b,off,none⟩) n cap]) e.symm
    . exact aAv (aFb e) h2
    . exact aAv (aFb (congrArg (λ n:Nat=>off+n*Z2.size) e)) h4
    . have:=QC (R':=g9 H S Z2) (f:=toM) (λ _ _ _ h=>h) h5;have e2:e8 H b off (List.length (l.map toM)*Z2.size)=e8 H b off (List.length l*a28.size):=congrArg (λ n:Nat=>e8 H b off (n*Z2.size)) e;show j5 (g9 H S Z2) Z2.size O' (e8 H b off (List.length (l.map toM)*Z2.size)) (l.map toM);rw [e2];exact this
theorem YR {l:List n9} (h:g9 H S (.d0 true Z2) O cs (l.map toM)):g9 H S (.d0 true a28) O cs l:=by
  have e:(l.map toM).length=l.length:=aAn ..;rcases h with ⟨a,b,c⟩|⟨b,off,cap,O',h1,h2,h3,h4,h5,h6⟩
  . exact .inl ⟨a,b,List.map_eq_nil_iff.1 c⟩
  . refine .inr ⟨b,off,cap,O',?_,?_,h3,?_,?_,h6⟩
    . rw [h1]; exact congrArg (λ n:Nat=>[Value.slice (some ⟨b,off,none⟩) n cap]) e
    . exact aAv (aFb e.symm) h2
    . exact aAv (aFb (congrArg (λ n:Nat=>off+n*Z2.size) e.symm)) h4
    . have e2:e8 H b off (List.length (l.map toM)*Z2.size)=e8 H b off (List.length l*a28.size):=congrArg (λ n:Nat=>e8 H b off (n*Z2.size)) e;have h5:j5 (g9 H S Z2) Z2.size O' (e8 H b off (List.length (l.map toM)*Z2.size)) (l.map toM):=h5;rw [e2] at h5;exact j5.Ms (R:=g9 H S a28) (f:=toM) (λ _ _ _ h=>h) h5
theorem Xc {w:f9} (h:g9 H S u7 O cs w):g9 H S wg O cs (vy w):=by
  obtain ⟨v,al,r⟩:=w;obtain ⟨P1,P2,e,r1,P3,P4,e',r2,r3⟩:=h;exact ⟨P1,P2,e,r1,P3,P4,e',Wy r2,r3⟩
theorem c3O {w:f9} (h:g9 H S wg O cs (vy w)):g9 H S u7 O cs w:=by
  obtain ⟨v,al,r⟩:=w;obtain ⟨P1,P2,e,r1,P3,P4,e',r2,r3⟩:=h;exact ⟨P1,P2,e,r1,P3,P4,e',YR r2,r3⟩
end
def JF:p7:={ ps:=[.rw u7],rs:=[d9],pre:=λ x=>yM x.1,fn:=λ x=>((C4 x.1).2,()),out:=λ x=>((C4 x.1).1,()) }
theorem yL {w:f9} (h:(L7 w).2.1≠0):C4 w=(w,(L7 w).2.1):=by rw [C4]; exact if_pos h
theorem CP {w:f9} (h:¬ (L7 w).2.1≠0):C4 w=(E2 w,0):=by rw [C4]; exact if_neg h
attribute [local irreducible] C4 E2 L7 in
theorem UN:JF.Valid Tryz.prog 25:=by
  refine ⟨Uo.ent,?_,λ h=>by cases h⟩;rintro w S vs ⟨(x:f9),⟨⟩⟩ L hS dI (bc:yM x) ⟨v,us,L1,L2,rfl,rfl,⟨b,off,O,rfl,hr,hf,rfl⟩,rfl,rfl⟩ - aJ hL;by_cases hn:(L7 x).2.1≠0
  . have hs:g9 w.heap (λ c=>S c\/c∈b::O) H3 [] (e8 w.heap b off u7.size) x:=hr.vS (S':=λ c=>S c\/c∈b::O) (λ c h=>.inr (aBd _ h)) (λ c h=>.inl h) rfl;refine (b3h.run w (λ c=>S c\/c∈b::O) [.pointer (some ⟨b,off,none⟩)] (x,()) [] ?_ (dI.sub (λ c h=>.inl h)) ⟨bc.K1,hn⟩ ⟨_,[],[],[],rfl,rfl,⟨rfl,b,off,rfl,.inr aBp,?_,hs⟩,rfl,rfl⟩ trivial aAw (by simp)).mono ?_
    . rintro c (h|h)
      . exact hS c h
      . exact (hL c (by simpa using h)).2
    . exact P5.w6 hf
    rintro e w' ⟨us,O2,Lo,S',e1,hp,s1,s2,h1,h2,cY,fx⟩;obtain ⟨v1,us1,P1,P2,cs,rfl,rfl,rfl,⟨rfl,rfl,hk⟩,rfl,rfl⟩:=h1;have dV:∀ c,c<w.heap.size->w'.heap[c]?=w.heap[c]?:=λ c hc=>hp.frame c hc (by simp);have dZ:∀ c∈b::O,¬ S c/\c<w.heap.size:=λ c hc=>hL c (by simpa using hc);have hb:=dV b (dZ b aBp).2;have ff:=yL hn;refine ⟨[_],[],b::O,S,e1,⟨hp.os,hp.tape,hp.out,hp.size,λ c hc hn=>dV c hc⟩,λ _ h=>h,λ c h=>.inl h,⟨_,[],[],[],_,rfl,rfl,rfl,⟨rfl,?_,?_⟩,rfl,rfl⟩,⟨b,off,O,[],[],rfl,?_,?_,by simp,rfl,rfl⟩,?_,?_⟩
    . show [Value.int .i64 _]=[Value.int .i64 (C4 x).2];rw [ff]; rfl
    . show r9 .i64 (C4 x).2;rw [ff]; exact hk
    . show g9 w'.heap S u7 O (e8 w'.heap b off u7.size) (C4 x).1;rw [ff,l6 hb];exact hr.u5 (λ c hc=>dV c (hc.elim (λ h=>(dZ c (aBd _ h)).2) (hS c))) (λ _ h=>h)
    . exact P5.u5 hb hf
    . simpa using aJ
    . intro c hc;have hc:c∈b::O:=by simpa using hc
      exact ⟨(dZ c hc).1,.inr (by simpa using hc),aAr (dZ c hc).2 hp.size⟩
  . have ff:=CP hn;have oh:=Zj x;refine (Uo.run w S [.pointer (some ⟨b,off,none⟩)] (vy x,()) (b::O++[]) hS dI ⟨?_,?_,?_⟩ ⟨_,[],b::O,[],rfl,rfl,⟨b,off,O,rfl,Xc hr,hf,rfl⟩,rfl,rfl⟩ trivial aJ hL).mono ?_
    . show vy x=vy (wa (vy x)); rw [oh]
    . show yM (wa (vy x)); rw [oh]; exact bc
    . show ¬ (L7 (wa (vy x))).2.1≠0; rw [oh]; exact hn
    rintro e w' ⟨us,O2,Lo,S',e1,hp,s1,s2,h1,h2,h3,h4⟩;refine ⟨us,O2,Lo,S',e1,hp,s1,s2,?_,?_,h3,h4⟩
    . have h1:M3 w'.heap S' [d9] O2 us ((0:Int),()):=h1;show M3 w'.heap S' [d9] O2 us ((C4 x).2,());rw [ff]; exact h1
    . obtain ⟨b',aA,O',us',L',e',kL,qc,e2,h'⟩:=h2;refine ⟨b',aA,O',us',L',e',?_,qc,e2,h'⟩;have kL:g9 w'.heap S' wg O' (e8 w'.heap b' aA wg.size) (vy (E2 (wa (vy x)))):=kL;show g9 w'.heap S' u7 O' (e8 w'.heap b' aA u7.size) (C4 x).1;rw [ff];rw [oh] at kL;exact c3O kL
end Go.Proofs.YtijlnmgondibnaaGreatDoor
namespace Go.Proofs.YtijlnmgondibnaaGreatDoor
open Go.Ex
set_option maxRecDepth 100000
attribute [local irreducible] Go.Ex.exec
abbrev AW:=Int×Int×Int×Unit
abbrev Event:Ty:=.pair d9 (.pair d9 (.pair d9 .unit))
abbrev wB:=yY
def GG:p7:={ ps:=[.v d9,.v d9,.v d9],rs:=[.bool],pre:=λ _=>True,fn:=λ x=>(Z4 x.1 x.2.1 x.2.2.1,()),out:=λ _=>() }
noncomputable def Gu:Env:={ P:=Tryz.prog,tt:=tt,C9:=[],res:=[Go.ResultVar.tmp 6],rs:=[Ty.bool],ps:=[PK.v d9,PK.v d9,PK.v d9],B8:=[],nt:=15 }
theorem Pn:w7 Gu:=x6 r7 trivial
theorem Pq:C0 Gu Tryz.f92:=⟨rfl,rfl⟩
theorem WK (x0:Int) (x1:Int) (x2:Int):exec Gu 1000 [.code (d8 Tryz.prog 92)] (s5 GG.ps ((x0,x1,x2,()))) =
  cond (decide (x1<=x0)) (.ret ((decide (x0<=x2),()))) (.ret ((false,()))):=by kernel_rfl
theorem b82:GG.Valid Tryz.prog 92:=by
  refine p7.n8 Pn rfl rfl Tryz.func92 (c:=d8 Tryz.prog 92) rfl rfl Pq rfl ?_;rintro ⟨(a:Int),(b:Int),(c:Int),⟨⟩⟩ - -
  refine j6 (n:=1000) Pn Pq ?_;refine i7 (WK a b c) ?_;simp only [j7,Tree.holds,sL]
  repeat' first|exact trivial|(refine And.intro ?_ ?_)|(intro _)
  all_goals (show ((_,()):Bool×Unit)=(Z4 a b c,()); simp [Z4, *])
def Hv:p7:={ ps:=[.v (.d0 false .str),.v .str],rs:=[d9],pre:=λ _=>True,fn:=λ x=>(idxOf (λ y=>decide ((show yY from x.2.1)=y)) x.1,()),out:=λ _=>() }
noncomputable def Dv:Env:={ P:=Tryz.prog,tt:=tt,C9:=[],res:=[Go.ResultVar.tmp 4],rs:=[Ty.int IntKind.i64],ps:=[PK.v (Ty.d0 false Ty.str),PK.v Ty.str],B8:=[(2,[(0,none),(1,none),(7,none),(8,none)])],nt:=19 }
theorem Js:w7 Dv:=x6 r7 trivial
theorem Jz:C0 Dv Tryz.f90:=⟨rfl,rfl⟩
theorem Wj (x0:List yY) (x1:yY):exec Dv 1000 [.code (d8 Tryz.prog 90)] (s5 Hv.ps ((x0,x1,()))) =
  .ctL (g8 (d8 Tryz.prog 90) 2) (St.mk [(0,AV.val (Ty.d0 false Ty.str) x0),(1,AV.val Ty.str x1),(7,AV.val d9 (↑(List.length x0):Int)),(8,AV.val d9 (0:Int))] []):=by kernel_rfl
def Qa (v0:List yY) (v1:yY) (v7:Int) (v8:Int):St:=St.mk [(0,AV.val (Ty.d0 false Ty.str) v0),(1,AV.val Ty.str v1),(7,AV.val d9 v7),(8,AV.val d9 v8)] []
theorem XX (v0:List yY) (v1:yY) (v7:Int) (v8:Int):exec Dv 1000 (.code (g8 (d8 Tryz.prog 90) 2).1::.inLoop (g8 (d8 Tryz.prog 90) 2).1::(g8 (d8 Tryz.prog 90) 2).2) (Qa v0 v1 v7 v8) =
  cond (decide (v8<v7)) (.f8 ((0:Int)<=v8/\v8<(↑(List.length v0):Int)) (cond (decide (v1=List.getD v0 (Int.toNat v8) [])) (.ret ((v8,()))) (.f8 (r9 IntKind.i64 (v8+(1:Int))) (.ctL (g8 (d8 Tryz.prog 90) 2) (St.mk [(0,AV.val (Ty.d0 false Ty.str) v0),(1,AV.val Ty.str v1),(7,AV.val d9 v7),(8,AV.val d9 (v8+(1:Int)))] []))))) (.ret (((-1:Int),()))):=by kernel_rfl
theorem b8H:Hv.Valid Tryz.prog 90:=by
  refine p7.n8 Js rfl rfl Tryz.func90 (c:=d8 Tryz.prog 90) rfl rfl Jz rfl ?_;rintro ⟨(l:List (yY)),(x:yY),⟨⟩⟩ - ⟨⟨hl,-⟩,-⟩;have hl:l.length<=9223372036854775807:=hl;refine j6 (n:=1000) Js Jz ?_;refine i7 (Wj l x) ?_;refine Reach.M7 Js Jz (λ i:Nat=>Qa l x (l.length:Int) (i:Int) ) (λ i=>i<=l.length/\idxOf (λ y=>decide (x=y)) l=T7 (λ y=>decide (x=y)) (l.drop i) i)
    (λ i=>l.length - i) 1000 (λ _=>⟨s9 rfl,s9 rfl⟩) ?_ 0 ⟨by omega,rfl⟩
  rintro i ⟨k1,k2⟩ - ih;refine i7 (XX ..) ?_;simp only [j7,Tree.holds,sL];refine ⟨λ h=>?_,λ h=>?_⟩
  . rw [Fe (show i<l.length by omega) [],T7] at k2;have key:∀ b:Bool,(b=true↔x=l.getD i [])->(b=true->(((i:Int),()):Int×Unit)=(idxOf (λ y=>decide (x=y)) l,()))/\(b=false->idxOf (λ y=>decide (x=y)) l=T7 (λ y=>decide (x=y)) (l.drop (i+1)) (i+1)):=λ b hb=>by
      refine ⟨λ c=>?_,λ c=>?_⟩
      . rw [k2,if_pos (decide_eq_true (hb.1 c))]
      . rw [k2,if_neg (λ h9=>by rw [hb.2 (of_decide_eq_true h9)] at c; cases c)]
    refine ⟨by omega,λ _=>⟨λ c=>?_,λ c=>⟨by omega,λ _=>ih (i+1) ⟨by omega,?_⟩ (by omega)⟩⟩⟩
    . exact (key true ⟨λ _=>c,λ _=>rfl⟩).1 rfl
    . exact (key false ⟨λ h9=>(by cases h9),λ h9=>(c h9).elim⟩).2 rfl
  . rw [aDr (by omega)] at k2;show (((-1:Int),()):Int×Unit)=(idxOf (λ y=>decide (x=y)) l,());rw [k2]; rfl
def M2 (n:Int):Int:=min (max n (-1000000000)) 1000000000
theorem Zz (n:Int):(if 1000000000<(if n < -1000000000 then -1000000000 else n) then 1000000000 else (if n < -1000000000 then -1000000000 else n))=M2 n:=by
  unfold M2; split<;>split<;>omega
theorem Zx (n:Int):-1000000000<=M2 n/\M2 n<=1000000000:=by unfold M2; omega
def Ij:p7:={ ps:=[.v d9],rs:=[d9],pre:=λ _=>True,fn:=λ x=>(M2 x.1,()),out:=λ _=>() }
noncomputable def HH:Env:={ P:=Tryz.prog,tt:=tt,C9:=[],res:=[Go.ResultVar.tmp 2],rs:=[Ty.int IntKind.i64],ps:=[PK.v d9],B8:=[],nt:=6 }
theorem Rp:w7 HH:=x6 r7 trivial
theorem RG:C0 HH Tryz.f93:=⟨rfl,rfl⟩
theorem Ym (x0:Int):exec HH 1000 [.code (d8 Tryz.prog 93)] (s5 Ij.ps ((x0,()))) =
  .ret ((if (1000000000:Int)<if x0<(-1000000000:Int) then (-1000000000:Int) else x0 then (1000000000:Int) else if x0<(-1000000000:Int) then (-1000000000:Int) else x0,())):=by kernel_rfl
theorem b6S:Ij.Valid Tryz.prog 93:=by
  refine p7.n8 Rp rfl rfl Tryz.func93 (c:=d8 Tryz.prog 93) rfl rfl RG rfl ?_;rintro ⟨(n:Int),⟨⟩⟩ - -
  refine j6 (n:=1000) Rp RG ?_;refine i7 (Ym n) ?_;show ((_,()):Int×Unit)=(M2 n,());rw [<- Zz]
abbrev G3:yY:=[32]
abbrev xR:List yY:=[[115,101,116],[97,100,100],[109,111,115,116],[99,111,112,121]]
def zO (n:Int):Int:=min (max n (-4000000000)) 4000000000
theorem Xl (n:Int):(if 4000000000<(if n < -4000000000 then -4000000000 else n) then 4000000000 else (if n < -4000000000 then -4000000000 else n))=zO n:=by
  unfold zO; split<;>split<;>omega
def zN (v:List Int) (c:AW):List Int :=
  if c.1=1 then v.set c.2.1.toNat (M2 c.2.2.1)
  else if c.1=2 then v.set c.2.1.toNat (M2 (zO (v.getD c.2.1.toNat 0)+M2 c.2.2.1))
  else if c.1=3 then v.set c.2.1.toNat (max (v.getD c.2.1.toNat 0) (M2 c.2.2.1))
  else if c.1=4 then v.set c.2.1.toNat (v.getD c.2.2.1.toNat 0)
  else v
def Gp:p7:={ ps:=[.rw vo,.v Event],rs:=[],pre:=λ x=>(LE.le (α:=Int) 0 x.2.1.2.1/\LT.lt (α:=Int) x.2.1.2.1 10)/\(x.2.1.1=(4:Int)->LE.le (α:=Int) 0 x.2.1.2.2.1/\LT.lt (α:=Int) x.2.1.2.2.1 10),fn:=λ _=>(),out:=λ x=>(zN x.1 x.2.1,()) }
noncomputable def FT:Env:={ P:=Tryz.prog,tt:=tt,C9:=[(93,Ij)],res:=[],rs:=[],ps:=[PK.rw vo,PK.v (Ty.pair d9 Mw)],B8:=[],nt:=54 }
theorem NK:w7 FT:=x6 r7 ⟨b6S,trivial⟩
theorem NU:C0 FT Tryz.f74:=⟨rfl,rfl⟩
theorem VF (x0:List Int) (bA:Int) (aG:Int) (aF:Int):exec FT 1000 [.code (d8 Tryz.prog 74)] (s5 Gp.ps ((x0,(bA,aG,aF,()),()))) =
  .f8 ((0:Int)<=aG/\aG<(↑10:Int)) (cond (decide (bA=(1:Int))) (.f8 (True) (.ret ((List.set x0 (Int.toNat aG) (M2 aF),())))) (cond (decide (bA=(2:Int))) (.f8 (True) (.f8 (r9 IntKind.i64 ((if (4000000000:Int)<if List.getD x0 (Int.toNat aG) (0:Int)<(-4000000000:Int) then (-4000000000:Int) else List.getD x0 (Int.toNat aG) (0:Int) then (4000000000:Int) else if List.getD x0 (Int.toNat aG) (0:Int)<(-4000000000:Int) then (-4000000000:Int) else List.getD x0 (Int.toNat aG) (0:Int))+M2 aF)) (.f8 (True) (.ret ((List.set x0 (Int.toNat aG) (M2 ((if (4000000000:Int)<if List.getD x0 (Int.toNat aG) (0:Int)<(-4000000000:Int) then (-4000000000:Int) else List.getD x0 (Int.toNat aG) (0:Int) then (4000000000:Int) else if List.getD x0 (Int.toNat aG) (0:Int)<(-4000000000:Int) then (-4000000000:Int) else List.getD x0 (Int.toNat aG) (0:Int))+M2 aF)),())))))) (cond (decide (bA=(3:Int))) (.f8 (True) (.ret ((List.set x0 (Int.toNat aG) (if List.getD x0 (Int.toNat aG) (0:Int)<M2 aF then M2 aF else List.getD x0 (Int.toNat aG) (0:Int)),())))) (cond (decide (bA=(4:Int))) (.f8 ((0:Int)<=aF/\aF<(↑10:Int)) (.ret ((List.set x0 (Int.toNat aG) (List.getD x0 (Int.toNat aF) (0:Int)),())))) (.ret ((x0,()))))))):=by kernel_rfl
theorem c1K:Gp.Valid Tryz.prog 74:=by
  refine p7.n8 NK rfl rfl Tryz.func74 (c:=d8 Tryz.prog 74) rfl rfl NU rfl ?_;rintro ⟨(v:List Int),⟨(k:Int),(i:Int),(n:Int),⟨⟩⟩,⟨⟩⟩ ⟨⟨(h1:0<=i),(h2:i<10)⟩,(h3:k=4->0<=n/\n<10)⟩ -
  refine j6 (n:=1000) NK NU ?_;refine i7 (VF v k i n) ?_;have hd:zN v (k,i,n,())=if k=1 then v.set i.toNat (M2 n) else if k=2 then v.set i.toNat (M2 (zO (v.getD i.toNat 0)+M2 n)) else if k=3 then v.set i.toNat (max (v.getD i.toNat 0) (M2 n)) else if k=4 then v.set i.toNat (v.getD n.toNat 0) else v:=rfl
  have hg:∀ x:Int,r9 .i64 (zO x+M2 n):=λ x=>by have:=Zx n; exact F6.2 (by unfold zO; omega)
  have fin:∀ y:List Int,y=zN v (k,i,n,())->((y,()):List Int×Unit)=(zN v (k,i,n,()),()):=λ y e=>by rw [e]
  simp only [j7,Tree.holds,Xl,sL];refine ⟨⟨h1,by omega⟩,λ _=>⟨λ e=>fin _ (by rw [hd,if_pos e]),λ e=>⟨λ e2=>⟨hg _,λ _=>fin _ (by rw [hd,if_neg e,if_pos e2])⟩,λ e2=>⟨λ e3=>fin _ ?_,λ e3=>⟨λ e4=>⟨by have:=h3 e4; omega,λ _=>fin _ (by rw [hd,if_neg e,if_neg e2,if_neg e3,if_pos e4])⟩,λ e4=>fin _ (by rw [hd,if_neg e,if_neg e2,if_neg e3,if_neg e4])⟩⟩⟩⟩⟩;rw [hd,if_neg e,if_neg e2,if_pos e3];refine congrArg (List.set v i.toNat) ?_;show (if v.getD i.toNat 0<M2 n then M2 n else v.getD i.toNat 0:Int)=max (v.getD i.toNat 0) (M2 n);rw [Int.max_def]
  split<;>split<;>omega
def kindOf (s:wB):Int:=idxOf (λ y=>decide (s=y)) xR+1
def Bz (l:List wB):AW×Int :=
  if (l.length:Int)≠3 then ((0,0,0,()),12)
  else if kindOf (l.getD 0 [])=0 then ((0,0,0,()),12)
  else if (K5 (l.getD 1 [])).2=false then ((0,0,0,()),12)
  else if (K5 (l.getD 2 [])).2=false then ((0,0,0,()),12)
  else if Z4 (K5 (l.getD 1 [])).1 0 9=false then ((0,0,0,()),1)
  else if kindOf (l.getD 0 [])=4/\Z4 (K5 (l.getD 2 [])).1 0 9=false then ((0,0,0,()),1)
  else ((kindOf (l.getD 0 []),(K5 (l.getD 1 [])).1,(K5 (l.getD 2 [])).1,()),0)
def T6 (s:wB):AW×Int:=Bz (Lib.split s G3)
def Gl:p7:={ ps:=[.v .str],rs:=[Event,d9],pre:=λ x=>List.length (α:=UInt8) x.1<=4294967280,fn:=λ x=>((T6 x.1).1,(T6 x.1).2,()),out:=λ _=>() }
theorem Tk (p:yY):∀ (k:Nat) (s:yY),∀ x∈Lib.splitK p 0 k s,x.length<=s.length
  | 0,s,x,hx=>by
    have hx:x∈[s]:=hx;rw [aBg] at hx; rw [hx]; exact aAj _
  | k+1,s,x,hx=>by
    unfold Lib.splitK at hx;split at hx
    . rw [aBg] at hx; rw [hx]; exact aAj _
    . rcases aAp.1 hx with rfl|hx
      . rw [aAk]; omega
      . have:=Tk p k _ x hx;rw [aAq] at this; omega
theorem Se {s p:yY} {i:Nat}:((Lib.split s p).getD i []).length<=s.length:=by
  by_cases h:i<(Lib.split s p).length
  . refine Tk p (Lib.count s p) s _ ?_;rw [aAb,aAf h];exact aCp h
  . rw [aAb,aBx (by omega)]; simp
theorem MF {α:Type} {p:α->Bool}:∀ {l:List α} {i:Nat},-1<=T7 p l i/\T7 p l i<=(i+l.length:Nat)
  | [],i=>by simp only [T7]; omega
  | x::l,i=>by
    rw [T7]
    split
    . omega
    . have:=MF (p:=p) (l:=l) (i:=i+1);rw [aAh]; omega
theorem MY (s:wB):0<=kindOf s/\kindOf s<=5:=by
  have:=MF (p:=λ y=>decide (s=y)) (l:=xR) (i:=0);simp only [kindOf,idxOf];have e:xR.length=4:=rfl;rw [e] at this;omega
noncomputable def Gv:Env:={ P:=Tryz.prog,tt:=tt,C9:=[(89,MS),(90,Hv),(91,Ph),(92,GG)],res:=[Go.ResultVar.cell 2 126,Go.ResultVar.tmp 3],rs:=[Ty.pair d9 Mw,Ty.int IntKind.i64],ps:=[PK.v Ty.str],B8:=[],nt:=66 }
theorem Po:w7 Gv:=x6 r7 ⟨b6A,b8H,b5a,b82,trivial⟩
theorem Pr:C0 Gv Tryz.f73:=⟨rfl,rfl⟩
theorem WL (x0:yY):exec Gv 1000 [.code (d8 Tryz.prog 73)] (s5 Gl.ps ((x0,()))) =
  .f8 (List.length x0<=4294967280/\1<=List.length G3) (cond (decide ((↑(List.length (Go.Lib.split x0 G3)):Int)≠(3:Int))) (.ret ((((0:Int),(0:Int),(0:Int),()),(12:Int),()))) (.f8 ((0:Int)<=(0:Int)/\(0:Int)<(↑(List.length (Go.Lib.split x0 G3)):Int)) (.f8 (True) (.f8 (r9 IntKind.i64 (idxOf (λ y=>decide (List.getD (Go.Lib.split x0 G3) (Int.toNat (0:Int)) []=y)) xR+(1:Int))) (.f8 ((0:Int)<=(1:Int)/\(1:Int)<(↑(List.length (Go.Lib.split x0 G3)):Int)) (.f8 (List.length (List.getD (Go.Lib.split x0 G3) (Int.toNat (1:Int)) [])<=4294967280) (.f8 ((0:Int)<=(2:Int)/\(2:Int)<(↑(List.length (Go.Lib.split x0 G3)):Int)) (.f8 (List.length (List.getD (Go.Lib.split x0 G3) (Int.toNat (2:Int)) [])<=4294967280) (cond (decide (idxOf (λ y=>decide (List.getD (Go.Lib.split x0 G3) (Int.toNat (0:Int)) []=y)) xR+(1:Int)=(0:Int))) (.ret ((((0:Int),(0:Int),(0:Int),()),(12:Int),()))) (cond (!Prod.snd (K5 (List.getD (Go.Lib.split x0 G3) (Int.toNat (1:Int)) []))) (.ret ((((0:Int),(0:Int),(0:Int),()),(12:Int),()))) (cond (!Prod.snd (K5 (List.getD (Go.Lib.split x0 G3) (Int.toNat (2:Int)) []))) (.ret ((((0:Int),(0:Int),(0:Int),()),(12:Int),()))) (.f8 (True) (cond (!Z4 (K5 (List.getD (Go.Lib.split x0 G3) (Int.toNat (1:Int)) [])).1 (0:Int) (9:Int)) (.ret ((((0:Int),(0:Int),(0:Int),()),(1:Int),()))) (cond (decide (idxOf (λ y=>decide (List.getD (Go.Lib.split x0 G3) (Int.toNat (0:Int)) []=y)) xR+(1:Int)=(4:Int))) (.f8 (True) (cond (!Z4 (K5 (List.getD (Go.Lib.split x0 G3) (Int.toNat (2:Int)) [])).1 (0:Int) (9:Int)) (.ret ((((0:Int),(0:Int),(0:Int),()),(1:Int),()))) (.ret (((idxOf (λ y=>decide (List.getD (Go.Lib.split x0 G3) (Int.toNat (0:Int)) []=y)) xR+(1:Int),Prod.fst (K5 (List.getD (Go.Lib.split x0 G3) (Int.toNat (1:Int)) [])),Prod.fst (K5 (List.getD (Go.Lib.split x0 G3) (Int.toNat (2:Int)) [])),()),(0:Int),()))))) (.ret (((idxOf (λ y=>decide (List.getD (Go.Lib.split x0 G3) (Int.toNat (0:Int)) []=y)) xR+(1:Int),Prod.fst (K5 (List.getD (Go.Lib.split x0 G3) (Int.toNat (1:Int)) [])),Prod.fst (K5 (List.getD (Go.Lib.split x0 G3) (Int.toNat (2:Int)) [])),()),(0:Int),()))))))))))))))))):=by kernel_rfl
theorem c2j:Gl.Valid Tryz.prog 73:=by
  refine p7.n8 Po rfl rfl Tryz.func73 (c:=d8 Tryz.prog 73) rfl rfl Pr rfl ?_;rintro ⟨(s:yY),⟨⟩⟩ (hp:s.length<=4294967280) -
  refine j6 (n:=1000) Po Pr ?_;refine i7 (WL s) ?_;have hd:T6 s=Bz (Lib.split s G3):=rfl;have e1:((Lib.split s G3).getD 1 []).length<=4294967280:=aAv Se hp;have e2:((Lib.split s G3).getD 2 []).length<=4294967280:=aAv Se hp;have hk:=MY ((Lib.split s G3).getD 0 []);have eW:idxOf (λ y=>decide ((Lib.split s G3).getD 0 []=y)) xR+1=kindOf ((Lib.split s G3).getD 0 []):=rfl;generalize hl:Lib.split s G3=l at *
  have cT:r9 .i64 (kindOf (l.getD 0 [])):=F6.2 (by omega);have fin:∀ {y:AW×Int},Bz l=y->((y.1,y.2,()):AW×Int×Unit)=((T6 s).1,(T6 s).2,()):=λ e=>by rw [hd,e]
  have hr:Bz l=if (l.length:Int)≠3 then ((0,0,0,()),12) else if kindOf (l.getD 0 [])=0 then ((0,0,0,()),12) else if (K5 (l.getD 1 [])).2=false then ((0,0,0,()),12) else if (K5 (l.getD 2 [])).2=false then ((0,0,0,()),12) else if Z4 (K5 (l.getD 1 [])).1 0 9=false then ((0,0,0,()),1) else if kindOf (l.getD 0 [])=4/\Z4 (K5 (l.getD 2 [])).1 0 9=false then ((0,0,0,()),1) else ((kindOf (l.getD 0 []),(K5 (l.getD 1 [])).1,(K5 (l.getD 2 [])).1,()),0):=rfl
  simp only [j7,Tree.holds,Int.reduceToNat,eW,sL];refine ⟨⟨hp,by decide⟩,λ _=>⟨λ h3=>?_,λ h3=>?_⟩⟩
  . exact fin (by rw [hr,if_pos h3])
  . rw [if_neg h3] at hr;have h3:(l.length:Int)=3:=by omega
    refine ⟨by omega,λ _=>⟨cT,λ _=>⟨by omega,λ _=>⟨e1,λ _=>⟨by omega,λ _=>⟨e2,λ _=>⟨λ g1=>?_,λ g1=>?_⟩⟩⟩⟩⟩⟩⟩
    . exact fin (by rw [hr,if_pos g1])
    rw [if_neg g1] at hr;refine ⟨λ g2=>?_,λ g2=>?_⟩
    . exact fin (by rw [hr,if_pos (by simpa using g2)])
    rw [if_neg (by simpa using g2)] at hr;refine ⟨λ g3=>?_,λ g3=>?_⟩
    . exact fin (by rw [hr,if_pos (by simpa using g3)])
    rw [if_neg (by simpa using g3)] at hr;refine ⟨λ g4=>?_,λ g4=>?_⟩
    . exact fin (by rw [hr,if_pos (by simpa using g4)])
    rw [if_neg (by simpa using g4)] at hr;refine ⟨λ g5=>⟨λ g6=>?_,λ g6=>?_⟩,λ g5=>?_⟩
    . exact fin (by rw [hr,if_pos ⟨g5,by simpa using g6⟩])
    . exact fin (by rw [hr,if_neg (λ h=>by rw [h.2] at g6; cases g6)])
    . exact fin (by rw [hr,if_neg (λ h=>g5 h.1)])
theorem Vi {s:wB} (h:(T6 s).2=0):(0<=(T6 s).1.2.1/\(T6 s).1.2.1<10)/\((T6 s).1.1=4->0<=(T6 s).1.2.2.1/\(T6 s).1.2.2.1<10)/\1<=(T6 s).1.1:=by
  unfold T6 Bz at h ⊢;split at h
  . cases h
  rename_i h1;rw [if_neg h1];split at h
  . cases h
  rename_i h2;rw [if_neg h2];split at h
  . cases h
  rename_i h3;rw [if_neg h3];split at h
  . cases h
  rename_i h4;rw [if_neg h4];split at h
  . cases h
  rename_i h5;rw [if_neg h5];split at h
  . cases h
  rename_i h6;rw [if_neg h6];have h5:Z4 (K5 ((Lib.split s G3).getD 1 [])).1 0 9=true:=by
    cases e:Z4 (K5 ((Lib.split s G3).getD 1 [])).1 0 9 with
    | true=>rfl
    | false=>exact absurd e h5
  have h5:=xb.1 h5;refine ⟨⟨h5.1,Int.lt_of_le_of_lt h5.2 (by decide)⟩,λ h7=>?_,?_⟩
  . have h8:Z4 (K5 ((Lib.split s G3).getD 2 [])).1 0 9=true:=by
      cases e:Z4 (K5 ((Lib.split s G3).getD 2 [])).1 0 9 with
      | true=>rfl
      | false=>exact absurd ⟨h7,e⟩ h6
    have h8:=xb.1 h8;exact ⟨h8.1,Int.lt_of_le_of_lt h8.2 (by decide)⟩
  . have:=(MY ((Lib.split s G3).getD 0 [])).1;show 1<=kindOf _;omega
def yp (a:List Int×Int) (s:wB):List Int×Int:=if (T6 s).2=0 then (zN a.1 (T6 s).1,a.2) else (a.1,a.2+1)
def N7 (v:List Int) (l:List wB):List Int×Int:=l.foldl yp (v,0)
def FW:p7:={ ps:=[.v vo,.v (.d0 false .str)],rs:=[vo,d9],pre:=λ x=>∀ s∈(show List wB from x.2.1),s.length<=4294967280,fn:=λ x=>((N7 x.1 x.2.1).1,(N7 x.1 x.2.1).2,()),out:=λ _=>() }
noncomputable def Da:Env:={ P:=Tryz.prog,tt:=tt,C9:=[(73,Gl),(74,Gp)],res:=[Go.ResultVar.cell 4 60,Go.ResultVar.tmp 5],rs:=[Ty.arr 10 d9,Ty.int IntKind.i64],ps:=[PK.v vo,PK.v (Ty.d0 false Ty.str)],B8:=[(3,[(2,none),(4,none),(6,none),(11,none),(12,none),(13,none)])],nt:=31 }
theorem Iz:w7 Da:=x6 r7 ⟨c2j,c1K,trivial⟩
theorem IH:C0 Da Tryz.f57:=⟨rfl,rfl⟩
theorem Vw (x0:List Int) (x1:List yY):exec Da 1000 [.code (d8 Tryz.prog 57)] (s5 FW.ps ((x0,x1,()))) =
  .ctL (g8 (d8 Tryz.prog 57) 3) (St.mk [(2,AV.ptr 2 []),(4,AV.ptr 4 []),(6,AV.val d9 (0:Int)),(11,AV.val (Ty.d0 false Ty.str) x1),(12,AV.val d9 (↑(List.length x1):Int)),(13,AV.val d9 (0:Int))] [(2,i6.var vo x0),(4,i6.var vo [(0:Int),(0:Int),(0:Int),(0:Int),(0:Int),(0:Int),(0:Int),(0:Int),(0:Int),(0:Int)])]):=by kernel_rfl
def Od (v6:Int) (v11:List yY) (v12:Int) (vj:Int) (o2:List Int) (o4:List Int):St:=St.mk [(2,AV.ptr 2 []),(4,AV.ptr 4 []),(6,AV.val d9 v6),(11,AV.val (Ty.d0 false Ty.str) v11),(12,AV.val d9 v12),(13,AV.val d9 vj)] [(2,i6.var vo o2),(4,i6.var vo o4)]
theorem WG (v6:Int) (v11:List yY) (v12:Int) (vj:Int) (o2:List Int) (o4:List Int):exec Da 1000 (.code (g8 (d8 Tryz.prog 57) 3).1::.inLoop (g8 (d8 Tryz.prog 57) 3).1::(g8 (d8 Tryz.prog 57) 3).2) (Od v6 v11 v12 vj o2 o4) =
  cond (decide (vj<v12)) (.f8 ((0:Int)<=vj/\vj<(↑(List.length v11):Int)) (.f8 (List.length (List.getD v11 (Int.toNat vj) [])<=4294967280) (cond (decide (Prod.snd (T6 (List.getD v11 (Int.toNat vj) []))≠(0:Int))) (.f8 (r9 IntKind.i64 (v6+(1:Int))) (.f8 (r9 IntKind.i64 (vj+(1:Int))) (.ctL (g8 (d8 Tryz.prog 57) 3) (St.mk [(2,AV.ptr 2 []),(4,AV.ptr 4 []),(6,AV.val d9 (v6+(1:Int))),(11,AV.val (Ty.d0 false Ty.str) v11),(12,AV.val d9 v12),(13,AV.val d9 (vj+(1:Int)))] [(2,i6.var vo o2),(4,i6.var vo o4)])))) (.f8 (((0:Int)<=Prod.fst (Prod.snd (T6 (List.getD v11 (Int.toNat vj) [])).1)/\Prod.fst (Prod.snd (T6 (List.getD v11 (Int.toNat vj) [])).1)<(10:Int))/\(Prod.fst (T6 (List.getD v11 (Int.toNat vj) [])).1=(4:Int)->(0:Int)<=Prod.fst (Prod.snd (T6 (List.getD v11 (Int.toNat vj) [])).1).2/\Prod.fst (Prod.snd (T6 (List.getD v11 (Int.toNat vj) [])).1).2<(10:Int))) (.f8 (r9 IntKind.i64 (vj+(1:Int))) (.ctL (g8 (d8 Tryz.prog 57) 3) (St.mk [(2,AV.ptr 2 []),(4,AV.ptr 4 []),(6,AV.val d9 v6),(11,AV.val (Ty.d0 false Ty.str) v11),(12,AV.val d9 v12),(13,AV.val d9 (vj+(1:Int)))] [(2,i6.var vo (zN o2 (T6 (List.getD v11 (Int.toNat vj) [])).1)),(4,i6.var vo o4)]))))))) (.ret ((o2,v6,()))):=by kernel_rfl
theorem c0S {l:List wB}:∀ {a:List Int×Int},a.2<=(l.foldl yp a).2/\(l.foldl yp a).2<=a.2+l.length:=by
  induction l with
  | nil=>intro a; simp
  | cons s l ih =>
    intro a;have:=ih (a:=yp a s);rw [aGp,aAh];unfold yp at this ⊢;split at this
    . rename_i h; rw [if_pos h]; have:=this; simp only at this; omega
    . rename_i h; rw [if_neg h]; have:=this; simp only at this; omega
theorem c3H {v:List Int} {l:List wB} {k:Nat} (hk:k<l.length):N7 v (l.take (k+1))=yp (N7 v (l.take k)) (l.getD k []):=by
  unfold N7;rw [aGc,List.foldl_append,aAf hk,aAb,aAf hk];rfl
theorem c2r:FW.Valid Tryz.prog 57:=by
  refine p7.n8 Iz rfl rfl Tryz.func57 (c:=d8 Tryz.prog 57) rfl rfl IH rfl ?_;rintro ⟨(v:List Int),(l:List wB),⟨⟩⟩ (hp:∀ s∈l,s.length<=4294967280) ⟨-,hr,-⟩;have hlen:l.length<=9223372036854775807:=hr.1;refine j6 (n:=1000) Iz IH ?_;refine i7 (Vw v l) ?_;refine Reach.M7 Iz IH (λ k:Nat=>Od (N7 v (l.take k)).2 l (l.length:Int) (k:Int) (N7 v (l.take k)).1 (List.replicate 10 0)) (λ k=>k<=l.length) (λ k=>l.length - k) 1000 (λ _=>⟨s9 rfl,s9 rfl⟩) ?_ 0 (by omega);rintro k hk - ih;have hk:k<=l.length:=hk;refine i7 (WG ..) ?_;have hb:=c0S (l:=l.take k) (a:=(v,0));have hb:0<=(N7 v (l.take k)).2/\(N7 v (l.take k)).2<=k:=by
    have e:(N7 v (l.take k)).2=((l.take k).foldl yp (v,0)).2:=rfl;rw [e]; rw [aAk] at hb;simp only at hb; omega
  simp only [j7,Tree.holds,sL];refine ⟨λ c=>⟨by omega,λ _=>?_⟩,λ c=>?_⟩
  . have pR:k<l.length:=by omega
    have hm:l.getD k []∈l:=by rw [aAb,aAf pR]; exact aCp pR
    have ht:=c3H (v:=v) pR;have nx:=ih (k+1) (by omega) (by omega);rw [ht] at nx;unfold yp at nx;refine ⟨hp _ hm,λ _=>⟨λ e=>⟨by omega,λ _=>⟨by omega,λ _=>?_⟩⟩,λ e=>?_⟩⟩
    . rw [if_neg e] at nx;exact nx
    . have e:(T6 (l.getD k [])).2=0:=by omega
      obtain ⟨r1,r2,-⟩:=Vi e;rw [if_pos e] at nx;exact ⟨⟨r1,r2⟩,λ _=>⟨by omega,λ _=>nx⟩⟩
  . have:k=l.length:=by omega
    subst this;rw [aDo]; rfl
def zeroV:List Int:=[0,0,0,0,0,0,0,0,0,0]
def O5 (l:List D7):List yY:=l.map (λ s=>s.2.1)
def wh (w:f9) (p:Int):List Int×Int×Unit:=if known w p≠0 then (zeroV,known w p,()) else ((N7 zeroV (O5 (L9 w p))).1,0,())
def DD:p7:={ ps:=[.rd H3,.v d9],rs:=[vo,d9],pre:=λ x=>List.length (α:=n9) (x.1:f9).2.1<=6/\List.length (α:=D7) (L9 x.1 x.2.1)<=5864062014805/\∀ s∈L9 x.1 x.2.1,s.2.1.length<=4294967280,fn:=λ x=>wh x.1 x.2.1,out:=λ _=>() }
noncomputable def BJ:Env:={ P:=Tryz.prog,tt:=tt,C9:=[(19,Bd),(57,FW)],res:=[Go.ResultVar.cell 4 60,Go.ResultVar.tmp 5],rs:=[Ty.arr 10 d9,Ty.int IntKind.i64],ps:=[PK.rd H3,PK.v d9],B8:=[(6,[(4,none),(8,some (Ty.d0 true Ty.str)),(23,some (Ty.d0 true r8)),(24,none),(25,none)])],nt:=42 }
theorem Ki:w7 BJ:=x6 r7 ⟨Le,c2r,trivial⟩
theorem Kn:C0 BJ Tryz.f30:=⟨rfl,rfl⟩
theorem Yz (ai:Int) (af:Int) (ab:List n9) (ae:List yY) (aa:List yY) (x1:Int):exec BJ 1000 [.code (d8 Tryz.prog 30)] (s5 DD.ps ((((ai,af,()),ab,ae,aa,()),x1,()))) =
  .f8 (List.length ab<=6/\List.length (L9 ((ai,af,()),ab,ae,aa,()) x1)<=5864062014805) (cond (decide (Prod.fst (T3 ((ai,af,()),ab,ae,aa,()) x1).2≠(0:Int))) (.ret (([(0:Int),(0:Int),(0:Int),(0:Int),(0:Int),(0:Int),(0:Int),(0:Int),(0:Int),(0:Int)],Prod.fst (T3 ((ai,af,()),ab,ae,aa,()) x1).2,()))) (.ctL (g8 (d8 Tryz.prog 30) 6) (St.mk [(4,AV.ptr 4 []),(8,AV.at_ 1000008 []),(23,AV.at_ 1000023 []),(24,AV.val d9 (↑(List.length (T3 ((ai,af,()),ab,ae,aa,()) x1).1):Int)),(25,AV.val d9 (0:Int))] [(4,i6.var vo [(0:Int),(0:Int),(0:Int),(0:Int),(0:Int),(0:Int),(0:Int),(0:Int),(0:Int),(0:Int)]),(1000008,i6.own (Ty.d0 true Ty.str) []),(1000023,i6.own (Ty.d0 true r8) (T3 ((ai,af,()),ab,ae,aa,()) x1).1)]))):=by kernel_rfl
def Kj (v24:Int) (wO:Int) (o4:List Int) (ee:List yY) (ed:List (Int×yY×Unit)):St:=St.mk [(4,AV.ptr 4 []),(8,AV.at_ 1000008 []),(23,AV.at_ 1000023 []),(24,AV.val d9 v24),(25,AV.val d9 wO)] [(4,i6.var vo o4),(1000008,i6.own (Ty.d0 true Ty.str) ee),(1000023,i6.own (Ty.d0 true r8) ed)]
theorem c46 (v24:Int) (wO:Int) (o4:List Int) (ee:List yY) (ed:List (Int×yY×Unit)):exec BJ 1000 (.code (g8 (d8 Tryz.prog 30) 6).1::.inLoop (g8 (d8 Tryz.prog 30) 6).1::(g8 (d8 Tryz.prog 30) 6).2) (Kj v24 wO o4 ee ed) =
  cond (decide (wO<v24)) (.f8 ((0:Int)<=wO/\wO<(↑(List.length ed):Int)) (.f8 (List.length ee+List.length (List.set [[]] (Int.toNat (↑0:Int)) (List.getD ed (Int.toNat wO) ((0:Int),[],())).2.1)<=140737488355328/\(List.length ee+List.length (List.set [[]] (Int.toNat (↑0:Int)) (List.getD ed (Int.toNat wO) ((0:Int),[],())).2.1))*Ty.wb Ty.str<=140737488355328) (.f8 (r9 IntKind.i64 (wO+(1:Int))) (.ctL (g8 (d8 Tryz.prog 30) 6) (St.mk [(4,AV.ptr 4 []),(8,AV.at_ 1000008 []),(23,AV.at_ 1000023 []),(24,AV.val d9 v24),(25,AV.val d9 (wO+(1:Int)))] [(4,i6.var vo o4),(1000008,i6.own (Ty.d0 true Ty.str) (ee++List.set [[]] (Int.toNat (↑0:Int)) (List.getD ed (Int.toNat wO) ((0:Int),[],())).2.1)),(1000023,i6.own (Ty.d0 true r8) ed)]))))) (.f8 (∀ (s:wB),s∈ee->List.length s<=4294967280) (.ret ((Prod.fst (N7 [(0:Int),(0:Int),(0:Int),(0:Int),(0:Int),(0:Int),(0:Int),(0:Int),(0:Int),(0:Int)] ee),(0:Int),())))):=by kernel_rfl
theorem Xr {w:f9} {p:Int} (h:¬ (T3 w p).2.1≠0):(T3 w p).1=L9 w p/\¬ known w p≠0:=by
  unfold T3 at h ⊢;split at h
  . rename_i h1; exact absurd h1 h
  . rename_i h1; rw [if_neg h1]; exact ⟨rfl,h1⟩
theorem OO {w:f9} {p:Int} (h:(T3 w p).2.1≠0):known w p≠0/\(T3 w p).2.1=known w p:=by
  unfold T3 at h ⊢;split at h
  . rename_i h1; rw [if_pos h1]; exact ⟨h1,rfl⟩
  . rename_i h1; exact absurd rfl h
attribute [local irreducible] T3 N7 wh in
theorem b8G:DD.Valid Tryz.prog 30:=by
  refine p7.n8 Ki rfl rfl Tryz.func30 (c:=d8 Tryz.prog 30) rfl rfl Kn rfl ?_;rintro ⟨⟨⟨(v0:Int),(v1:Int),⟨⟩⟩,(al:List n9),(od:List yY),(wy:List yY),⟨⟩⟩,(p:Int),⟨⟩⟩ ⟨(hp:al.length<=6),(hl:(L9 ((v0,v1,()),al,od,wy,()) p).length<=5864062014805),(ht:∀ s∈L9 ((v0,v1,()),al,od,wy,()) p,s.2.1.length<=4294967280)⟩ -
  refine j6 (n:=1000) Ki Kn ?_;refine i7 (Yz v0 v1 al od wy p) ?_;simp only [j7,Tree.holds,sL];have key:∀ r:List Int×Int×Unit,wh ((v0,v1,()),al,od,wy,()) p=r->r=wh ((v0,v1,()),al,od,wy,()) p:=by rintro r rfl; rfl
  have e1:=λ a=>(wh.eq_1 ((v0,v1,()),al,od,wy,()) p).trans (if_pos a);have e2:=λ a=>(wh.eq_1 ((v0,v1,()),al,od,wy,()) p).trans (if_neg a);refine ⟨⟨hp,hl⟩,λ _=>⟨λ a=>key _ ?_,λ a=>?_⟩⟩
  . rw [e1 (OO a).1,(OO a).2]; rfl
  obtain ⟨g1,g2⟩:=Xr a;rw [g1];have e3:=e2 g2;obtain ⟨l,kb⟩:∃ l,l=L9 ((v0,v1,()),al,od,wy,()) p:=⟨_,rfl⟩;rw [<- kb] at hl ht e3 ⊢;have key2:DD.fn (((v0,v1,()),al,od,wy,()),p,())=((N7 zeroV (O5 l)).1,0,()):=e3;suffices go:Go.Ex.Reach BJ Tryz.f30 ((N7 zeroV (O5 l)).1,(0:Int),()) () (.code (g8 (d8 Tryz.prog 30) 6).1::.inLoop (g8 (d8 Tryz.prog 30) 6).1::(g8 (d8 Tryz.prog 30) 6).2) (Kj (l.length:Int) ((0:Nat):Int) zeroV (O5 (l.take 0)) l) by
    rw [e3]; exact go
  refine Reach.M7 Ki Kn (λ i:Nat=>Kj (l.length:Int) (i:Int) zeroV (O5 (l.take i)) l) (λ i=>i<=l.length) (λ i=>l.length - i) 1000 (λ _=>⟨s9 rfl,s9 rfl⟩) ?_ 0 (aAz _);rintro i k1 - ih;have k1:i<=l.length:=k1;refine i7 (c46 ..) ?_;have e4:((i:Nat):Int)+1=((i+1:Nat):Int):=by omega
  have iu:Ty.wb .str=16:=rfl;have hlen:(O5 (l.take i)).length=i:=by unfold O5; rw [aAn,aAk]; omega
  simp only [j7,Tree.holds,e4,hlen,iu,sL];refine ⟨λ c=>⟨by omega,λ _=>⟨by omega,λ _=>⟨F6.2 ⟨by omega,by omega⟩,λ _=>?_⟩⟩⟩,λ c=>⟨?_,λ _=>?_⟩⟩
  . have:=ih (i+1) (by show i+1<=l.length; omega) (by show l.length - (i+1)<l.length - i; omega);rw [show O5 (l.take (i+1))=O5 (l.take i)++[(l.getD i (0,[],())).2.1] by
      unfold O5;rw [Fu (show i<l.length by omega) (0,[],()),aEx]; rfl] at this
    exact this
  . intro s hs;unfold O5 at hs;obtain ⟨y,hy,rfl⟩:=aCu.1 hs;exact ht y (aFu hy)
  . obtain rfl:i=l.length:=by omega
    rw [aDo]; rfl
end Go.Proofs.YtijlnmgondibnaaGreatDoor
namespace Go.Proofs.YtijlnmgondibnaaGreatDoor
open Go.Ex
set_option maxRecDepth 100000
structure Sz (c:Nat) (w:f9):Prop where
  log:∀ i:Nat,(w.2.1.getD i j8).2.1.length<=c
  ord:w.2.2.1.length<=c
  txt:∀ i:Nat,∀ s∈(w.2.1.getD i j8).2.1,s.2.1.length<=200
  late:∀ i:Nat,(w.2.1.getD i j8).2.2.1.2.1.length<=16
theorem Sz.mono {c d:Nat} {w:f9} (h:Sz c w) (hd:c<=d):Sz d w:=⟨λ i=>aAv (h.log i) hd,aAv h.ord hd,h.txt,h.late⟩
structure M5 (k:Nat) (w w':f9):Prop where
  view:w'.1=w.1
  len:w'.2.1.length=w.2.1.length
  log:∀ i:Nat,(w.2.1.getD i j8).2.1 <+: (w'.2.1.getD i j8).2.1
  fal:∀ i:Nat,(w'.2.1.getD i j8).1=(w.2.1.getD i j8).1
  sz:∀ c,Sz c w->Sz (c+k) w'
theorem M5.same {w w':f9} (h1:w'.1=w.1) (h2:w'.2.1=w.2.1) (h3:w'.2.2.1=w.2.2.1):M5 0 w w' :=
  ⟨h1,by rw [h2],λ i=>by rw [h2]; exact aCe,λ i=>by rw [h2],λ c h=>⟨by rw [h2]; exact h.log,by rw [h3]; exact h.ord,by rw [h2]; exact h.txt,by rw [h2]; exact h.late⟩⟩
theorem M5.more {k l:Nat} {w w':f9} (h:M5 k w w') (hl:k<=l):M5 l w w':=⟨h.view,h.len,h.log,h.fal,λ c hc=>(h.sz c hc).mono (by omega)⟩
theorem M5.trans {k l:Nat} {w w' w'':f9} (h:M5 k w w') (h':M5 l w' w''):M5 (k+l) w w'' :=
  ⟨h'.view.trans h.view,h'.len.trans h.len,λ i=>(h.log i).trans (h'.log i),λ i=>(h'.fal i).trans (h.fal i),λ c hc=>by rw [<- aBk]; exact h'.sz _ (h.sz c hc)⟩
theorem X4.Dh {P:C2->Prop} {w w':f9} (h:X4 P w w'):M5 0 w w':=.same h.view h.all h.ord
theorem M5.set {k:Nat} {w:f9} {p:Nat} {x:n9} (h1:(w.2.1.getD p j8).2.1 <+: x.2.1) (h2:x.1=(w.2.1.getD p j8).1) (h3:x.2.1.length<=(w.2.1.getD p j8).2.1.length+k)
    (h4:(∀ s∈(w.2.1.getD p j8).2.1,s.2.1.length<=200)->∀ s∈x.2.1,s.2.1.length<=200) (h5:(w.2.1.getD p j8).2.2.1.2.1.length<=16->x.2.2.1.2.1.length<=16):M5 k w (w.1,w.2.1.set p x,w.2.2):=by
  have hg:∀ i,(w.2.1.set p x).getD i j8=x/\p=i\/(w.2.1.set p x).getD i j8=w.2.1.getD i j8:=λ i=>by
    rw [Y1]
    split
    . rename_i e; exact .inl ⟨rfl,e.1⟩
    . exact .inr rfl
  refine ⟨rfl,aCa ..,λ i=>?_,λ i=>?_,λ c hc=>⟨λ i=>?_,aAv hc.ord (aDn _ _),λ i=>?_,λ i=>?_⟩⟩
  . rcases hg i with ⟨e,rfl⟩|e
    . show _ <+: ((w.2.1.set p x).getD p j8).2.1; rw [e]; exact h1
    . show _ <+: ((w.2.1.set p x).getD i j8).2.1; rw [e]; exact aCe
  . rcases hg i with ⟨e,rfl⟩|e
    . show ((w.2.1.set p x).getD p j8).1=_; rw [e]; exact h2
    . show ((w.2.1.set p x).getD i j8).1=_; rw [e]
  . rcases hg i with ⟨e,rfl⟩|e
    . show ((w.2.1.set p x).getD p j8).2.1.length<=_; rw [e]; have:=hc.log p; omega
    . show ((w.2.1.set p x).getD i j8).2.1.length<=_; rw [e]; have:=hc.log i; omega
  . rcases hg i with ⟨e,rfl⟩|e
    . show ∀ s∈((w.2.1.set p x).getD p j8).2.1,_; rw [e]; exact h4 (hc.txt p)
    . show ∀ s∈((w.2.1.set p x).getD i j8).2.1,_; rw [e]; exact hc.txt i
  . rcases hg i with ⟨e,rfl⟩|e
    . show ((w.2.1.set p x).getD p j8).2.2.1.2.1.length<=_; rw [e]; exact h5 (hc.late p)
    . show ((w.2.1.set p x).getD i j8).2.2.1.2.1.length<=_; rw [e]; exact hc.late i
theorem Rb {w:f9} {k f t q:Int} {x:D8}:M5 0 w (N1 w k f t q x):=by
  obtain ⟨h1,h2,h3⟩:=EZ (w:=w) (k:=k) (f:=f) (t:=t) (s:=q) (x:=x);exact .same h2 h1 h3
theorem Sc (w:f9) (p:Int) (t:D8):M5 0 w (vx w p t).1:=by
  rw [vx]
  split
  . exact .same rfl rfl rfl
  split
  . exact .same rfl rfl rfl
  split
  . exact .same rfl rfl rfl
  split
  . exact .same rfl rfl rfl
  . rename_i hl;obtain ⟨g1,g2,g3⟩:=OP hl;have aM:=xY g2;refine M5.trans (w':=setFrom w p (R9 (wt w p) t).1) (k:=0) ?_ Rb;refine M5.set (k:=0) aCe rfl (aAj _) id (λ _=>?_);rw [g1]; exact aM.2.1
theorem TU (w:f9) (p:Int):M5 0 w (X0 w p).1:=by
  rw [X0]
  split
  . exact .same rfl rfl rfl
  . obtain ⟨h1,h2,h3⟩:=KV (p:=p) (l:=yr w p) (w:=w) (yr w p).length;exact (M5.same h2 h1 h3).trans Rb
theorem b8r (w:f9) (n:C2):M5 16 w (Y5 w n):=by
  rw [Y5]
  split
  . exact (M5.same rfl rfl rfl).more (by omega)
  . rename_i he;obtain ⟨-,-,a3,-⟩:=zx (aBq.1 he);have h0:M5 0 w (a12 w n.2.1 (yz (P8 w n.2.1) (Z7 w n).1)):=M5.set aCe rfl (aAj _) id id;obtain ⟨h1,h2,h3⟩:=KA (f:=n.2.1) (first:=(P8 w n.2.1).2.2.2.2.1.1) (l:=(Z7 w n).2.1) (w:=a12 w n.2.1 (yz (P8 w n.2.1) (Z7 w n).1)) (Z7 w n).2.1.length;refine (h0.trans (l:=16) ⟨h2,by rw [h1],λ i=>by rw [h1]; exact aCe,λ i=>by rw [h1],λ c hc=>⟨λ i=>?_,?_,by rw [h1]; exact hc.txt,by rw [h1]; exact hc.late⟩⟩).more (by omega)
    . rw [h1]; have:=hc.log i; omega
    . rw [h3];have:=hc.ord;have a3:(Z7 w n).2.1.length<=16:=a3;omega
theorem b8w {s:vV} {x:Int} (h:(S7 s x).2.1=0):(S7 s x).1.2.1.length<=s.2.1.length:=by
  unfold S7 at h ⊢
  split
  . rename_i h1; rw [if_pos h1] at h; exact absurd h h1
  . rename_i h1;rw [if_neg h1] at h
    split
    . rename_i h2; rw [if_pos h2] at h; exact absurd h (by decide)
    . exact aAq ..▸Nat.sub_le _ _
theorem b8A (q:Int) (x:n9) (t:D8):(wq q x t).1=x.1/\(x.2.2.1.2.1.length<=16->(wq q x t).2.2.1.2.1.length<=16):=by
  by_cases h:who t=q/\(S7 x.2.2.1 (nth t+1)).2.1=0
  . rw [KG h.1 h.2];exact ⟨rfl,λ h2=>aAv (b8w h.2) h2⟩
  . rw [EL h];exact ⟨rfl,id⟩
theorem YX (t:D8):(xm t).length<=t.length:=by
  unfold xm;exact aAv (Cf _).2 (Cf _).2
theorem Uv {q:Int} {x:n9} {l:List D8} (hl:∀ t∈l,E7 t=false):∀ {i},i<=l.length->x.2.1 <+: (K7 q x l i).2.1/\(K7 q x l i).1=x.1/\(x.2.2.1.2.1.length<=16->(K7 q x l i).2.2.1.2.1.length<=16) /\
    ((∀ s∈x.2.1,s.2.1.length<=200)->∀ s∈(K7 q x l i).2.1,s.2.1.length<=200)
  | 0,_=>⟨aCe,rfl,id,id⟩
  | i+1,hi=>by
    obtain ⟨h1,h2,h3,h4⟩:=Uv (q:=q) (x:=x) hl (show i<=l.length by omega);obtain ⟨g1,g2⟩:=b8A q (K7 q x l i) (l.getD i []);have g3:=Sv q (K7 q x l i) (l.getD i []);rw [K7];refine ⟨h1.trans (by rw [g3]; exact aFc ..),g1.trans h2,λ h=>g2 (h3 h),λ h s hs=>?_⟩;rw [g3] at hs;rcases aAi.1 hs with hs|hs
    . exact h4 h s hs
    . rw [aBg] at hs;rw [hs];have hm:l.getD i []∈l:=by rw [aAb,aAf (by omega)]; exact aCp _
      exact aAv (YX _) (KI (hl _ hm))
theorem c0L (w:f9) (n:C2):M5 16 w (vM w n):=by
  rw [vM]
  split
  . exact (M5.same rfl rfl rfl).more (by omega)
  . rename_i he;obtain ⟨a1,-,a3,-⟩:=zx (aBq.1 he);obtain ⟨h1,h2,h3,h4⟩:=Uv (q:=n.2.2.1) (x:=Bw (P8 w n.2.2.1) (S5 w n).1) (λ t ht=>(a1 t ht).2) (aAj (S5 w n).2.1.length);have h5:=LC (q:=n.2.2.1) (x:=Bw (P8 w n.2.2.1) (S5 w n).1) (l:=(S5 w n).2.1) (S5 w n).2.1.length;refine M5.set (k:=16) h1 h2 ?_ h4 h3;rw [h5];have a3:(S5 w n).2.1.length<=16:=a3;exact aHu a3 _
theorem b46 (w:f9) (n:C2):M5 16 w (H2 w n):=by
  rw [H2]
  split
  . exact (M5.same rfl rfl rfl).more (by omega)
  split
  . exact b8r w n
  split
  . obtain ⟨h1,h2,h3⟩:=AM (w:=w) (n:=n) 4;exact (M5.same h2 h1 h3).more (by omega)
  split
  . exact c0L w n
  . exact (M5.same rfl rfl rfl).more (by omega)
theorem SN (w:f9) (k bC:Int):M5 16 w (G7 w k bC).1:=by
  have h0:M5 16 w w:=(M5.same rfl rfl rfl).more (by omega);rw [G7]
  split
  . exact h0
  split
  . exact h0
  split
  . exact h0
  split
  . exact (M5.same (w:=w) (w':=DC w k.toNat) rfl rfl rfl).more (aAz 16)
  . refine (M5.trans (k:=0) (l:=16) (w':=ze w k) (M5.same (w:=w) (w':=ze w k) rfl rfl rfl) ?_).more (aAj 16);show M5 16 (ze w k) (xr (ze w k) bC (w.2.2.2.1.getD k.toNat []));rw [xr]
    split
    . exact b46 _ _
    . exact (M5.same rfl rfl rfl).more (by omega)
abbrev G2:=Int×Int×Int×yY×Unit
def R2 (w:f9) (d:G2):f9×Int :=
  if d.1=1 then vx w d.2.1 d.2.2.2.1 else if d.1=2 then X0 w d.2.1 else if d.1=3 then G7 w d.2.1 d.2.2.1 else if d.1=4 then vY w d.2.1 else if d.1=5 then C4 w else (w,1)
structure Ok (c:Nat) (said:Nat->List D8) (w:f9):Prop where
  mem:0<=w.1.2.1/\w.1.2.1<=255
  sz:Sz c w
  inv:∃ B S Q,Inv said B S Q w
structure Good (w:f9):Prop where
  move:Cd w
  change:yM w
theorem Ok.K1 {c:Nat} {said:Nat->List D8} {w:f9} (h:Ok c said w):w.2.1.length<=6:=by
  obtain ⟨B,S,Q,hI⟩:=h.inv;exact hI.K1
theorem Inv.note {said:Nat->List D8} {B:List D7} {S:Nat->List D8} {Q:List W7} {w:f9} (h:Inv said B S Q w) {s:D8} (hs:s∈w.2.2.2.1) (h1:(x7 s).2.1=0) (h2:(x7 s).1.2.2.2.1=w.1.1) (h3:s8 w (x7 s).1.2.2.1=true) {c:Nat} (hc:Sz c w) (dJ:c<=1000000000000):xy w (x7 s).1:=by
  obtain ⟨p,hp,cd,hv,-⟩:=CF.1 h3;obtain ⟨⟨m,hM⟩,-⟩:=h.mem p cd hv;have hm:=(h.msg s hs h1).2 h2;refine ⟨h.K1,by omega,QB h1,?_,aAv hc.ord dJ,λ hk t ht=>?_⟩
  . rw [hp]; exact aAv (hc.log p) dJ
  . have cE:P8 w (x7 s).1.2.2.1=w.2.1.getD p j8:=by rw [hp]; rfl
    unfold S5 at ht;rw [cE] at ht;have cT:∃ i:Nat,(Q4 Q)[i]?=some t:=by
      by_cases he:(D9 (w.2.1.getD p j8).2.2.2.1 ((x7 s).1.2.2.2.2.1,(x7 s).1.2.2.2.2.2.2.1,())).2.2.1=0
      . obtain ⟨a1,-⟩:=zx he;rcases (a1 t ht).1 with e|⟨q,hq,e⟩
        . refine ⟨(x7 s).1.2.2.2.2.1.toNat,?_⟩;rw [e,<- h.ord];exact hm.2 hk
        . exact ⟨_,by rw [e]; exact hM.wait q hq⟩
      . rw [c36 he] at ht; cases ht
    obtain ⟨i,hi⟩:=cT;rw [Rh] at hi;cases hQ:Q[i]? with
    | none=>rw [hQ] at hi; cases hi
    | some y =>
      rw [hQ] at hi;have e:J5 y.1 (C5 y.1 (Q.take i)).length y.2=t:=by simpa using hi
      have hy:=h.le5 y (aEu hQ);have h5:=((zD (p:=y.1) (Q:=Q) (i:=i)).trans (h.zV y.1)).length_le;have h6:=h.short y.1;exact ⟨y.1,_,y.2,hy,by omega,e.symm⟩
theorem Ok.zQ {c:Nat} {said:Nat->List D8} {w:f9} (h:Ok c said w) (hc:c<=1000000000000):Good w:=by
  obtain ⟨B,S,Q,hI⟩:=h.inv;exact ⟨⟨hI.K1,hI.way,λ s hs h1 h2 h3=>hI.note hs h1 h2 h3 h.sz hc⟩,hI.K1,λ i=>aAv (h.sz.log i) (by omega),λ i=>aAv (h.sz.late i) (by omega)⟩
def wY (said:Nat->List D8) (d:G2) (e:Int):Nat->List D8:=if d.1=1/\e=0 then wm said d.2.1.toNat (said d.2.1.toNat++[d.2.2.2.1]) else said
structure yW (c:Nat) (said:Nat->List D8) (w:f9) (d:G2) (w':f9) (e:Int):Prop where
  ok:Ok (c+16) (wY said d e) w'
  len:w'.2.1.length=w.2.1.length
  log:∀ i:Nat,(w.2.1.getD i j8).2.1 <+: (w'.2.1.getD i j8).2.1
  fal:∀ i:Nat,i<w.2.1.length->(w'.2.1.getD i j8).1=((w.2.1.getD i j8).1 || decide (d.1=4/\e=0/\d.2.1=i))
  mem:∀ i:Nat,i<w.2.1.length->T1 w'.1.2.1 i=true->T1 w.1.2.1 i=true
theorem yW.Dh {c:Nat} {said:Nat->List D8} {w w':f9} {d:G2} {e:Int} (h:Ok c said w) (hm:M5 16 w w') (hi:∃ B S Q,Inv (wY said d e) B S Q w') (hf:d.1≠4):yW c said w d w' e :=
  ⟨⟨by rw [hm.view]; exact h.mem,hm.sz c h.sz,hi⟩,hm.len,hm.log,λ i _=>by rw [hm.fal i,show decide (d.1=4/\e=0/\d.2.1=i)=false from decide_eq_false (λ c=>hf c.1),aDi],λ i _ h=>by rw [hm.view] at h; exact h⟩
theorem TR {w:f9} {p:Int} (h:¬ M8 w p≠0):s8 w p=true:=by
  unfold M8 at h;split at h
  . rename_i h1; exact absurd h1 h
  . split at h
    . rename_i h2; exact h2
    . exact absurd (by decide) h
theorem EU {w:f9} {p:Int}:¬ known w p≠0↔0<=p/\p<(w.2.1.length:Int):=by
  unfold known
  split
  . rename_i h;have:=W5.1 h;constructor
    . intro _; omega
    . intro _ h2; exact h2 rfl
  . rename_i h;constructor
    . intro h2; exact absurd (by decide) h2
    . intro h2; exact absurd (W5.2 ⟨h2.1,by omega⟩) h
theorem Cg {c:Nat} {said:Nat->List D8} {w:f9} (h:Ok c said w) (d:G2):yW c said w d (R2 w d).1 (R2 w d).2:=by
  obtain ⟨B,S,Q,hI⟩:=h.inv;have stay:∀ e:Int,(d.1=1->e≠0)->(d.1=4->e≠0)->yW c said w d w e:=λ e he hf =>
    ⟨⟨h.mem,h.sz.mono (by omega),B,S,Q,by rw [wY,if_neg (λ c=>he c.1 c.2)]; exact hI⟩,rfl,λ _=>aCe,λ i _=>by rw [show decide (d.1=4/\e=0/\d.2.1=i)=false from decide_eq_false (λ c=>hf c.1 c.2.1),aDi],λ _ _ h=>h⟩
  unfold R2;by_cases c1:d.1=1
  . rw [if_pos c1];have iW:=(Sc w d.2.1 d.2.2.2.1).more (aAz 16);have hf:d.1=4->False:=λ e=>by omega
    rw [vx] at iW ⊢;by_cases a:M8 w d.2.1≠0
    . rw [if_pos a]; exact stay _ (λ _=>a) (λ e=>(hf e).elim)
    rw [if_neg a] at iW ⊢;by_cases b:(150:Int)<d.2.2.2.1.length
    . rw [if_pos b]; exact stay 2 (λ _=>by decide) (λ e=>(hf e).elim)
    rw [if_neg b] at iW ⊢;by_cases b2:(w.2.2.2.1.length:Int)=60
    . rw [if_pos b2]; exact stay 8 (λ _=>by decide) (λ e=>(hf e).elim)
    rw [if_neg b2] at iW ⊢;by_cases b3:(R9 (wt w d.2.1) d.2.2.2.1).2.1≠0
    . rw [if_pos b3]; exact stay _ (λ _=>b3) (λ e=>(hf e).elim)
    rw [if_neg b3] at iW ⊢;obtain ⟨p,hp,cd,hv,-⟩:=CF.1 (TR a);refine yW.Dh h iW ?_ (λ e=>hf e);rw [wY,if_pos ⟨c1,rfl⟩,hp];rw [hp] at b3;exact ⟨_,_,_,hI.say cd hv b3⟩
  rw [if_neg c1];by_cases c2:d.1=2
  . rw [if_pos c2];have iW:=(TU w d.2.1).more (aAz 16);rw [X0] at iW ⊢;by_cases a:M8 w d.2.1≠0
    . rw [if_pos a]; exact stay _ (λ e=>absurd e c1) (λ e=>by omega)
    rw [if_neg a] at iW ⊢;obtain ⟨p,hp,cd,hv,-⟩:=CF.1 (TR a);refine yW.Dh h iW ?_ (by omega);rw [wY,if_neg (λ c=>c1 c.1),hp];exact ⟨_,_,_,hI.again cd hv⟩
  rw [if_neg c2];by_cases c3:d.1=3
  . rw [if_pos c3];refine yW.Dh h (SN _ _ _) ?_ (by omega);rw [wY,if_neg (λ c=>c1 c.1)];obtain ⟨Q',h'⟩:=hI.move d.2.1 d.2.2.1;exact ⟨_,_,_,h'⟩
  rw [if_neg c3];by_cases c4:d.1=4
  . rw [if_pos c4];unfold vY;by_cases a:known w d.2.1≠0
    . rw [if_pos a]; exact stay _ (λ e=>absurd e c1) (λ _=>a)
    rw [if_neg a];have hk:=EU.1 a;obtain ⟨p,hp⟩:∃ p:Nat,d.2.1=p:=⟨d.2.1.toNat,by omega⟩;rw [hp] at hk ⊢;have cd:p<w.2.1.length:=by omega
    have hg:∀ i,(w.2.1.set p (true,(w.2.1.getD p j8).2)).getD i j8=if p=i then (true,(w.2.1.getD p j8).2) else w.2.1.getD i j8:=λ i=>by
      rw [Y1];by_cases e:p=i
      . rw [if_pos ⟨e,cd⟩,if_pos e]
      . rw [if_neg (λ h=>e h.1),if_neg e]
    have gD:∀ i,((w.2.1.set p (true,(w.2.1.getD p j8).2)).getD i j8).2=(w.2.1.getD i j8).2:=λ i=>by
      rw [hg]; split
      . rename_i e; rw [e]
      . rfl
    refine ⟨⟨h.mem,⟨λ i=>?_,aAv h.sz.ord (aDn _ _),λ i=>?_,λ i=>?_⟩,B,S,Q,?_⟩,aCa ..,λ i=>?_,λ i hi=>?_,λ _ _ h=>h⟩
    . show ((w.2.1.set p (true,(w.2.1.getD p j8).2)).getD i j8).2.1.length<=_;rw [gD]; exact aAv (h.sz.log i) (aDn _ _)
    . show ∀ s∈((w.2.1.set p (true,(w.2.1.getD p j8).2)).getD i j8).2.1,_;rw [gD]; exact h.sz.txt i
    . show ((w.2.1.set p (true,(w.2.1.getD p j8).2)).getD i j8).2.2.1.2.1.length<=_;rw [gD]; exact h.sz.late i
    . rw [wY,if_neg (λ c=>c1 c.1)]; exact hI.UU p
    . show _ <+: ((w.2.1.set p (true,(w.2.1.getD p j8).2)).getD i j8).2.1;rw [gD]; exact aCe
    . show ((w.2.1.set p (true,(w.2.1.getD p j8).2)).getD i j8).1=_;rw [hg];by_cases e:p=i
      . rw [if_pos e,decide_eq_true ⟨c4,rfl,by rw [hp,e]⟩,Bool.or_true]
      . rw [if_neg e,decide_eq_false (λ c=>e (by have:=c.2.2; omega)),aDi]
  rw [if_neg c4];by_cases c5:d.1=5
  . rw [if_pos c5];by_cases a:(L7 w).2.1≠0
    . rw [yL a]; exact stay _ (λ e=>absurd e c1) (λ e=>absurd e c4)
    rw [CP a];obtain ⟨B',S',rO,h1,h2⟩:=hI.change h.mem a;obtain ⟨eT,kG,jP⟩:=members hI.K1 h.mem a;have hlen:(E2 w).2.1.length=w.2.1.length:=aEf ..;have cB:∀ i:Nat,i<w.2.1.length->(E2 w).2.1.getD i j8=vr w (J0 w w.2.1.length) i (w.2.1.getD i j8):=λ i hi=>TO hi;have eL:∀ i:Nat,¬ i<w.2.1.length->(E2 w).2.1.getD i j8=j8:=λ i hi=>by
      rw [aAb,aBx (by rw [hlen]; omega)]; rfl
    have oC:(J0 w w.2.1.length).length<=c/\∀ s∈J0 w w.2.1.length,s.2.1.length<=200:=by
      rcases KJ (w:=w) (k:=w.2.1.length) with e|⟨i,-,-,e⟩
      . rw [e]; exact ⟨aAz _,λ s hs=>by cases hs⟩
      . rw [e]; exact ⟨h.sz.log i,h.sz.txt i⟩
    have ff:∀ i x,(vr w (J0 w w.2.1.length) i x).2.1=J0 w w.2.1.length\/(vr w (J0 w w.2.1.length) i x).2.1=x.2.1:=λ i x=>by
      unfold vr; split
      . exact .inl rfl
      . exact .inr rfl
    have cD:∀ i x,(vr w (J0 w w.2.1.length) i x).2.2.1.2.1.length<=x.2.2.1.2.1.length:=λ i x=>by
      unfold vr; split
      . exact aAq ..▸Nat.sub_le _ _
      . exact aAj _
    refine ⟨⟨kG,⟨λ i=>?_,aAz _,λ i=>?_,λ i=>?_⟩,B',S',[],?_⟩,hlen,λ i=>?_,λ i hi=>?_,λ i hi hm=>?_⟩
    . by_cases hi:i<w.2.1.length
      . rw [cB i hi];have:=h.sz.log i;rcases ff i (w.2.1.getD i j8) with e|e
        . rw [e]; omega
        . rw [e]; omega
      . rw [eL i hi]; exact aAz _
    . by_cases hi:i<w.2.1.length
      . rw [cB i hi];rcases ff i (w.2.1.getD i j8) with e|e
        . rw [e]; exact oC.2
        . rw [e]; exact h.sz.txt i
      . rw [eL i hi]; exact λ s hs=>by cases hs
    . by_cases hi:i<w.2.1.length
      . rw [cB i hi]; exact aAv (cD _ _) (h.sz.late i)
      . rw [eL i hi]; exact aAz _
    . rw [wY,if_neg (λ c=>c1 c.1)]; exact rO
    . by_cases hi:i<w.2.1.length
      . exact h2 i hi
      . have e:w.2.1.getD i j8=j8:=by rw [aAb,aBx (by omega)]; rfl
        rw [e]; exact aEw
    . rw [cB i hi,Nn,decide_eq_false (λ c=>c4 c.1),aDi]
    . rw [jP i hi] at hm; exact (yJ.1 hm).2.1
  . rw [if_neg c5]; exact stay _ (λ e=>absurd e c1) (λ e=>absurd e c4)
attribute [local irreducible] Go.Ex.exec
def K1 (n:Int):Int:=rest n 6+1
theorem MX (n:Int):1<=K1 n/\K1 n<=6:=by have:=Ol (a:=n) (n:=6) (by omega); unfold K1; omega
def Gm:p7:={ ps:=[.v d9],rs:=[d9],pre:=λ _=>True,fn:=λ x=>(K1 x.1,()),out:=λ _=>() }
noncomputable def FY:Env:={ P:=Tryz.prog,tt:=tt,C9:=[(39,Hu)],res:=[Go.ResultVar.tmp 2],rs:=[Ty.int IntKind.i64],ps:=[PK.v d9],B8:=[],nt:=6 }
theorem ND:w7 FY:=x6 r7 ⟨b8I,trivial⟩
theorem NO:C0 FY Tryz.f13:=⟨rfl,rfl⟩
theorem Vz (x0:Int):exec FY 1000 [.code (d8 Tryz.prog 13)] (s5 Gm.ps ((x0,()))) =
  .f8 ((6:Int)<=(1000000000:Int)) (.f8 (r9 IntKind.i64 (rest x0 (6:Int)+(1:Int))) (.ret ((rest x0 (6:Int)+(1:Int),())))):=by kernel_rfl
theorem c2e:Gm.Valid Tryz.prog 13:=by
  refine p7.n8 ND rfl rfl Tryz.func13 (c:=d8 Tryz.prog 13) rfl rfl NO rfl ?_;rintro ⟨(n:Int),⟨⟩⟩ - -
  refine j6 (n:=1000) ND NO ?_;refine i7 (Vz n) ?_;have:=MX n;have:=Ol (a:=n) (n:=6) (by omega);simp only [j7,Tree.holds,sL];exact ⟨by decide,λ _=>⟨by omega,λ _=>rfl⟩⟩
def xB (n:Int):f9:=((0,Bh n,()),List.replicate n.toNat j8,[],[],())
def Ho:p7:={ ps:=[.v d9],rs:=[.box true none u7,d9],pre:=λ x=>LE.le (α:=Int) 1 x.1/\LE.le (α:=Int) x.1 6,fn:=λ x=>(some (xB x.1),0,()),out:=λ _=>() }
theorem c3X {n:Int} (h:1<=n/\n<=6):Ds n=(some (xB n),0,()):=if_pos (W5.2 h)
theorem b8P:Ho.Valid Tryz.prog 14:=by
  refine ⟨Tf.ent,λ w S vs x L hS dI bc hK ib fF dZ=>?_,λ h=>by cases h⟩;obtain ⟨(n:Int),⟨⟩⟩:=x;have:=Tf.run w S vs (n,()) L hS dI trivial hK ib fF dZ;rw [show Gn.fn (n,())=Ho.fn (n,()) from c3X bc] at this;exact this
def GI:p7:={ ps:=[.rw u7,.v vU],rs:=[d9],pre:=λ x=>Good x.1,fn:=λ x=>((R2 x.1 x.2.1).2,()),out:=λ x=>((R2 x.1 x.2.1).1,()) }
noncomputable def HO:Env:={ P:=Tryz.prog,tt:=tt,C9:=[(15,Gq),(26,Ii),(18,DB),(37,GJ),(25,JF)],res:=[Go.ResultVar.tmp 4],rs:=[Ty.int IntKind.i64],ps:=[PK.rw u7,PK.v vU],B8:=[],nt:=39 }
theorem Rw:w7 HO:=x6 r7 ⟨c1J,b6V,TA,b8Z,UN,trivial⟩
theorem RN:C0 HO Tryz.f51:=⟨rfl,rfl⟩
theorem Yt (ai:Int) (af:Int) (ab:List n9) (ae:List yY) (aa:List yY) (bA:Int) (aG:Int) (aF:Int) (aX:yY):exec HO 1000 [.code (d8 Tryz.prog 51)] (s5 GI.ps ((((ai,af,()),ab,ae,aa,()),(bA,aG,aF,aX,()),()))) =
  cond (decide (bA=(1:Int))) (.f8 (List.length ab<=6) (.ret ((Prod.snd (vx ((ai,af,()),ab,ae,aa,()) aG aX),Prod.fst (vx ((ai,af,()),ab,ae,aa,()) aG aX),())))) (cond (decide (bA=(2:Int))) (.f8 (List.length ab<=6) (.ret ((Prod.snd (X0 ((ai,af,()),ab,ae,aa,()) aG),Prod.fst (X0 ((ai,af,()),ab,ae,aa,()) aG),())))) (cond (decide (bA=(3:Int))) (.f8 (Cd ((ai,af,()),ab,ae,aa,())) (.ret ((Prod.snd (G7 ((ai,af,()),ab,ae,aa,()) aG aF),Prod.fst (G7 ((ai,af,()),ab,ae,aa,()) aG aF),())))) (cond (decide (bA=(4:Int))) (.f8 (List.length ab<=6) (.ret ((Prod.snd (vY ((ai,af,()),ab,ae,aa,()) aG),Prod.fst (vY ((ai,af,()),ab,ae,aa,()) aG),())))) (cond (decide (bA=(5:Int))) (.f8 (yM ((ai,af,()),ab,ae,aa,())) (.ret ((Prod.snd (C4 ((ai,af,()),ab,ae,aa,())),Prod.fst (C4 ((ai,af,()),ab,ae,aa,())),())))) (.ret (((1:Int),((ai,af,()),ab,ae,aa,()),()))))))):=by kernel_rfl
attribute [local irreducible] R2 vx X0 G7 vY C4 in
theorem b81:GI.Valid Tryz.prog 51:=by
  refine p7.n8 Rw rfl rfl Tryz.func51 (c:=d8 Tryz.prog 51) rfl rfl RN rfl ?_;rintro ⟨⟨⟨(v0:Int),(v1:Int),⟨⟩⟩,(al:List n9),(od:List yY),(wy:List yY),⟨⟩⟩,⟨(k:Int),(who:Int),(bC:Int),(t:yY),⟨⟩⟩,⟨⟩⟩ (hg:Good ((v0,v1,()),al,od,wy,())) -
  refine j6 (n:=1000) Rw RN ?_;refine i7 (Yt v0 v1 al od wy k who bC t) ?_;simp only [j7,Tree.holds,sL];have key:∀ r:f9×Int,R2 ((v0,v1,()),al,od,wy,()) (k,who,bC,t,())=r->(((r.2,r.1,()):Int×f9×Unit)=((R2 ((v0,v1,()),al,od,wy,()) (k,who,bC,t,())).2,(R2 ((v0,v1,()),al,od,wy,()) (k,who,bC,t,())).1,())):=by rintro r rfl; rfl
  have e0:=R2.eq_1 ((v0,v1,()),al,od,wy,()) (k,who,bC,t,());refine ⟨λ c=>⟨hg.move.K1,λ _=>key _ (e0.trans (if_pos c))⟩,λ c1=>⟨λ c=>⟨hg.move.K1,λ _=>key _ (e0.trans ((if_neg c1).trans (if_pos c)))⟩,λ c2=>⟨λ c=>⟨hg.move,λ _=>key _ (e0.trans ((if_neg c1).trans ((if_neg c2).trans (if_pos c))))⟩,λ c3=>⟨λ c=>⟨hg.move.K1,λ _=>key _ (e0.trans ((if_neg c1).trans ((if_neg c2).trans ((if_neg c3).trans (if_pos c)))))⟩,
    λ c4=>⟨λ c=>⟨hg.change,λ _=>key _ (e0.trans ((if_neg c1).trans ((if_neg c2).trans ((if_neg c3).trans ((if_neg c4).trans (if_pos c))))))⟩,λ c5=>key (_,_) (e0.trans ((if_neg c1).trans ((if_neg c2).trans ((if_neg c3).trans ((if_neg c4).trans (if_neg c5))))))⟩⟩⟩⟩⟩
end Go.Proofs.YtijlnmgondibnaaGreatDoor
namespace Go.Proofs.YtijlnmgondibnaaGreatDoor
open Go.Ex
set_option maxRecDepth 100000
theorem QD {n i:Nat}:(List.replicate n j8).getD i j8=j8:=by
  rw [aAb,aGz]
  split<;>rfl
theorem WX {n:Int} (h:1<=n/\n<=6):Ok 0 (λ _=>[]) (xB n):=by
  have hr:∀ i,(xB n).2.1.getD i j8=j8:=λ i=>QD;have hl:(xB n).2.1.length=n.toNat:=aCg ..;refine ⟨U7 (k:=.u8) _,⟨λ i=>?_,aAz _,λ i=>?_,λ i=>?_⟩,[],λ _=>[],[],?_⟩
  . rw [hr]; exact aAz _
  . rw [hr]; exact λ s hs=>by cases hs
  . rw [hr]; exact aAz _
  . refine ⟨by rw [hl]; omega,aAz _,rfl,λ x hx=>(by cases hx),λ p=>aEw,λ p=>aAz _,λ s hs=>(by cases hs),λ p hp=>?_,λ p hp hv=>?_,λ p hp hv=>⟨rfl,aCe⟩,λ s hs=>(by cases hs)⟩
    . rw [hr]; exact ⟨rfl,λ q hq=>by cases hq⟩
    . rw [hr];exact ⟨⟨0,aAj _,rfl,λ q hq=>(by cases hq),rfl,rfl,rfl⟩,rfl⟩
def DF:G2:=(0,0,0,[],())
def Hj (k bC:Int):G2:=(3,k,bC,[],())
theorem Zd (w:f9) (k bC:Int):R2 w (Hj k bC)=G7 w k bC:=by
  unfold R2 Hj;rw [if_neg (show ¬ (3:Int)=1 by decide),if_neg (show ¬ (3:Int)=2 by decide),if_pos rfl]
theorem Ok.Hk {c:Nat} {said:Nat->List D8} {w:f9} (h:Ok c said w) (k bC:Int):Ok (c+16) said (G7 w k bC).1:=by
  have:=(Cg h (Hj k bC)).ok;rw [Zd] at this;exact this
def Gd (p:Int) (t:D8):G2:=(1,p,0,t,())
theorem XS (w:f9) (p:Int) (t:D8):R2 w (Gd p t)=vx w p t:=by
  unfold R2 Gd;exact if_pos rfl
theorem Ok.d0m {c:Nat} {said:Nat->List D8} {w:f9} (h:Ok c said w) (p:Int) (t:D8):∃ said',Ok (c+16) said' (vx w p t).1:=by
  have:=(Cg h (Gd p t)).ok;rw [XS] at this;exact ⟨_,this⟩
attribute [local irreducible] Go.Ex.exec
abbrev Dq:yY:=[115,101,116,32]
abbrev spT:yY:=[32]
def DV (i:Nat) (d:G2):G2:=if d.1=1 then (d.1,d.2.1,d.2.2.1,Dq++D5 (Int.tmod i 10)++spT++D5 i,()) else d
abbrev vX:=f9×List (List D8)×List Int
def yb (n:Int) (s:vX) (d:G2):vX :=
  if (R2 s.1 d).2≠0\/d.2.1<0\/n<=d.2.1 then ((R2 s.1 d).1,s.2) else
  ((R2 s.1 d).1,if d.1=1 then s.2.1.set d.2.1.toNat (s.2.1.getD d.2.1.toNat []++[d.2.2.2.1]) else s.2.1,if d.1=4 then s.2.2++[d.2.1] else s.2.2)
def G0 (n:Int) (l:List G2):Nat->vX
  | 0=>(xB n,List.replicate n.toNat [],[])
  | i+1=>yb n (G0 n l i) (DV i (l.getD i DF))
def IY:p7:={ ps:=[.v d9,.v (.d0 false vU)],rs:=[.box true none u7,.d0 true (.d0 true .str),.d0 true d9,.bool],pre:=λ x=>(LE.le (α:=Int) 1 x.1/\LE.le (α:=Int) x.1 6)/\List.length (α:=G2) x.2.1<=1048576,fn:=λ x=>(some (G0 x.1 x.2.1 (List.length (α:=G2) x.2.1)).1,(G0 x.1 x.2.1 (List.length (α:=G2) x.2.1)).2.1,(G0 x.1 x.2.1 (List.length (α:=G2) x.2.1)).2.2,true,()),out:=λ _=>() }
noncomputable def Cr:Env:={ P:=Tryz.prog,tt:=tt,C9:=[(14,Ho),(50,Io),(51,GI)],res:=[Go.ResultVar.tmp 4,Go.ResultVar.tmp 5,Go.ResultVar.tmp 6,Go.ResultVar.tmp 7],rs:=[Ty.box true none u7,Ty.d0 true (Ty.d0 true Ty.str),Ty.d0 true d9,Ty.bool],ps:=[PK.v d9,PK.v (Ty.d0 false vU)],B8:=[(7,[(0,none),(8,none),(10,some (Ty.d0 true (Ty.d0 true Ty.str))),(11,some Is),(28,none),(29,none),(30,none)])],nt:=91 }
theorem Lt:w7 Cr:=x6 r7 ⟨b8P,Uk,b81,trivial⟩
theorem Lx:C0 Cr Tryz.f23:=⟨rfl,rfl⟩
theorem c2X (x0:Int) (x1:List (Int×Int×Int×yY×Unit)):exec Cr 1000 [.code (d8 Tryz.prog 23)] (s5 IY.ps ((x0,x1,()))) =
  .f8 ((1:Int)<=x0/\x0<=(6:Int)) (.f8 ((0:Int)<=x0/\x0<=x0/\x0<=(140737488355328:Int)/\x0*(↑(Ty.wb (Ty.d0 true Ty.str)):Int)<=(140737488355328:Int)) (.ctL (g8 (d8 Tryz.prog 23) 7) (St.mk [(0,AV.val d9 x0),(8,AV.ptr 1017 []),(10,AV.at_ 1000010 []),(11,AV.at_ 1000011 []),(28,AV.val (Ty.d0 false vU) x1),(29,AV.val d9 (↑(List.length x1):Int)),(30,AV.val d9 (0:Int))] [(1017,i6.var u7 (((0:Int),Bh x0,()),List.replicate (Int.toNat x0) j8,[],[],())),(1000010,i6.own (Ty.d0 true (Ty.d0 true Ty.str)) (List.replicate (Int.toNat x0) [])),(1000011,i6.own Is [])]))):=by kernel_rfl
def Lu (v0:Int) (v28:List (Int×Int×Int×yY×Unit)) (wN:Int) (v30:Int) (dA:Int) (cJ:Int) (dz:List n9) (cI:List yY) (cf:List yY) (cj:List (List yY)) (bs:List Int):St:=St.mk [(0,AV.val d9 v0),(8,AV.ptr 1017 []),(10,AV.at_ 1000010 []),(11,AV.at_ 1000011 []),(28,AV.val (Ty.d0 false vU) v28),(29,AV.val d9 wN),(30,AV.val d9 v30)] [(1017,i6.var u7 ((dA,cJ,()),dz,cI,cf,())),(1000010,i6.own (Ty.d0 true (Ty.d0 true Ty.str)) cj),(1000011,i6.own Is bs)]
theorem b9d (v0:Int) (v28:List (Int×Int×Int×yY×Unit)) (wN:Int) (v30:Int) (dA:Int) (cJ:Int) (dz:List n9) (cI:List yY) (cf:List yY) (cj:List (List yY)) (bs:List Int):exec Cr 1000 (.code (g8 (d8 Tryz.prog 23) 7).1::.inLoop (g8 (d8 Tryz.prog 23) 7).1::(g8 (d8 Tryz.prog 23) 7).2) (Lu v0 v28 wN v30 dA cJ dz cI cf cj bs) =
  let q2:=(List.getD v28 (Int.toNat v30) ((0:Int),(0:Int),(0:Int),[],())); let q4:=(ByteArray.data (ByteArray.mk #[115,101,116,32])); let q6:=(30,AV.val d9 (v30+(1:Int))); let q7:=(1000010,i6.own (Ty.d0 true (Ty.d0 true Ty.str)) cj); let q8:=(List.set [(0:Int)] (Int.toNat (↑0:Int)) q2.2.1); let q9:=(29,AV.val d9 wN); let zH:=((dA,cJ,()),dz,cI,cf,()); let vO:=(r9 IntKind.i64 (v30+(1:Int))); let vN:=(0,AV.val d9 v0); let yc:=(Int.toNat q2.2.1); let CZ:=(1000011,i6.own Is (bs++List.set [(0:Int)] (Int.toNat (↑0:Int)) q2.2.1)); let CY:=r8; let q3:=(28,AV.val (Ty.d0 false (Ty.pair d9 (Ty.pair d9 CY))) v28); let q5:=(Ty.pair View (Ty.pair (Ty.d0 true (Ty.pair Ty.bool (Ty.pair (Ty.d0 true CY) (Ty.pair R6 (Ty.pair (Ty.pair d9 (Ty.pair (Ty.d0 false CY) Ty.unit)) (Ty.pair (Ty.pair d9 (Ty.pair (Ty.d0 false CY) Ty.unit)) Ty.unit)))))) (Ty.pair (Ty.d0 true Ty.str) (Ty.pair (Ty.d0 true Ty.str) Ty.unit)))); let q1:=(1017,i6.var q5 (R2 zH q2).1); let CX:=(ByteArray.data (ByteArray.mk #[32])); let FP:=(Array.toList q4++D5 (Int.tmod v30 (10:Int))++Array.toList CX++D5 v30); let Mg:=(1000010,i6.own (Ty.d0 true (Ty.d0 true Ty.str)) (List.set cj yc (List.getD cj yc []++List.set [[]] (Int.toNat (↑0:Int)) FP))); let CW:=(List.length bs+List.length q8); let CV:=q2.2.2.2; let Mi:=(R2 zH (Prod.fst q2,Prod.fst q2.2,Prod.fst q2.2.2,Array.toList q4++D5 (Int.tmod v30 (10:Int))++Array.toList CX++D5 v30,Prod.snd CV)); let q0:=(1017,i6.var q5 Mi.1); let Mh:=(1000010,i6.own (Ty.d0 true (Ty.d0 true Ty.str)) (List.set cj yc (List.getD cj yc []++List.set [[]] (Int.toNat (↑0:Int)) CV.1))); cond (decide (v30<wN)) (.f8 ((0:Int)<=v30/\v30<(↑(List.length v28):Int)) (cond (decide (Prod.fst q2=(1:Int))) (.f8 ((0:Int)<(10:Int)) (.f8 (True) (.f8 (List.length (Array.toList q4)+List.length (D5 (Int.tmod v30 (10:Int)))<=Go.maxLen) (.f8 (List.length (Array.toList q4++D5 (Int.tmod v30 (10:Int)))+List.length (Array.toList CX)<=Go.maxLen) (.f8 (True) (.f8 (List.length (Array.toList q4++D5 (Int.tmod v30 (10:Int))++Array.toList CX)+List.length (D5 v30)<=Go.maxLen) (.f8 (Good zH) (cond (decide (Prod.snd Mi≠(0:Int))) (.f8 vO (.ctL (g8 (d8 Tryz.prog 23) 7) (St.mk [vN,(8,AV.ptr 1017 []),(10,AV.at_ 1000010 []),(11,AV.at_ 1000011 []),q3,q9,q6] [q0,q7,(1000011,i6.own Is bs)]))) (cond (decide (Prod.fst q2.2<(0:Int))) (.f8 vO (.ctL (g8 (d8 Tryz.prog 23) 7) (St.mk [vN,(8,AV.ptr 1017 []),(10,AV.at_ 1000010 []),(11,AV.at_ 1000011 []),q3,q9,q6] [q0,q7,(1000011,i6.own Is bs)]))) (cond (decide (v0<=Prod.fst q2.2)) (.f8 vO (.ctL (g8 (d8 Tryz.prog 23) 7) (St.mk [vN,(8,AV.ptr 1017 []),(10,AV.at_ 1000010 []),(11,AV.at_ 1000011 []),q3,q9,q6] [q0,q7,(1000011,i6.own Is bs)]))) (cond (decide (Prod.fst q2=(1:Int))) (.f8 ((0:Int)<=Prod.fst q2.2/\Prod.fst q2.2<(↑(List.length cj):Int)) (.f8 ((0:Int)<=Prod.fst q2.2/\Prod.fst q2.2<(↑(List.length cj):Int)) (.f8 ([]++[Step.idx q2.2.1]=[]++[Step.idx q2.2.1]/\List.length (List.getD cj yc [])+List.length (List.set [[]] (Int.toNat (↑0:Int)) FP)<=140737488355328/\(List.length (List.getD cj yc [])+List.length (List.set [[]] (Int.toNat (↑0:Int)) FP))*Ty.wb Ty.str<=140737488355328) (cond (decide (Prod.fst q2=(4:Int))) (.f8 (List.length bs+List.length q8<=140737488355328/\CW*Ty.wb d9<=140737488355328) (.f8 vO (.ctL (g8 (d8 Tryz.prog 23) 7) (St.mk [vN,(8,AV.ptr 1017 []),(10,AV.at_ 1000010 []),(11,AV.at_ 1000011 []),q3,q9,q6] [q0,Mg,CZ])))) (.f8 vO (.ctL (g8 (d8 Tryz.prog 23) 7) (St.mk [vN,(8,AV.ptr 1017 []),(10,AV.at_ 1000010 []),(11,AV.at_ 1000011 []),q3,q9,q6] [q0,Mg,(1000011,i6.own Is bs)]))))))) (cond (decide (Prod.fst q2=(4:Int))) (.f8 (List.length bs+List.length q8<=140737488355328/\CW*Ty.wb d9<=140737488355328) (.f8 vO (.ctL (g8 (d8 Tryz.prog 23) 7) (St.mk [vN,(8,AV.ptr 1017 []),(10,AV.at_ 1000010 []),(11,AV.at_ 1000011 []),q3,q9,q6] [q0,q7,CZ])))) (.f8 vO (.ctL (g8 (d8 Tryz.prog 23) 7) (St.mk [vN,(8,AV.ptr 1017 []),(10,AV.at_ 1000010 []),(11,AV.at_ 1000011 []),q3,q9,q6] [q0,q7,(1000011,i6.own Is bs)]))))))))))))))) (.f8 (Good zH) (cond (decide (Prod.snd (R2 zH q2)≠(0:Int))) (.f8 vO (.ctL (g8 (d8 Tryz.prog 23) 7) (St.mk [vN,(8,AV.ptr 1017 []),(10,AV.at_ 1000010 []),(11,AV.at_ 1000011 []),q3,q9,q6] [q1,q7,(1000011,i6.own Is bs)]))) (cond (decide (Prod.fst q2.2<(0:Int))) (.f8 vO (.ctL (g8 (d8 Tryz.prog 23) 7) (St.mk [vN,(8,AV.ptr 1017 []),(10,AV.at_ 1000010 []),(11,AV.at_ 1000011 []),q3,q9,q6] [q1,q7,(1000011,i6.own Is bs)]))) (cond (decide (v0<=Prod.fst q2.2)) (.f8 vO (.ctL (g8 (d8 Tryz.prog 23) 7) (St.mk [vN,(8,AV.ptr 1017 []),(10,AV.at_ 1000010 []),(11,AV.at_ 1000011 []),q3,q9,q6] [q1,q7,(1000011,i6.own Is bs)]))) (cond (decide (Prod.fst q2=(1:Int))) (.f8 ((0:Int)<=Prod.fst q2.2/\Prod.fst q2.2<(↑(List.length cj):Int)) (.f8 ((0:Int)<=Prod.fst q2.2/\Prod.fst q2.2<(↑(List.length cj):Int)) (.f8 ([]++[Step.idx q2.2.1]=[]++[Step.idx q2.2.1]/\List.length (List.getD cj yc [])+List.length (List.set [[]] (Int.toNat (↑0:Int)) CV.1)<=140737488355328/\(List.length (List.getD cj yc [])+List.length (List.set [[]] (Int.toNat (↑0:Int)) CV.1))*Ty.wb Ty.str<=140737488355328) (cond (decide (Prod.fst q2=(4:Int))) (.f8 (List.length bs+List.length q8<=140737488355328/\CW*Ty.wb d9<=140737488355328) (.f8 vO (.ctL (g8 (d8 Tryz.prog 23) 7) (St.mk [vN,(8,AV.ptr 1017 []),(10,AV.at_ 1000010 []),(11,AV.at_ 1000011 []),q3,q9,q6] [q1,Mh,CZ])))) (.f8 vO (.ctL (g8 (d8 Tryz.prog 23) 7) (St.mk [vN,(8,AV.ptr 1017 []),(10,AV.at_ 1000010 []),(11,AV.at_ 1000011 []),q3,q9,q6] [q1,Mh,(1000011,i6.own Is bs)]))))))) (cond (decide (Prod.fst q2=(4:Int))) (.f8 (List.length bs+List.length q8<=140737488355328/\CW*Ty.wb d9<=140737488355328) (.f8 vO (.ctL (g8 (d8 Tryz.prog 23) 7) (St.mk [vN,(8,AV.ptr 1017 []),(10,AV.at_ 1000010 []),(11,AV.at_ 1000011 []),q3,q9,q6] [q1,q7,CZ])))) (.f8 vO (.ctL (g8 (d8 Tryz.prog 23) 7) (St.mk [vN,(8,AV.ptr 1017 []),(10,AV.at_ 1000010 []),(11,AV.at_ 1000011 []),q3,q9,q6] [q1,q7,(1000011,i6.own Is bs)]))))))))))) (.ret ((some zH,cj,bs,true,()))):=by kernel_rfl
def J8:Nat->f9->f9×Bool
  | 0,w=>(w,decide ((w.2.2.2.1.length:Int)=0))
  | k+1,w=>if (w.2.2.2.1.length:Int)=0 then (w,true) else if (G7 w 0 1).2≠0 then ((G7 w 0 1).1,false) else J8 k (G7 w 0 1).1
structure Fit (most:Int) (w:f9):Prop where
  nn:0<=most/\most<=1000000
  ok:∃ c said,Ok c said w/\c<=100000000000
def JH:p7:={ ps:=[.rw u7,.v d9],rs:=[.bool],pre:=λ x=>Fit x.2.1 x.1,fn:=λ x=>((J8 (Int.toNat x.2.1) x.1).2,()),out:=λ x=>((J8 (Int.toNat x.2.1) x.1).1,()) }
noncomputable def Cv:Env:={ P:=Tryz.prog,tt:=tt,C9:=[(17,Gg),(18,DB)],res:=[Go.ResultVar.tmp 4],rs:=[Ty.bool],ps:=[PK.rw u7,PK.v d9],B8:=[(2,[(0,none),(5,none),(6,none)])],nt:=18 }
theorem Ma:w7 Cv:=x6 r7 ⟨c1B,TA,trivial⟩
theorem Md:C0 Cv Tryz.f16:=⟨rfl,rfl⟩
theorem b9g (ai:Int) (af:Int) (ab:List n9) (ae:List yY) (aa:List yY) (x1:Int):exec Cv 1000 [.code (d8 Tryz.prog 16)] (s5 JH.ps ((((ai,af,()),ab,ae,aa,()),x1,()))) =
  .ctL (g8 (d8 Tryz.prog 16) 2) (St.mk [(0,AV.ptr 2000000 []),(5,AV.val d9 x1),(6,AV.val d9 (0:Int))] [(2000000,i6.var u7 ((ai,af,()),ab,ae,aa,()))]):=by kernel_rfl
def Mb (v5:Int) (v6:Int) (aB:Int) (ao:Int) (aj:List n9) (ak:List yY) (ah:List yY):St:=St.mk [(0,AV.ptr 2000000 []),(5,AV.val d9 v5),(6,AV.val d9 v6)] [(2000000,i6.var u7 ((aB,ao,()),aj,ak,ah,()))]
theorem b7Y (v5:Int) (v6:Int) (aB:Int) (ao:Int) (aj:List n9) (ak:List yY) (ah:List yY):exec Cv 1000 (.code (g8 (d8 Tryz.prog 16) 2).1::.inLoop (g8 (d8 Tryz.prog 16) 2).1::(g8 (d8 Tryz.prog 16) 2).2) (Mb v5 v6 aB ao aj ak ah) =
  cond (decide (v6<v5)) (.f8 (True) (cond (decide ((↑(List.length ah):Int)=(0:Int))) (.ret ((true,((aB,ao,()),aj,ak,ah,()),()))) (.f8 (Cd ((aB,ao,()),aj,ak,ah,())) (cond (decide (Prod.snd (G7 ((aB,ao,()),aj,ak,ah,()) (0:Int) (1:Int))≠(0:Int))) (.ret ((false,Prod.fst (G7 ((aB,ao,()),aj,ak,ah,()) (0:Int) (1:Int)),()))) (.f8 (r9 IntKind.i64 (v6+(1:Int))) (.ctL (g8 (d8 Tryz.prog 16) 2) (St.mk [(0,AV.ptr 2000000 []),(5,AV.val d9 v5),(6,AV.val d9 (v6+(1:Int)))] [(2000000,i6.var u7 (G7 ((aB,ao,()),aj,ak,ah,()) (0:Int) (1:Int)).1)]))))))) (.f8 (True) (.ret ((decide ((↑(List.length ah):Int)=(0:Int)),((aB,ao,()),aj,ak,ah,()),())))):=by kernel_rfl
attribute [local irreducible] G7 in
theorem b3f:JH.Valid Tryz.prog 16:=by
  refine p7.n8 Ma rfl rfl Tryz.func16 (c:=d8 Tryz.prog 16) rfl rfl Md rfl ?_;rintro ⟨⟨⟨(v0:Int),(v1:Int),⟨⟩⟩,(al:List n9),(od:List yY),(wy:List yY),⟨⟩⟩,(most:Int),⟨⟩⟩ (hf:Fit most ((v0,v1,()),al,od,wy,())) -
  refine j6 (n:=1000) Ma Md ?_;refine i7 (b9g v0 v1 al od wy most) ?_;obtain ⟨c0,said,aM,ep⟩:=hf.ok;have hm:=hf.nn;obtain ⟨w0,qU⟩:∃ w:f9,w=((v0,v1,()),al,od,wy,()):=⟨_,rfl⟩;rw [<- qU] at aM;have key:∀ (w:f9) (i:Nat),J8 most.toNat w0=J8 (most.toNat - i) w->∀ r:f9×Bool,J8 (most.toNat - i) w=r->(((r.2,r.1,()):Bool×f9×Unit)=((J8 most.toNat w0).2,(J8 most.toNat w0).1,())):=by
    rintro w i e r rfl; rw [e]
  suffices go:Go.Ex.Reach Cv Tryz.f16 ((J8 most.toNat w0).2,()) ((J8 most.toNat w0).1,()) (.code (g8 (d8 Tryz.prog 16) 2).1::.inLoop (g8 (d8 Tryz.prog 16) 2).1::(g8 (d8 Tryz.prog 16) 2).2) (Mb most ((0:Nat):Int) w0.1.1 w0.1.2.1 w0.2.1 w0.2.2.1 w0.2.2.2.1) by
    subst qU; exact go
  refine Reach.M7 Ma Md (λ i:Nat×f9=>Mb most (i.1:Int) i.2.1.1 i.2.1.2.1 i.2.2.1 i.2.2.2.1 i.2.2.2.2.1) (λ i=>i.1<=most.toNat/\J8 most.toNat w0=J8 (most.toNat - i.1) i.2/\Ok (c0+16*i.1) said i.2)
    (λ i=>most.toNat - i.1) 1000 (λ _=>⟨s9 rfl,s9 rfl⟩) ?_ (0,w0) ⟨aAz _,rfl,aM⟩
  rintro ⟨i,w⟩ ⟨k1,k2,k3⟩ - ih;have k1:i<=most.toNat:=k1;have k2:J8 most.toNat w0=J8 (most.toNat - i) w:=k2;have k3:Ok (c0+16*i) said w:=k3;have ih1:i<most.toNat->J8 most.toNat w0=J8 (most.toNat - (i+1)) (G7 w 0 1).1->_:=λ h e=>ih (i+1,(G7 w 0 1).1) ⟨by show i+1<=most.toNat; omega,e,by rw [show c0+16*(i+1)=c0+16*i+16 by omega]; exact k3.Hk 0 1⟩ (by show most.toNat - (i+1)<most.toNat - i; omega);refine i7 (b7Y ..) ?_;have e1:((i:Nat):Int)+1=((i+1:Nat):Int):=by omega
  obtain ⟨⟨u0,u1,⟨⟩⟩,ual,uod,uwy,⟨⟩⟩:=w;simp only [j7,Tree.holds,e1,sL];have e2:i<most.toNat->J8 (most.toNat - i) ((u0,u1,()),ual,uod,uwy,())=if (uwy.length:Int)=0 then (((u0,u1,()),ual,uod,uwy,()),true) else if (G7 ((u0,u1,()),ual,uod,uwy,()) 0 1).2≠0 then ((G7 ((u0,u1,()),ual,uod,uwy,()) 0 1).1,false) else J8 (most.toNat - (i+1)) (G7 ((u0,u1,()),ual,uod,uwy,()) 0 1).1:=λ h=>by
    rw [show most.toNat - i=(most.toNat - (i+1))+1 by omega,J8]
  refine ⟨λ c=>⟨λ d=>?_,λ d=>⟨(k3.zQ (by omega)).move,λ _=>⟨λ e=>?_,λ e=>⟨F6.2 ⟨by omega,by omega⟩,λ _=>?_⟩⟩⟩⟩,λ c=>?_⟩
  . exact key _ i k2 (_,_) ((e2 (by omega)).trans (if_pos d))
  . exact key _ i k2 (_,_) ((e2 (by omega)).trans ((if_neg d).trans (if_pos e)))
  . exact ih1 (by omega) (k2.trans ((e2 (by omega)).trans ((if_neg d).trans (if_neg (by simpa using e)))))
  . obtain rfl:i=most.toNat:=by omega
    exact key _ _ k2 (_,_) (by rw [aHi]; rfl)
def GM:p7:={ ps:=[.v (.d0 false d9),.v d9],rs:=[d9],pre:=λ _=>True,fn:=λ x=>(idxOf (λ y=>decide ((show Int from x.2.1)=y)) x.1,()),out:=λ _=>() }
noncomputable def DP:Env:={ P:=Tryz.prog,tt:=tt,C9:=[],res:=[Go.ResultVar.tmp 4],rs:=[Ty.int IntKind.i64],ps:=[PK.v (Ty.d0 false d9),PK.v d9],B8:=[(2,[(0,none),(1,none),(7,none),(8,none)])],nt:=19 }
theorem JM:w7 DP:=x6 r7 trivial
theorem Ju:C0 DP Tryz.f69:=⟨rfl,rfl⟩
theorem VW (x0:List Int) (x1:Int):exec DP 1000 [.code (d8 Tryz.prog 69)] (s5 GM.ps ((x0,x1,()))) =
  .ctL (g8 (d8 Tryz.prog 69) 2) (St.mk [(0,AV.val (Ty.d0 false d9) x0),(1,AV.val d9 x1),(7,AV.val d9 (↑(List.length x0):Int)),(8,AV.val d9 (0:Int))] []):=by kernel_rfl
def PQ (v0:List Int) (v1:Int) (v7:Int) (v8:Int):St:=St.mk [(0,AV.val (Ty.d0 false d9) v0),(1,AV.val d9 v1),(7,AV.val d9 v7),(8,AV.val d9 v8)] []
theorem YC (v0:List Int) (v1:Int) (v7:Int) (v8:Int):exec DP 1000 (.code (g8 (d8 Tryz.prog 69) 2).1::.inLoop (g8 (d8 Tryz.prog 69) 2).1::(g8 (d8 Tryz.prog 69) 2).2) (PQ v0 v1 v7 v8) =
  cond (decide (v8<v7)) (.f8 ((0:Int)<=v8/\v8<(↑(List.length v0):Int)) (cond (decide (v1=List.getD v0 (Int.toNat v8) (0:Int))) (.ret ((v8,()))) (.f8 (r9 IntKind.i64 (v8+(1:Int))) (.ctL (g8 (d8 Tryz.prog 69) 2) (St.mk [(0,AV.val (Ty.d0 false d9) v0),(1,AV.val d9 v1),(7,AV.val d9 v7),(8,AV.val d9 (v8+(1:Int)))] []))))) (.ret (((-1:Int),()))):=by kernel_rfl
theorem b8W:GM.Valid Tryz.prog 69:=by
  refine p7.n8 JM rfl rfl Tryz.func69 (c:=d8 Tryz.prog 69) rfl rfl Ju rfl ?_;rintro ⟨(l:List (Int)),(x:Int),⟨⟩⟩ - ⟨⟨hl,-⟩,-⟩;have hl:l.length<=9223372036854775807:=hl;refine j6 (n:=1000) JM Ju ?_;refine i7 (VW l x) ?_;refine Reach.M7 JM Ju (λ i:Nat=>PQ l x (l.length:Int) (i:Int) ) (λ i=>i<=l.length/\idxOf (λ y=>decide (x=y)) l=T7 (λ y=>decide (x=y)) (l.drop i) i)
    (λ i=>l.length - i) 1000 (λ _=>⟨s9 rfl,s9 rfl⟩) ?_ 0 ⟨by omega,rfl⟩
  rintro i ⟨k1,k2⟩ - ih;refine i7 (YC ..) ?_;simp only [j7,Tree.holds,sL];refine ⟨λ h=>?_,λ h=>?_⟩
  . rw [Fe (show i<l.length by omega) 0,T7] at k2;have key:∀ b:Bool,(b=true↔x=l.getD i 0)->(b=true->(((i:Int),()):Int×Unit)=(idxOf (λ y=>decide (x=y)) l,()))/\(b=false->idxOf (λ y=>decide (x=y)) l=T7 (λ y=>decide (x=y)) (l.drop (i+1)) (i+1)):=λ b hb=>by
      refine ⟨λ c=>?_,λ c=>?_⟩
      . rw [k2,if_pos (decide_eq_true (hb.1 c))]
      . rw [k2,if_neg (λ h9=>by rw [hb.2 (of_decide_eq_true h9)] at c; cases c)]
    refine ⟨by omega,λ _=>⟨λ c=>?_,λ c=>⟨by omega,λ _=>ih (i+1) ⟨by omega,?_⟩ (by omega)⟩⟩⟩
    . exact (key true ⟨λ _=>c,λ _=>rfl⟩).1 rfl
    . exact (key false ⟨λ h9=>(by cases h9),λ h9=>(c h9).elim⟩).2 rfl
  . rw [aDr (by omega)] at k2;show (((-1:Int),()):Int×Unit)=(idxOf (λ y=>decide (x=y)) l,());rw [k2]; rfl
def Ik:p7:={ ps:=[.v (.d0 false d9),.v d9],rs:=[.bool],pre:=λ _=>True,fn:=λ x=>(decide ((show Int from x.2.1)∈(show List (Int) from x.1)),()),out:=λ _=>() }
noncomputable def HI:Env:={ P:=Tryz.prog,tt:=tt,C9:=[(69,GM)],res:=[Go.ResultVar.tmp 4],rs:=[Ty.bool],ps:=[PK.v (Ty.d0 false d9),PK.v d9],B8:=[],nt:=9 }
theorem Rq:w7 HI:=x6 r7 ⟨b8W,trivial⟩
theorem RH:C0 HI Tryz.f52:=⟨rfl,rfl⟩
theorem Yn (x0:List Int) (x1:Int):exec HI 1000 [.code (d8 Tryz.prog 52)] (s5 Ik.ps ((x0,x1,()))) =
  .f8 (True) (.ret ((decide ((0:Int)<=idxOf (λ y=>decide (x1=y)) x0),()))):=by kernel_rfl
theorem b6Q:Ik.Valid Tryz.prog 52:=by
  refine p7.n8 Rq rfl rfl Tryz.func52 (c:=d8 Tryz.prog 52) rfl rfl RH rfl ?_;rintro ⟨(l:List (Int)),(x:Int),⟨⟩⟩ - -
  refine j6 (n:=1000) Rq RH ?_;refine i7 (Yn l x) ?_;refine ⟨trivial,λ _=>?_⟩;show ((decide (0<=idxOf (λ y=>decide (x=y)) l),()):Bool×Unit)=(decide (x∈l),());rw [Jg];have:l.any (λ y=>decide (x=y))=true↔x∈l:=by
    rw [aFn];exact ⟨λ⟨y,h1,h2⟩=>by rw [of_decide_eq_true h2]; exact h1,λ h=>⟨x,h,decide_eq_true rfl⟩⟩
  cases e:l.any (λ y=>decide (x=y)) with
  | true=>rw [decide_eq_true (this.1 e)]
  | false=>rw [decide_eq_false (λ h=>by rw [this.2 h] at e; cases e)]
def G9 (w:f9) (O8:List Int):Nat->List Int
  | 0=>[]
  | p+1=>if T1 w.1.2.1 p=true/\¬ (p:Int)∈O8 then G9 w O8 p++[(p:Int)] else G9 w O8 p
theorem Fi (w:f9) (O8:List Int):∀ p,(G9 w O8 p).length<=p
  | 0=>aAj _
  | p+1=>by
    have:=Fi w O8 p;rw [G9]
    split
    . rw [aAe]; simp only [aBw]; omega
    . omega
def GL:p7:={ ps:=[.rd H3,.v d9,.v (.d0 false d9)],rs:=[.d0 true d9],pre:=λ x=>LE.le (α:=Int) 0 x.2.1/\LE.le (α:=Int) x.2.1 6,fn:=λ x=>(G9 x.1 x.2.2.1 (Int.toNat x.2.1),()),out:=λ _=>() }
noncomputable def BH:Env:={ P:=Tryz.prog,tt:=tt,C9:=[(29,DU),(52,Ik)],res:=[Go.ResultVar.tmp 6],rs:=[Ty.d0 true d9],ps:=[PK.rd H3,PK.v d9,PK.v (Ty.d0 false d9)],B8:=[(3,[(0,none),(2,none),(7,some Is),(9,none),(10,none)])],nt:=32 }
theorem Kt:w7 BH:=x6 r7 ⟨UJ,b6Q,trivial⟩
theorem Kl:C0 BH Tryz.f24:=⟨rfl,rfl⟩
theorem Yv (ai:Int) (af:Int) (ab:List n9) (ae:List yY) (aa:List yY) (x1:Int) (x2:List Int):exec BH 1000 [.code (d8 Tryz.prog 24)] (s5 GL.ps ((((ai,af,()),ab,ae,aa,()),x1,x2,()))) =
  .ctL (g8 (d8 Tryz.prog 24) 3) (St.mk [(0,AV.M1 H3 ((ai,af,()),ab,ae,aa,())),(2,AV.val (Ty.d0 false d9) x2),(7,AV.at_ 1000007 []),(9,AV.val d9 x1),(10,AV.val d9 (0:Int))] [(1000007,i6.own Is [])]):=by kernel_rfl
def Ku (bJ:Int) (aZ:Int) (bB:List n9) (bq:List yY) (aY:List yY) (v2:List Int) (v9:Int) (v10:Int) (bo:List Int):St:=St.mk [(0,AV.M1 H3 ((bJ,aZ,()),bB,bq,aY,())),(2,AV.val (Ty.d0 false d9) v2),(7,AV.at_ 1000007 []),(9,AV.val d9 v9),(10,AV.val d9 v10)] [(1000007,i6.own Is bo)]
theorem Za (bJ:Int) (aZ:Int) (bB:List n9) (bq:List yY) (aY:List yY) (v2:List Int) (v9:Int) (v10:Int) (bo:List Int):exec BH 1000 (.code (g8 (d8 Tryz.prog 24) 3).1::.inLoop (g8 (d8 Tryz.prog 24) 3).1::(g8 (d8 Tryz.prog 24) 3).2) (Ku bJ aZ bB bq aY v2 v9 v10 bo) =
  cond (decide (v10<v9)) (.f8 (True) (.f8 ((0:Int)<=v10) (cond (decide (T4 IntKind.u8 (aZ / (2:Int)^min (Int.toNat v10) (IntKind.bits IntKind.u8)) (1:Int)=(1:Int))) (.f8 (True) (cond (!decide (v10∈v2)) (.f8 (List.length bo+List.length (List.set [(0:Int)] (Int.toNat (↑0:Int)) v10)<=140737488355328/\(List.length bo+List.length (List.set [(0:Int)] (Int.toNat (↑0:Int)) v10))*Ty.wb d9<=140737488355328) (.f8 (r9 IntKind.i64 (v10+(1:Int))) (.ctL (g8 (d8 Tryz.prog 24) 3) (St.mk [(0,AV.M1 H3 ((bJ,aZ,()),bB,bq,aY,())),(2,AV.val (Ty.d0 false d9) v2),(7,AV.at_ 1000007 []),(9,AV.val d9 v9),(10,AV.val d9 (v10+(1:Int)))] [(1000007,i6.own Is (bo++List.set [(0:Int)] (Int.toNat (↑0:Int)) v10))])))) (.f8 (r9 IntKind.i64 (v10+(1:Int))) (.ctL (g8 (d8 Tryz.prog 24) 3) (St.mk [(0,AV.M1 H3 ((bJ,aZ,()),bB,bq,aY,())),(2,AV.val (Ty.d0 false d9) v2),(7,AV.at_ 1000007 []),(9,AV.val d9 v9),(10,AV.val d9 (v10+(1:Int)))] [(1000007,i6.own Is bo)]))))) (.f8 (r9 IntKind.i64 (v10+(1:Int))) (.ctL (g8 (d8 Tryz.prog 24) 3) (St.mk [(0,AV.M1 H3 ((bJ,aZ,()),bB,bq,aY,())),(2,AV.val (Ty.d0 false d9) v2),(7,AV.at_ 1000007 []),(9,AV.val d9 v9),(10,AV.val d9 (v10+(1:Int)))] [(1000007,i6.own Is bo)])))))) (.ret ((bo,()))):=by kernel_rfl
theorem b8X:GL.Valid Tryz.prog 24:=by
  refine p7.n8 Kt rfl rfl Tryz.func24 (c:=d8 Tryz.prog 24) rfl rfl Kl rfl ?_;rintro ⟨⟨⟨(v0:Int),(v1:Int),⟨⟩⟩,(al:List n9),(od:List yY),(wy:List yY),⟨⟩⟩,(n:Int),(O8:List Int),⟨⟩⟩ ⟨(h0:0<=n),(h6:n<=6)⟩ -
  refine j6 (n:=1000) Kt Kl ?_;refine i7 (Yv v0 v1 al od wy n O8) ?_;obtain ⟨w,hw⟩:∃ w:f9,w=((v0,v1,()),al,od,wy,()):=⟨_,rfl⟩;show Go.Ex.Reach BH Tryz.f24 (G9 ((v0,v1,()),al,od,wy,()) O8 n.toNat,()) () (.code (g8 (d8 Tryz.prog 24) 3).1::.inLoop (g8 (d8 Tryz.prog 24) 3).1::(g8 (d8 Tryz.prog 24) 3).2) (Ku v0 v1 al od wy O8 n ((0:Nat):Int) (G9 ((v0,v1,()),al,od,wy,()) O8 0));rw [<- hw];refine Reach.M7 Kt Kl (λ p:Nat=>Ku v0 v1 al od wy O8 n (p:Int) (G9 w O8 p)) (λ p=>p<=n.toNat) (λ p=>n.toNat - p) 1000 (λ _=>⟨s9 rfl,s9 rfl⟩) ?_ 0 (aAz _);rintro p k1 - ih;have k1:p<=n.toNat:=k1;refine i7 (Za ..) ?_;have e1:((p:Nat):Int)+1=((p+1:Nat):Int):=by omega
  have iu:Ty.wb d9=8:=rfl;have hl:=Fi w O8 p;have ih1:p<n.toNat->_:=λ h=>ih (p+1) (by show p+1<=n.toNat; omega) (by show n.toNat - (p+1)<n.toNat - p; omega);have hm:T1 w.1.2.1 p=true↔T4 .u8 (v1 / 2^min p IntKind.u8.bits) 1=1:=by rw [hw]; exact decide_eq_true_iff
  simp only [j7,Tree.holds,e1,iu,sL];refine ⟨λ c=>⟨by omega,λ _=>⟨λ d=>⟨λ e=>⟨by omega,λ _=>⟨F6.2 ⟨by omega,by omega⟩,λ _=>?_⟩⟩,λ e=>⟨F6.2 ⟨by omega,by omega⟩,λ _=>?_⟩⟩,λ d=>⟨F6.2 ⟨by omega,by omega⟩,λ _=>?_⟩⟩⟩,λ c=>?_⟩
  . have:=ih1 (by omega);rw [show G9 w O8 (p+1)=G9 w O8 p++[(p:Int)] from if_pos ⟨hm.2 d,by simpa using e⟩] at this;exact this
  . have:=ih1 (by omega);rw [show G9 w O8 (p+1)=G9 w O8 p from if_neg (λ h=>h.2 (by simpa using e))] at this;exact this
  . have:=ih1 (by omega);rw [show G9 w O8 (p+1)=G9 w O8 p from if_neg (λ h=>d (hm.1 h.1))] at this;exact this
  . obtain rfl:p=n.toNat:=by omega
    rfl
theorem Rl {w:f9} {d:G2} (he:(R2 w d).2=0) (hd:d.1=1\/d.1=4):0<=d.2.1/\d.2.1<(w.2.1.length:Int):=by
  have hk:¬ known w d.2.1≠0:=by
    unfold R2 at he;rcases hd with hd|hd
    . rw [if_pos hd,vx] at he;by_cases a:M8 w d.2.1≠0
      . rw [if_pos a] at he; exact absurd he a
      . unfold M8 at a;split at a
        . rename_i h; exact absurd h a
        . rename_i h; exact h
    . rw [if_neg (by omega),if_neg (by omega),if_neg (by omega),if_pos hd,vY] at he;split at he
      . rename_i h; exact absurd he h
      . rename_i h; exact h
  exact EU.1 hk
def zj (s:vX) (p:Nat):List D8:=s.2.1.getD p []
structure DZ (n:Int) (i:Nat) (s:vX):Prop where
  ok:Ok (16*i) (zj s) s.1
  len:s.1.2.1.length=n.toNat
  said:s.2.1.length=n.toNat
  K1:s.2.2.length<=i
  each:∀ p,(zj s p).length<=i
  O8:∀ p:Nat,p<n.toNat->(s.1.2.1.getD p j8).1=decide ((p:Int)∈s.2.2)
theorem c3s {n:Int} (hn:1<=n/\n<=6) {i:Nat} {s:vX} (h:DZ n i s) (d:G2):DZ n (i+1) (yb n s d):=by
  have hd:=Cg h.ok d;have oG:16*i+16=16*(i+1):=by omega
  have hlen:=h.len;rw [yb];by_cases c:(R2 s.1 d).2≠0\/d.2.1<0\/n<=d.2.1
  . rw [if_pos c];have h1:¬ (d.1=1/\(R2 s.1 d).2=0):=λ e=>by
      have:=Rl e.2 (.inl e.1);rcases c with c|c|c
      . exact c e.2
      . omega
      . omega
    have h4:¬ (d.1=4/\(R2 s.1 d).2=0):=λ e=>by
      have:=Rl e.2 (.inr e.1);rcases c with c|c|c
      . exact c e.2
      . omega
      . omega
    refine ⟨?_,hd.len.trans h.len,h.said,Nat.le_succ_of_le h.K1,λ p=>Nat.le_succ_of_le (h.each p),λ p hp=>?_⟩
    . have:=hd.ok;rw [wY,if_neg h1,oG] at this;exact this
    . rw [hd.fal p (by omega),h.O8 p hp,decide_eq_false (λ e:d.1=4/\_/\_=>h4 ⟨e.1,e.2.1⟩),aDi]
  . rw [if_neg c];have he:(R2 s.1 d).2=0:=aBq.1 (λ e=>c (.inl e));have hw:0<=d.2.1/\d.2.1<n:=⟨Int.not_lt.1 (λ e=>c (.inr (.inl e))),Int.not_le.1 (λ e=>c (.inr (.inr e)))⟩;obtain ⟨q,hq⟩:∃ q:Nat,d.2.1=q:=⟨d.2.1.toNat,by omega⟩;have sw:q<s.2.1.length:=by rw [h.said]; omega
    have eJ:∀ x:List D8,zj (((R2 s.1 d).1,s.2.1.set q x,s.2.2):vX)=wm (zj s) q x:=λ x=>by
      funext p
      show (s.2.1.set q x).getD p []=_;unfold wm;rw [aAb,aEk];by_cases e:p=q
      . subst e; rw [if_pos rfl,if_pos rfl,if_pos sw]; rfl
      . rw [if_neg (Ne.symm e),if_neg e];show _=s.2.1.getD p [];rw [aAb]
    rw [hq];refine ⟨?_,hd.len.trans h.len,?_,?_,λ p=>?_,λ p hp=>?_⟩
    . have:=hd.ok;rw [oG] at this;by_cases e:d.1=1
      . rw [wY,if_pos ⟨e,he⟩,hq] at this;rw [if_pos e];have h2:=eJ (s.2.1.getD q []++[d.2.2.2.1]);show Ok _ (zj (((R2 s.1 d).1,s.2.1.set q (s.2.1.getD q []++[d.2.2.2.1]),s.2.2):vX)) _;rw [h2];exact this
      . rw [wY,if_neg (λ c=>e c.1)] at this;rw [if_neg e];exact this
    . show (if d.1=1 then _ else _:List (List D8)).length=_
      split
      . rw [aCa]; exact h.said
      . exact h.said
    . show (if d.1=4 then _ else _:List Int).length<=_;have:=h.K1
      split
      . rw [aAe]; simp only [aBw]; omega
      . omega
    . show ((if d.1=1 then s.2.1.set q (s.2.1.getD q []++[d.2.2.2.1]) else s.2.1).getD p []).length<=_;have h3:=h.each p;have h4:=h.each q
      split
      . have h2:=congrFun (eJ (s.2.1.getD q []++[d.2.2.2.1])) p;have h2:(s.2.1.set q (s.2.1.getD q []++[d.2.2.2.1])).getD p []=wm (zj s) q (s.2.1.getD q []++[d.2.2.2.1]) p:=h2;rw [h2];unfold wm
        split
        . rw [aAe]; simp only [aBw];have h4:(s.2.1.getD q []).length<=i:=h4;omega
        . omega
      . have h3:(s.2.1.getD p []).length<=i:=h3;omega
    . show ((R2 s.1 d).1.2.1.getD p j8).1=decide ((p:Int)∈(if d.1=4 then s.2.2++[(q:Int)] else s.2.2));rw [hd.fal p (by omega),h.O8 p hp];by_cases e:d.1=4
      . rw [if_pos e];by_cases e2:q=p
        . subst e2;rw [decide_eq_true (p:=d.1=4/\(R2 s.1 d).2=0/\d.2.1=(q:Int)) ⟨e,he,hq⟩,Bool.or_true,decide_eq_true (aBr _ (aBg.2 rfl))]
        . rw [decide_eq_false (λ c:d.1=4/\_/\_=>e2 (by have:=c.2.2; omega)),aDi];apply decide_eq_decide.2;rw [aAi,aBg];constructor
          . exact .inl
          . rintro (h|h)
            . exact h
            . exact absurd h (by omega)
      . rw [if_neg e,decide_eq_false (λ c:d.1=4/\_/\_=>e c.1),aDi]
theorem Cb {n:Int} (hn:1<=n/\n<=6) (l:List G2):∀ i,DZ n i (G0 n l i)
  | 0=>by
    have hl:(xB n).2.1.length=n.toNat:=aCg ..;have hs:zj (G0 n l 0)=λ _=>[]:=by
      funext p
      show (List.replicate n.toNat ([]:List D8)).getD p []=[];rw [aAb,aGz]
      split<;>rfl
    refine ⟨by rw [hs]; exact WX hn,hl,aCg ..,aAj _,λ p=>(by rw [hs]; exact aAj _),λ p hp=>?_⟩;show ((List.replicate n.toNat j8).getD p j8).1=_;rw [QD]; rfl
  | i+1=>c3s hn (Cb hn l i) _
theorem Sm {n:Int} {s:vX} {d:G2} (h:(R2 s.1 d).2≠0\/d.2.1<0\/n<=d.2.1):yb n s d=((R2 s.1 d).1,s.2):=by rw [yb]; exact if_pos h
theorem QM {n:Int} {s:vX} {d:G2} (h1:(R2 s.1 d).2=0) (h2:¬ d.2.1<0) (h3:¬ n<=d.2.1):yb n s d=((R2 s.1 d).1,if d.1=1 then s.2.1.set d.2.1.toNat (s.2.1.getD d.2.1.toNat []++[d.2.2.2.1]) else s.2.1,if d.1=4 then s.2.2++[d.2.1] else s.2.2):=by
  rw [yb]; exact if_neg (λ h=>h.elim (λ e=>e h1) (λ h=>h.elim h2 h3))
attribute [local irreducible] R2 in
set_option maxHeartbeats 4000000 in
theorem b47:IY.Valid Tryz.prog 23:=by
  refine p7.n8 Lt rfl rfl Tryz.func23 (c:=d8 Tryz.prog 23) rfl rfl Lx rfl ?_;rintro ⟨(n:Int),(l:List G2),⟨⟩⟩ ⟨(hn:1<=n/\n<=6),(hl:l.length<=1048576)⟩ -
  refine j6 (n:=1000) Lt Lx ?_;refine i7 (c2X n l) ?_;have iu:Ty.wb (.d0 true .str)=24:=rfl;simp only [j7,Tree.holds,iu,sL];refine ⟨hn,λ _=>⟨⟨by omega,by omega,by omega,by omega⟩,λ _=>?_⟩⟩;have hW:=Cb hn l;show Go.Ex.Reach Cr Tryz.f23 (some (G0 n l l.length).1,(G0 n l l.length).2.1,(G0 n l l.length).2.2,true,()) () (.code (g8 (d8 Tryz.prog 23) 7).1::.inLoop (g8 (d8 Tryz.prog 23) 7).1::(g8 (d8 Tryz.prog 23) 7).2) (Lu n l (l.length:Int) ((0:Nat):Int) (G0 n l 0).1.1.1 (G0 n l 0).1.1.2.1 (G0 n l 0).1.2.1 (G0 n l 0).1.2.2.1 (G0 n l 0).1.2.2.2.1 (G0 n l 0).2.1 (G0 n l 0).2.2);refine Reach.M7 Lt Lx (λ i:Nat=>Lu n l (l.length:Int) (i:Int) (G0 n l i).1.1.1 (G0 n l i).1.1.2.1 (G0 n l i).1.2.1 (G0 n l i).1.2.2.1 (G0 n l i).1.2.2.2.1 (G0 n l i).2.1 (G0 n l i).2.2) (λ i=>i<=l.length) (λ i=>l.length - i) 1000 (λ _=>⟨s9 rfl,s9 rfl⟩) ?_ 0 (aAz _);rintro i k1 - ih;have k1:i<=l.length:=k1;have hS:=hW i;have ih1:∀ s':vX,i<l.length->s'=yb n (G0 n l i) (DV i (l.getD i DF))->_:=λ s' h e=>by
    have:=ih (i+1) (by show i+1<=l.length; omega) (by show l.length - (i+1)<l.length - i; omega);rw [show G0 n l (i+1)=s' from e.symm] at this;exact this
  generalize hs:G0 n l i=s at hS ih1 ⊢;have hg:=(hS.ok.zQ (by omega));have hle:s.2.1.length=n.toNat:=hS.said;have gQ:s.2.2.length<=i:=hS.K1;have tG:∀ p,(s.2.1.getD p []).length<=i:=hS.each;refine i7 (b9d ..) ?_;have e1:((i:Nat):Int)+1=((i+1:Nat):Int):=by omega
  have oM:Ty.wb .str=16:=rfl;have rZ:Ty.wb (.int .i64)=8:=rfl;have jv:maxLen=9223372036854775807:=by decide
  have fj:(D5 (Int.tmod (i:Int) 10)).length<=20:=CM (by have:=Int.tmod_nonneg (a:=(i:Int)) 10 (by omega); omega) (by have:=aEg (i:Int) (show (0:Int)<10 by decide); omega);have lQ:(D5 (i:Int)).length<=20:=CM (by omega) (by omega);obtain ⟨d,hd⟩:∃ d,d=l.getD i DF:=⟨_,rfl⟩;rw [<- hd] at ih1;simp only [DF] at hd;simp only [j7,Tree.holds,e1,oM,rZ,sL];rw [<- hd];clear hd;obtain ⟨dk,dw,dh,dt,⟨⟩⟩:=d;obtain ⟨w,sd,fl⟩:=s;have cT:-9223372036854775808<=((i+1:Nat):Int)/\((i+1:Nat):Int)<=9223372036854775807:=⟨by omega,by omega⟩;have qd:=tG dw.toNat;simp only at hle gQ qd;dsimp only at hg ⊢;refine ⟨λ c=>⟨by omega,λ _=>⟨λ c1=>?_,λ c1=>?_⟩⟩,λ c=>?_⟩
  . have kn:DV i (dk,dw,dh,dt,())=(dk,dw,dh,Dq++D5 (Int.tmod i 10)++spT++D5 i,()):=if_pos c1;have ih1:=λ s' h e=>ih1 s' h (by rw [kn]; exact e);have wy:=Sm (n:=n) (s:=(w,sd,fl)) (d:=(dk,dw,dh,Dq++D5 (Int.tmod i 10)++spT++D5 i,()));have wn:=QM (n:=n) (s:=(w,sd,fl)) (d:=(dk,dw,dh,Dq++D5 (Int.tmod i 10)++spT++D5 i,()));refine ⟨by decide,λ _=>⟨?_,λ _=>⟨?_,λ _=>⟨?_,λ _=>⟨hg,λ _=>?_⟩⟩⟩⟩⟩
    . rw [jv]; omega
    . simp only [aAe,aAh,aCh,jv]; omega
    . simp only [aAe,aAh,aCh,jv]; omega
    refine ⟨λ e=>⟨cT,λ _=>?_⟩,λ e=>⟨λ b=>⟨cT,λ _=>?_⟩,λ b=>⟨λ b2=>⟨cT,λ _=>?_⟩,λ b2=>⟨λ k1=>⟨by omega,λ _=>⟨by omega,λ _=>⟨⟨by omega,by omega⟩,λ _=>⟨λ k4=>by omega,λ k4=>⟨cT,λ _=>?_⟩⟩⟩⟩⟩,λ k1=>absurd c1 k1⟩⟩⟩⟩
    . exact ih1 (_,_,_) (by omega) (wy (.inl e)).symm
    . exact ih1 (_,_,_) (by omega) (wy (.inr (.inl b))).symm
    . exact ih1 (_,_,_) (by omega) (wy (.inr (.inr b2))).symm
    . exact ih1 (_,_,_) (by omega) (by
        rw [wn (by simpa using e) b b2];simp only;rw [if_pos c1,if_neg k4]; rfl)
  . have kn:DV i (dk,dw,dh,dt,())=(dk,dw,dh,dt,()):=if_neg c1;have ih1:=λ s' h e=>ih1 s' h (by rw [kn]; exact e);have wy:=Sm (n:=n) (s:=(w,sd,fl)) (d:=(dk,dw,dh,dt,()));have wn:=QM (n:=n) (s:=(w,sd,fl)) (d:=(dk,dw,dh,dt,()));refine ⟨hg,λ _=>?_⟩;refine ⟨λ e=>⟨cT,λ _=>?_⟩,λ e=>⟨λ b=>⟨cT,λ _=>?_⟩,λ b=>⟨λ b2=>⟨cT,λ _=>?_⟩,λ b2=>⟨λ k1=>absurd k1 c1,λ k1=>⟨λ k4=>⟨⟨by omega,by omega⟩,λ _=>⟨cT,λ _=>?_⟩⟩,λ k4=>⟨cT,λ _=>?_⟩⟩⟩⟩⟩⟩
    . exact ih1 (_,_,_) (by omega) (wy (.inl e)).symm
    . exact ih1 (_,_,_) (by omega) (wy (.inr (.inl b))).symm
    . exact ih1 (_,_,_) (by omega) (wy (.inr (.inr b2))).symm
    . exact ih1 (_,_,_) (by omega) (by
        rw [wn (by simpa using e) b b2];simp only;rw [if_neg c1,if_pos k4]; rfl)
    . exact ih1 (_,_,_) (by omega) (by
        rw [wn (by simpa using e) b b2];simp only;rw [if_neg c1,if_neg k4])
  . obtain rfl:i=l.length:=by omega
    rw [hs]; rfl
def Dz:p7:={ ps:=[.v (.d0 false r8),.v (.d0 false r8)],rs:=[.bool],pre:=λ _=>True,fn:=λ x=>(decide ((show List (w4) from x.1)=(show List (w4) from x.2.1)),()),out:=λ _=>() }
noncomputable def DO:Env:={ P:=Tryz.prog,tt:=tt,C9:=[],res:=[Go.ResultVar.tmp 4],rs:=[Ty.bool],ps:=[PK.v M6,PK.v M6],B8:=[(4,[(0,none),(1,none),(12,none),(13,none)])],nt:=26 }
theorem JL:w7 DO:=x6 r7 trivial
theorem Jt:C0 DO Tryz.f21:=⟨rfl,rfl⟩
theorem WM (x0:List (Int×yY×Unit)) (x1:List (Int×yY×Unit)):exec DO 1000 [.code (d8 Tryz.prog 21)] (s5 Dz.ps ((x0,x1,()))) =
  cond (decide ((↑(List.length x0):Int)≠(↑(List.length x1):Int))) (.ret ((false,()))) (.ctL (g8 (d8 Tryz.prog 21) 4) (St.mk [(0,AV.val M6 x0),(1,AV.val M6 x1),(12,AV.val d9 (↑(List.length x0):Int)),(13,AV.val d9 (0:Int))] [])):=by kernel_rfl
def Qb (v0:List (Int×yY×Unit)) (v1:List (Int×yY×Unit)) (v12:Int) (vj:Int):St:=St.mk [(0,AV.val M6 v0),(1,AV.val M6 v1),(12,AV.val d9 v12),(13,AV.val d9 vj)] []
theorem Yq (v0:List (Int×yY×Unit)) (v1:List (Int×yY×Unit)) (v12:Int) (vj:Int):exec DO 1000 (.code (g8 (d8 Tryz.prog 21) 4).1::.inLoop (g8 (d8 Tryz.prog 21) 4).1::(g8 (d8 Tryz.prog 21) 4).2) (Qb v0 v1 v12 vj) =
  cond (decide (vj<v12)) (.f8 ((0:Int)<=vj/\vj<(↑(List.length v0):Int)) (.f8 ((0:Int)<=vj/\vj<(↑(List.length v1):Int)) (cond (!F5 r8 (List.getD v0 (Int.toNat vj) ((0:Int),[],())) (List.getD v1 (Int.toNat vj) ((0:Int),[],()))) (.ret ((false,()))) (.f8 (r9 IntKind.i64 (vj+(1:Int))) (.ctL (g8 (d8 Tryz.prog 21) 4) (St.mk [(0,AV.val M6 v0),(1,AV.val M6 v1),(12,AV.val d9 v12),(13,AV.val d9 (vj+(1:Int)))] [])))))) (.ret ((true,()))):=by kernel_rfl
theorem Ud:Dz.Valid Tryz.prog 21:=by
  refine p7.n8 JL rfl rfl Tryz.func21 (c:=d8 Tryz.prog 21) rfl rfl Jt rfl ?_;rintro ⟨(l:List (w4)),(m:List (w4)),⟨⟩⟩ - ⟨⟨hl,-⟩,-⟩;have hl:l.length<=9223372036854775807:=hl;refine j6 (n:=1000) JL Jt ?_;refine i7 (WM l m) ?_;have fin:∀ {b:Bool},(b=true↔l=m)->((b,()):Bool×Unit)=(decide (l=m),()):=λ {b} h=>by
    cases b with
    | true=>rw [decide_eq_true (h.1 rfl)]
    | false=>rw [decide_eq_false (λ e=>by cases h.2 e)]
  simp only [j7,Tree.holds,sL];refine ⟨λ c=>fin ⟨λ h=>(by cases h),λ h=>absurd (congrArg (λ q:List (w4)=>(q.length:Int)) h) c⟩,λ c=>?_⟩;refine Reach.M7 JL Jt (λ i:Nat=>Qb l m (l.length:Int) (i:Int)) (λ i=>i<=l.length/\∀ j,j<i->l.getD j (0,[],())=m.getD j (0,[],()))
    (λ i=>l.length - i) 1000 (λ _=>⟨s9 rfl,s9 rfl⟩) ?_ 0 ⟨aAz _,λ j hj=>by omega⟩
  rintro i ⟨k1,k2⟩ - ih;refine i7 (Yq ..) ?_;have c:l.length=m.length:=by omega
  simp only [j7,Tree.holds,sL];refine ⟨λ d1=>⟨by omega,λ _=>⟨by omega,λ _=>⟨λ d2=>fin ⟨λ h=>(by cases h),λ h=>absurd (congrArg (λ q:List (w4)=>q.getD i (0,[],())) h) (ZE d2)⟩,λ d2=>⟨by omega,λ _=>ih (i+1) ⟨by omega,λ j hj=>?_⟩ (by omega)⟩⟩⟩⟩,λ d1=>fin ⟨λ _=>eq_of_getD c (λ j hj=>k2 j (by omega)),λ _=>rfl⟩⟩;rcases aEd j i with h|h
  . exact k2 j h
  . obtain rfl:j=i:=by omega
    exact Qf.1 d2
noncomputable def W2:{ f:Int->List G2->Nat->vX // f=G0 }:=Classical.choice ⟨⟨G0,rfl⟩⟩
noncomputable def yw:{ f:Nat->f9->f9×Bool // f=J8 }:=Classical.choice ⟨⟨J8,rfl⟩⟩
def Vu (g:Int->List G2->Nat->vX):p7:={ ps:=[.v d9,.v (.d0 false vU)],rs:=[.box true none u7,.d0 true (.d0 true .str),.d0 true d9,.bool],pre:=λ x=>(LE.le (α:=Int) 1 x.1/\LE.le (α:=Int) x.1 6)/\List.length (α:=G2) x.2.1<=1048576,fn:=λ x=>(some (g x.1 x.2.1 (List.length (α:=G2) x.2.1)).1,(g x.1 x.2.1 (List.length (α:=G2) x.2.1)).2.1,(g x.1 x.2.1 (List.length (α:=G2) x.2.1)).2.2,true,()),out:=λ _=>() }
noncomputable def a72:p7:={ ps:=[.v d9,.v (.d0 false vU)],rs:=[.box true none u7,.d0 true (.d0 true .str),.d0 true d9,.bool],pre:=λ x=>(LE.le (α:=Int) 1 x.1/\LE.le (α:=Int) x.1 6)/\List.length (α:=G2) x.2.1<=1048576,fn:=λ x=>(some (W2.1 x.1 x.2.1 (List.length (α:=G2) x.2.1)).1,(W2.1 x.1 x.2.1 (List.length (α:=G2) x.2.1)).2.1,(W2.1 x.1 x.2.1 (List.length (α:=G2) x.2.1)).2.2,true,()),out:=λ _=>() }
theorem UK:a72.Valid Tryz.prog 23:=by
  have e:a72=IY:=(show a72=Vu W2.1 from rfl).trans (by rw [W2.2]; rfl);rw [e]; exact b47
def Vj (g:Nat->f9->f9×Bool):p7:={ ps:=[.rw u7,.v d9],rs:=[.bool],pre:=λ x=>Fit x.2.1 x.1,fn:=λ x=>((g (Int.toNat x.2.1) x.1).2,()),out:=λ x=>((g (Int.toNat x.2.1) x.1).1,()) }
noncomputable def Ey:p7:={ ps:=[.rw u7,.v d9],rs:=[.bool],pre:=λ x=>Fit x.2.1 x.1,fn:=λ x=>((yw.1 (Int.toNat x.2.1) x.1).2,()),out:=λ x=>((yw.1 (Int.toNat x.2.1) x.1).1,()) }
theorem b5e:Ey.Valid Tryz.prog 16:=by
  have e:Ey=JH:=(show Ey=Vj yw.1 from rfl).trans (by rw [yw.2]; rfl);rw [e]; exact b3f
abbrev Y8:List G2:=List.set [((0:Int),(0:Int),(0:Int),([]:yY),())] (Int.toNat ((0:Nat):Int)) (1,1,0,[],())
def Jo:p7:={ ps:=[],rs:=[.bool],pre:=λ _=>True,fn:=λ _=>(true,()),out:=λ _=>() }
noncomputable def Cq:Env:={ P:=Tryz.prog,tt:=tt,C9:=[(23,a72),(16,Ey),(19,Bd),(21,Dz)],res:=[Go.ResultVar.tmp 0],rs:=[Ty.bool],ps:=[],B8:=[(5,[(1,none),(2,some (Ty.d0 true (Ty.d0 true Ty.str))),(30,none)])],nt:=54 }
theorem Lr:w7 Cq:=x6 r7 ⟨UK,b5e,Le,Ud,trivial⟩
theorem Lw:C0 Cq Tryz.f12:=⟨rfl,rfl⟩
theorem c2Z:exec Cq 1000 [.code (d8 Tryz.prog 12)] (s5 Jo.ps (())) =
  .f8 (((1:Int)<=(3:Int)/\(3:Int)<=(6:Int))/\List.length Y8<=1048576) (.f8 ((0:Int)<=(1:Int)/\(1:Int)<(↑(List.length (Subtype.val W2 (3:Int) Y8 (List.length Y8)).2.1):Int)) (cond (decide ((↑(List.length (List.getD (Subtype.val W2 (3:Int) Y8 (List.length Y8)).2.1 (Int.toNat (1:Int)) [])):Int)≠(1:Int))) (.ret ((false,()))) (.f8 (Fit (50:Int) (Subtype.val W2 (3:Int) Y8 (List.length Y8)).1) (cond (!Prod.snd (Subtype.val yw (Int.toNat (50:Int)) (Subtype.val W2 (3:Int) Y8 (List.length Y8)).1)) (.ret ((false,()))) (.ctL (g8 (d8 Tryz.prog 12) 5) (St.mk [(1,AV.ptr 1011 []),(2,AV.at_ 1000002 []),(30,AV.val d9 (0:Int))] [(1011,i6.var u7 (Subtype.val yw (Int.toNat (50:Int)) (Subtype.val W2 (3:Int) Y8 (List.length Y8)).1).1),(1000002,i6.own (Ty.d0 true (Ty.d0 true Ty.str)) (Subtype.val W2 (3:Int) Y8 (List.length Y8)).2.1)])))))):=by kernel_rfl
def Ls (v30:Int) (ca:Int) (bM:Int) (bV:List n9) (bL:List yY) (bz:List yY) (eF:List (List yY)):St:=St.mk [(1,AV.ptr 1011 []),(2,AV.at_ 1000002 []),(30,AV.val d9 v30)] [(1011,i6.var u7 ((ca,bM,()),bV,bL,bz,())),(1000002,i6.own (Ty.d0 true (Ty.d0 true Ty.str)) eF)]
theorem b9e (v30:Int) (ca:Int) (bM:Int) (bV:List n9) (bL:List yY) (bz:List yY) (eF:List (List yY)):exec Cq 1000 (.code (g8 (d8 Tryz.prog 12) 5).1::.inLoop (g8 (d8 Tryz.prog 12) 5).1::(g8 (d8 Tryz.prog 12) 5).2) (Ls v30 ca bM bV bL bz eF) =
  cond (decide (v30<(3:Int))) (.f8 (List.length bV<=6/\List.length (L9 ((ca,bM,()),bV,bL,bz,()) v30)<=5864062014805) (cond (decide (Prod.fst (T3 ((ca,bM,()),bV,bL,bz,()) v30).2≠(0:Int))) (.ret ((false,()))) (.f8 ((0:Int)<=(1:Int)/\(1:Int)<(↑(List.length eF):Int)) (.f8 ((0:Int)<=(0:Int)/\(0:Int)<(↑(List.length (List.getD eF (Int.toNat (1:Int)) [])):Int)) (.f8 (True) (cond (!decide (Prod.fst (T3 ((ca,bM,()),bV,bL,bz,()) v30)=List.set [((0:Int),[],())] (Int.toNat (↑0:Int)) ((1:Int),List.getD (List.getD eF (Int.toNat (1:Int)) []) (Int.toNat (0:Int)) [],()))) (.ret ((false,()))) (.f8 (r9 IntKind.i64 (v30+(1:Int))) (.ctL (g8 (d8 Tryz.prog 12) 5) (St.mk [(1,AV.ptr 1011 []),(2,AV.at_ 1000002 []),(30,AV.val d9 (v30+(1:Int)))] [(1011,i6.var u7 ((ca,bM,()),bV,bL,bz,())),(1000002,i6.own (Ty.d0 true (Ty.d0 true Ty.str)) eF)]))))))))) (.ret ((true,()))):=by kernel_rfl
def yo:G2:=(1,1,0,[],())
theorem Vn:(G0 3 [yo] 1).2.1.length=3/\((G0 3 [yo] 1).2.1.getD 1 []).length=1/\(J8 50 (G0 3 [yo] 1).1).2=true:=by decide +kernel
theorem Vo:(List.range 3).all (λ p=>decide (T3 (J8 50 (G0 3 [yo] 1).1).1 (p:Int)=([(1,((G0 3 [yo] 1).2.1.getD 1 []).getD 0 [],())],0,())))=true:=by decide +kernel
theorem Qe {said:Nat->List D8}:∀ (k:Nat) {c:Nat} {w:f9},Ok c said w->Ok (c+16*k) said (J8 k w).1
  | 0,_,_,h=>h
  | k+1,c,w,h=>by
    rw [J8]
    split
    . exact ⟨h.mem,h.sz.mono (by omega),h.inv⟩
    split
    . have:=h.Hk 0 1;exact ⟨this.mem,this.sz.mono (by omega),this.inv⟩
    . have:=Qe k (h.Hk 0 1);rw [show c+16*(k+1)=c+16+16*k by omega];exact this
attribute [local irreducible] G0 J8 T3 in
theorem b48:Jo.Valid Tryz.prog 12:=by
  refine p7.n8 Lr rfl rfl Tryz.func12 (c:=d8 Tryz.prog 12) rfl rfl Lw rfl ?_;rintro ⟨⟩ - -
  refine j6 (n:=1000) Lr Lw ?_;refine i7 (c2Z ) ?_;have hw:W2.1 3 Y8 (List.length Y8)=G0 3 [yo] 1:=by rw [W2.2]; rfl
  obtain ⟨s,hs⟩:∃ s,s=G0 3 [yo] 1:=⟨_,rfl⟩;obtain ⟨ha,hb,hc⟩:=Vn;have hd:=Vo;have aM:=(Cb (n:=3) (by decide) [yo] 1).ok;rw [hw];rw [<- hs] at ha hb hc hd aM ⊢;obtain ⟨u,hu⟩:∃ u,u=(J8 50 s.1).1:=⟨_,rfl⟩;have tI:yw.1 (Int.toNat 50) s.1=J8 50 s.1:=by rw [yw.2]; rfl
  have ew:=Qe 50 aM;rw [tI];rw [<- hu] at ew hd;rw [<- hu];have mS:(s.2.1.length:Int)=3:=by omega
  have cS:((s.2.1.getD (Int.toNat 1) []).length:Int)=1:=by show ((s.2.1.getD 1 []).length:Int)=1; omega
  simp only [j7,Tree.holds,mS,cS,hc,sL];refine ⟨⟨by omega,by decide⟩,λ _=>⟨by omega,λ _=>⟨λ c=>absurd rfl c,λ _=>⟨⟨by decide,⟨_,_,aM,by decide⟩⟩,λ _=>⟨λ c=>absurd c (by decide),?_⟩⟩⟩⟩⟩;suffices go:Go.Ex.Reach Cq Tryz.f12 (true,()) () (.code (g8 (d8 Tryz.prog 12) 5).1::.inLoop (g8 (d8 Tryz.prog 12) 5).1::(g8 (d8 Tryz.prog 12) 5).2) (Ls ((0:Nat):Int) u.1.1 u.1.2.1 u.2.1 u.2.2.1 u.2.2.2.1 s.2.1) by exact go
  refine Reach.M7 Lr Lw (λ p:Nat=>Ls (p:Int) u.1.1 u.1.2.1 u.2.1 u.2.2.1 u.2.2.2.1 s.2.1) (λ p=>p<=3) (λ p=>3 - p) 1000 (λ _=>⟨s9 rfl,s9 rfl⟩) ?_ 0 (aAz _);rintro p k1 - ih;have k1:p<=3:=k1;refine i7 (b9e ..) ?_;have e1:((p:Nat):Int)+1=((p+1:Nat):Int):=by omega
  have ih1:p<3->_:=λ h=>ih (p+1) (by show p+1<=3; omega) (by show 3 - (p+1)<3 - p; omega);have hv:p<3->T3 ((u.1.1,u.1.2.1,()),u.2.1,u.2.2.1,u.2.2.2.1,()) (p:Int)=([(1,(s.2.1.getD 1 []).getD 0 [],())],0,()):=λ h=>of_decide_eq_true (aBh.1 hd p (aCo.2 h));simp only [j7,Tree.holds,e1,sL];refine ⟨λ c=>⟨⟨ew.K1,aAv (ew.sz.log p) (by omega)⟩,λ _=>⟨λ d=>?_,λ _=>⟨by omega,λ _=>⟨by omega,λ _=>⟨λ e=>?_,λ _=>⟨F6.2 ⟨by omega,by omega⟩,λ _=>ih1 (by omega)⟩⟩⟩⟩⟩⟩,λ c=>rfl⟩
  . rw [hv (by omega)] at d; exact absurd rfl d
  . rw [hv (by omega)] at e; exact absurd rfl e
theorem Kc {w:f9} {O8:List Int}:∀ {k:Nat} {x:Int},x∈G9 w O8 k->∃ j:Nat,x=j/\j<k/\T1 w.1.2.1 j=true/\¬ (j:Int)∈O8
  | 0,x,h=>by cases h
  | k+1,x,h=>by
    rw [G9] at h;split at h
    . rename_i c;rcases aAi.1 h with h|h
      . obtain ⟨j,h1,h2,h3⟩:=Kc h;exact ⟨j,h1,by omega,h3⟩
      . rw [aBg] at h;exact ⟨k,h,by omega,c.1,c.2⟩
    . obtain ⟨j,h1,h2,h3⟩:=Kc h;exact ⟨j,h1,by omega,h3⟩
theorem OH {w:f9} {O8:List Int} {k i:Nat} (hi:i<(G9 w O8 k).length):∃ j:Nat,(G9 w O8 k).getD i 0=j/\j<k/\T1 w.1.2.1 j=true/\¬ (j:Int)∈O8 :=
  Kc (by rw [aAb,aAf hi]; exact aCp _)
theorem Rf {α:Type} {f:α->Nat} (h:∀ x,1<=f x):∀ l:List α,l.length<=Z1 f l
  | []=>aAz _
  | x::l=>by have h1:=h x; have h2:=Rf h l; simp only [Z1,aAh]; omega
theorem ZC {n:Int} {l:List G2} (hp:Ae [d9,.d0 false vU] (n,l,())<=1048576):l.length<=1048576:=by
  have h2:=Rf (f:=Ty.W0 vU) (λ x=>by show 1<=1+_; omega) l;have h1:Ty.W0 d9 n+((Z1 (Ty.W0 vU) l+1)+0)<=1048576:=hp;omega
theorem Jk {w:f9} {p:Nat} (h:p<w.2.1.length):T3 w p=(L9 w p,0,()):=by
  unfold T3;exact if_neg (λ c=>EU.2 ⟨by omega,by omega⟩ c)
end Go.Proofs.YtijlnmgondibnaaGreatDoor
namespace Go.Proofs.YtijlnmgondibnaaGreatDoor
open Go.Ex
set_option maxRecDepth 100000
structure VOk (w:f9):Prop where
  I6:Q7 w.1=0
  mem:∀ i:Nat,i<8->T1 w.1.2.1 i=true->i<w.2.1.length
theorem c3w {v:vK} (h:Q7 v=0):(0<=v.1/\v.1<=16777215)/\v.2.1≠0/\v.2.1<64:=by
  unfold Q7 at h;split at h
  . cases h
  . omega
theorem c3x {v:vK} (h:(0<=v.1/\v.1<=16777215)/\v.2.1≠0/\v.2.1<64):Q7 v=0:=by
  unfold Q7; rw [if_neg (by omega)]
theorem VOk.new {n:Int} (h:1<=n/\n<=6):VOk (xB n):=by
  have key:∀ k:Fin 7,1<=k.val->Q7 (0,Bh ((k.val:Nat):Int),())=0/\∀ i:Fin 8,T1 (Bh ((k.val:Nat):Int)) i.val=true->i.val<k.val:=by decide +kernel
  obtain ⟨h1,h2⟩:=key ⟨n.toNat,by omega⟩ (by show 1<=n.toNat; omega);have e:((n.toNat:Nat):Int)=n:=by omega
  simp only [e] at h1 h2;refine ⟨h1,λ i hi hm=>?_⟩;have:=h2 ⟨i,hi⟩ hm;rw [show (xB n).2.1.length=n.toNat from aCg ..];exact this
theorem Nz {x:Int} (h:r9 .u8 x):bOr .u8 x 0=x:=by
  have key:∀ n:Fin 256,bOr .u8 ((n.val:Nat):Int) 0=((n.val:Nat):Int):=by decide +kernel
  have h:=u8_in.1 h;have:=key ⟨x.toNat,by omega⟩
  rwa [show ((x.toNat:Nat):Int)=x by omega] at this
theorem Oz {x:Int} (h:r9 .u8 x):T4 .u8 x 0=0/\T4 .u8 0 x=0:=by
  have key:∀ n:Fin 256,T4 .u8 ((n.val:Nat):Int) 0=0/\T4 .u8 0 ((n.val:Nat):Int)=0:=by decide +kernel
  have h:=u8_in.1 h;have:=key ⟨x.toNat,by omega⟩
  rwa [show ((x.toNat:Nat):Int)=x by omega] at this
theorem QJ {x:Int} (h:r9 .u8 x) (h6:bit x 6=false) (h7:bit x 7=false):x<64:=by
  have key:∀ n:Fin 256,bit ((n.val:Nat):Int) 6=false->bit ((n.val:Nat):Int) 7=false->((n.val:Nat):Int)<64:=by decide +kernel
  have h:=u8_in.1 h;have:=key ⟨x.toNat,by omega⟩;rw [show ((x.toNat:Nat):Int)=x by omega] at this;exact this h6 h7
section
variable {c:Nat} {said:Nat->List D8} {w:f9}
theorem Tc (h:Ok c said w) (hv:VOk w) (hn:(L7 w).2.1≠0):(L7 w).2.1=11\/((L7 w).2.1=8/\w.1.1=16777215):=by
  have hf:=h.K1;obtain ⟨g1,g2⟩:=EK h.mem (show w.2.1.length<=8 by omega);have s6:bit (D4 w w.2.1.length) 6=false:=by rw [g2 6 (by decide),decide_eq_false (by omega)]; rfl
  have s7:bit (D4 w w.2.1.length) 7=false:=by rw [g2 7 (by decide),decide_eq_false (by omega)]; rfl
  have bf:=QJ g1 s6 s7;unfold L7 at hn ⊢;unfold R5 at hn ⊢;rw [if_neg (by rw [hv.I6]; decide),if_neg (by rw [Nz g1]; unfold outside; rw [decide_eq_false (by omega)]; decide),if_neg (by rw [(Oz g1).1]; decide)] at hn ⊢;split at hn
  . rename_i e; rw [if_pos e]; exact .inr ⟨rfl,e⟩
  . rename_i e;rw [if_neg e];split at hn
    . rename_i e2; rw [if_pos e2]; exact .inl rfl
    . exact absurd rfl hn
theorem Tw (h:Ok c said w) (hv:VOk w) (hn:¬ (L7 w).2.1≠0):(∃ p:Nat,p<w.2.1.length/\s8 w p=true)/\VOk (E2 w):=by
  have hf:=h.K1;obtain ⟨g1,g2⟩:=EK h.mem (show w.2.1.length<=8 by omega);obtain ⟨e1,e2,e3⟩:=Qr hn;have bn:r9 .u8 w.1.2.1:=u8_in.2 h.mem;have gP:half (S8 .u8 w.1.2.1 (D4 w w.2.1.length)) w.1.2.1=true:=by
    unfold L7 R5 at hn;split at hn
    . rename_i c; exact absurd c hn
    split at hn
    . exact absurd (by decide) hn
    split at hn
    . exact absurd (by decide) hn
    split at hn
    . exact absurd (by decide) hn
    split at hn
    . exact absurd (by decide) hn
    . rename_i c; simpa using c
  have bt:S8 .u8 w.1.2.1 (D4 w w.2.1.length)≠0:=by
    intro e0;rw [e0] at gP;unfold half at gP;rw [(Oz bn).2] at gP;have h1:=of_decide_eq_true gP;have h2:=(OV w.1.2.1).1;have h3:vR 0=0:=by decide
    omega
  have ff:(E2 w).1=(w.1.1+1,bOr .u8 (S8 .u8 w.1.2.1 (D4 w w.2.1.length)) 0,()):=e1;rw [Nz AL] at ff;have hlen:(E2 w).2.1.length=w.2.1.length:=aEf ..;have jH:∀ i,bit (S8 .u8 w.1.2.1 (D4 w w.2.1.length)) i=(bit w.1.2.1 i && !bit (D4 w w.2.1.length) i):=λ i=>SZ u8s bn g1 i;have kE:∀ i,i<8->bit w.1.2.1 i=true->i<w.2.1.length:=λ i hi hb=>hv.mem i hi (by rw [AB h.mem hi]; exact hb);constructor
  . by_cases hex:∃ p:Nat,p<w.2.1.length/\s8 w p=true
    . exact hex
    . exfalso;apply bt;refine (c3q (u8_in.1 AL).1).2 (λ i=>?_);by_cases hi:i<8
      . rw [jH i];cases hb:bit w.1.2.1 i with
        | false=>rfl
        | true =>
          have kj:=kE i hi hb;have ha:s8 w i=false:=by
            cases ha:s8 w i with
            | false=>rfl
            | true=>exact absurd ⟨i,kj,ha⟩ hex
          rw [g2 i hi,decide_eq_true kj,AB h.mem hi,hb,ha]; rfl
      . exact Pe u8s AL (by show 8<=i; omega)
  . refine ⟨?_,λ i hi hm=>?_⟩
    . rw [ff];refine c3x ⟨by show 0<=w.1.1+1/\w.1.1+1<=16777215; omega,bt,QJ AL ?_ ?_⟩
      . rw [jH];cases hb:bit w.1.2.1 6 with
        | false=>rfl
        | true=>have:=kE 6 (by decide) hb; omega
      . rw [jH];cases hb:bit w.1.2.1 7 with
        | false=>rfl
        | true=>have:=kE 7 (by decide) hb; omega
    . rw [hlen];rw [ff] at hm;rw [AB (u8_in.1 AL) hi,jH,aAa] at hm;exact kE i hi hm.1
theorem Ze (w:f9) (d:G2):(R2 w d).1.1=w.1\/(¬ (L7 w).2.1≠0/\(R2 w d).1=E2 w):=by
  unfold R2
  split
  . exact .inl (Sc _ _ _).view
  split
  . exact .inl (TU _ _).view
  split
  . exact .inl (SN _ _ _).view
  split
  . left; unfold vY; split<;>rfl
  split
  . by_cases c:(L7 w).2.1≠0
    . rw [yL c]; exact .inl rfl
    . rw [CP c]; exact .inr ⟨c,rfl⟩
  . exact .inl rfl
theorem VOk.R2 (h:Ok c said w) (hv:VOk w) (d:G2):VOk (R2 w d).1:=by
  have hl:=(Cg h d).len;rcases Ze w d with e|⟨c,e⟩
  . exact ⟨by rw [e]; exact hv.I6,λ i hi hm=>by rw [hl]; rw [e] at hm; exact hv.mem i hi hm⟩
  . rw [e]; exact (Tw h hv c).2
end
theorem Sn {n:Int} (hn:1<=n/\n<=6) (l:List G2):∀ i,VOk (G0 n l i).1
  | 0=>VOk.new hn
  | i+1=>by
    have h:=Sn hn l i;have aM:=(Cb hn l i).ok;rw [G0,yb]
    split<;>exact VOk.R2 aM h _
end Go.Proofs.YtijlnmgondibnaaGreatDoor
namespace Go.Proofs.YtijlnmgondibnaaGreatDoor
open Go.Ex
set_option maxRecDepth 100000
attribute [local irreducible] Go.Ex.exec
theorem JR {α β:Type} {f:α->α->Bool} {a:α}:∀ {l:List (α×β)} {i:Nat},posOf f a l (i+1)=(posOf f a l i).map (λ q=>(q.1+1,q.2))
  | [],_=>rfl
  | (x,y)::l,i=>by
    simp only [posOf];cases f a x with
    | true=>rfl
    | false=>exact JR
theorem EW {α β:Type} {f:α->α->Bool} {a x:α} {y:β} {l:List (α×β)}:V7 f a ((x,y)::l)=if f a x=true then some y else V7 f a l:=by
  simp only [V7,posOf];cases f a x with
  | true=>rfl
  | false=>rw [JR,if_neg (by simp),aDx]; rfl
theorem c3Z {α β:Type} {f:α->α->Bool} {a x:α} {y z:β} {l:List (α×β)}:vD f a z ((x,y)::l)=if f a x=true then (a,z)::l else (x,y)::vD f a z l:=by
  simp only [vD,posOf];cases f a x with
  | true=>rfl
  | false =>
    rw [JR,if_neg (by simp)];cases posOf f a l 0<;>rfl
theorem RT {f:Int->Int->Bool} (hf:∀ a b,f a b=decide (a=b)) {x c:Int} {z:Int}:∀ {m:List (Int×Int)},V7 f x (vD f c z m)=if x=c then some z else V7 f x m
  | []=>by
    show V7 f x [(c,z)]=_;rw [EW,hf];by_cases e:x=c
    . rw [if_pos (decide_eq_true e),if_pos e]
    . rw [if_neg (by simp [e]),if_neg e]
  | (k,y)::m=>by
    rw [c3Z,EW,hf c k,hf x k];by_cases e:c=k
    . subst e;rw [if_pos (decide_eq_true rfl),EW,hf x c];by_cases e2:x=c
      . rw [if_pos (decide_eq_true e2),if_pos e2]
      . rw [if_neg (by simp [e2]),if_neg e2,if_neg (by simp [e2])]
    . rw [if_neg (by simp [e]),EW,hf x k];by_cases e2:x=k
      . rw [if_pos (decide_eq_true e2),if_pos (decide_eq_true e2),if_neg (λ h=>e (by rw [<- h,e2]))]
      . simp only [e2,decide_false,aCk,if_false];exact RT hf
theorem Ro {α:Type} {f:α->α->Bool} (h:∀ x,f x x=true):∀ l:List α,F5.xD f l l=true
  | []=>rfl
  | x::l=>by simp [F5.xD,h x,Ro h l]
theorem Xj (a b:Int):F5 (Ty.int .i64) a b=decide (a=b):=rfl
theorem OJ {w:f9} {O8:List Int}:∀ {k j:Nat},j<k->T1 w.1.2.1 j=true->¬ (j:Int)∈O8->(j:Int)∈G9 w O8 k
  | 0,j,h,_,_=>by omega
  | k+1,j,h,h1,h2=>by
    rw [G9];by_cases e:j=k
    . subst e;rw [if_pos ⟨h1,h2⟩];exact aBr _ (aBg.2 rfl)
    . have:=OJ (k:=k) (j:=j) (by omega) h1 h2
      split
      . exact aBb _ this
      . exact this
theorem QL {w:f9} {p:Nat} (h:p<w.2.1.length):wh w p=((N7 zeroV (O5 (L9 w p))).1,0,()):=by
  unfold wh;exact if_neg (λ c=>EU.2 ⟨by omega,by omega⟩ c)
def IM:G2:=(5,0,0,[],())
theorem c1y (w:f9):R2 w IM=C4 w:=by
  unfold R2 IM;rw [if_neg (show ¬ (5:Int)=1 by decide),if_neg (show ¬ (5:Int)=2 by decide),if_neg (show ¬ (5:Int)=3 by decide),if_neg (show ¬ (5:Int)=4 by decide),if_pos rfl]
structure UY (n:Int) (w u:f9) (fl:List Int) (B:List D7):Prop where
  num:u.1.1=w.1.1+1
  len:u.2.1.length=n.toNat
  some_:G9 u fl n.toNat≠[]
  log:∀ j:Nat,j<n.toNat->T1 u.1.2.1 j=true->¬ (j:Int)∈fl->L9 u j=B
  grow:∀ j:Nat,j<n.toNat->T1 u.1.2.1 j=true->¬ (j:Int)∈fl->(L9 w j).length<=B.length
theorem b65 {n:Int} (hn:1<=n/\n<=6) {i:Nat} {s:vX} (hW:DZ n i s) (hv:VOk s.1) (bt:¬ (L7 s.1).2.1≠0):∃ B,UY n s.1 (E2 s.1) s.2.2 B:=by
  obtain ⟨B0,S0,Q0,hI⟩:=hW.ok.inv;obtain ⟨B',S',rO,h1,h2⟩:=hI.change hW.ok.mem bt;obtain ⟨eT,kG,jP⟩:=members hI.K1 hW.ok.mem bt;have hlen:(E2 s.1).2.1.length=s.1.2.1.length:=aEf ..;have hl:=hW.len;have iP:∀ j:Nat,j<n.toNat->T1 (E2 s.1).1.2.1 j=true->s8 s.1 j=true:=λ j hj hm=>by rw [<- jP j (by omega)]; exact hm
  obtain ⟨⟨p,hp,ha⟩,-⟩:=Tw hW.ok hv bt;refine ⟨B',eT,hlen.trans hl,?_,λ j hj hm _=>?_,λ j hj hm _=>?_⟩
  . have tq:¬ (p:Int)∈s.2.2:=by
      have h3:=(yJ.1 ha).2.2;rw [hW.O8 p (by omega)] at h3;exact of_decide_eq_false h3
    exact List.ne_nil_of_mem (OJ (by omega) (by rw [jP p hp]; exact ha) tq)
  . show ((E2 s.1).2.1.getD j j8).2.1=B';rw [h1 j (by omega) (iP j hj hm)]
  . have:=(h2 j (by omega)).length_le;rw [h1 j (by omega) (iP j hj hm)] at this;exact this
def Un:p7:=Nx [d9,.d0 false vU]
noncomputable def zt:Env:={ P:=Tryz.prog,tt:=tt,C9:=[(12,Jo),(13,Gm),(23,a72),(24,GL),(19,Bd),(30,DD),(29,DU),(25,JF),(21,Dz)],res:=[Go.ResultVar.tmp 4],rs:=[Ty.bool],ps:=[PK.v d9,PK.v (Ty.d0 false vU)],B8:=[(9,[(0,none),(5,none),(7,some Is),(9,some (Ty.map true d9 d9)),(45,some Is),(46,none),(47,none)]),(22,[(5,none),(9,some (Ty.map true d9 d9)),(14,none),(17,some (Ty.d0 true r8)),(19,none),(106,some Is),(107,none),(108,none)])],nt:=156 }
theorem Fx:w7 zt:=x6 r7 ⟨b48,c2e,UK,b8X,Le,b8G,UJ,UN,Ud,trivial⟩
theorem Fy:C0 zt Tryz.f7:=⟨rfl,rfl⟩
theorem b9k (x0:Int) (x1:List (Int×Int×Int×yY×Unit)):exec zt 1000 [.code (d8 Tryz.prog 7)] (s5 Un.ps ((x0,x1,()))) =
  .f8 (True) (.f8 (True) (.f8 (((1:Int)<=K1 x0/\K1 x0<=(6:Int))/\List.length x1<=1048576) (.f8 ((0:Int)<=K1 x0/\K1 x0<=(6:Int)) (.ctL (g8 (d8 Tryz.prog 7) 9) (St.mk [(0,AV.val d9 (K1 x0)),(5,AV.ptr 1034 []),(7,AV.at_ 1000007 []),(9,AV.at_ 1000009 []),(45,AV.at_ 1000045 []),(46,AV.val d9 (↑(List.length (G9 (Subtype.val W2 (K1 x0) x1 (List.length x1)).1 (Subtype.val W2 (K1 x0) x1 (List.length x1)).2.2 (Int.toNat (K1 x0)))):Int)),(47,AV.val d9 (0:Int))] [(1034,i6.var u7 (Subtype.val W2 (K1 x0) x1 (List.length x1)).1),(1000007,i6.own Is (Subtype.val W2 (K1 x0) x1 (List.length x1)).2.2),(1000009,i6.own (Ty.map true d9 d9) (some [])),(1000045,i6.own Is (G9 (Subtype.val W2 (K1 x0) x1 (List.length x1)).1 (Subtype.val W2 (K1 x0) x1 (List.length x1)).2.2 (Int.toNat (K1 x0))))]))))):=by kernel_rfl
def LV (v0:Int) (v46:Int) (vg:Int) (aw:Int) (ar:Int) (az:List n9) (aq:List yY) (an:List yY) (bo:List Int) (du:List (Int×Int)) (bE:List Int):St:=St.mk [(0,AV.val d9 v0),(5,AV.ptr 1034 []),(7,AV.at_ 1000007 []),(9,AV.at_ 1000009 []),(45,AV.at_ 1000045 []),(46,AV.val d9 v46),(47,AV.val d9 vg)] [(1034,i6.var u7 ((aw,ar,()),az,aq,an,())),(1000007,i6.own Is bo),(1000009,i6.own (Ty.map true d9 d9) (some du)),(1000045,i6.own Is bE)]
theorem b74 (v0:Int) (v46:Int) (vg:Int) (aw:Int) (ar:Int) (az:List n9) (aq:List yY) (an:List yY) (bo:List Int) (du:List (Int×Int)) (bE:List Int):exec zt 1000 (.code (g8 (d8 Tryz.prog 7) 9).1::.inLoop (g8 (d8 Tryz.prog 7) 9).1::(g8 (d8 Tryz.prog 7) 9).2) (LV v0 v46 vg aw ar az aq an bo du bE) =
  cond (decide (vg<v46)) (.f8 ((0:Int)<=vg/\vg<(↑(List.length bE):Int)) (.f8 (List.length az<=6/\List.length (L9 ((aw,ar,()),az,aq,an,()) (List.getD bE (Int.toNat vg) (0:Int)))<=5864062014805) (.f8 (r9 IntKind.i64 (vg+(1:Int))) (.ctL (g8 (d8 Tryz.prog 7) 9) (St.mk [(0,AV.val d9 v0),(5,AV.ptr 1034 []),(7,AV.at_ 1000007 []),(9,AV.at_ 1000009 []),(45,AV.at_ 1000045 []),(46,AV.val d9 v46),(47,AV.val d9 (vg+(1:Int)))] [(1034,i6.var u7 ((aw,ar,()),az,aq,an,())),(1000007,i6.own Is bo),(1000009,i6.own (Ty.map true d9 d9) (some (vD (F5 d9) (List.getD bE (Int.toNat vg) (0:Int)) (↑(List.length (T3 ((aw,ar,()),az,aq,an,()) (List.getD bE (Int.toNat vg) (0:Int))).1):Int) du))),(1000045,i6.own Is bE)]))))) (.f8 (True) (.f8 (yM ((aw,ar,()),az,aq,an,())) (cond (decide (Prod.snd (C4 ((aw,ar,()),az,aq,an,()))≠(0:Int))) (cond (decide (Prod.snd (C4 ((aw,ar,()),az,aq,an,()))=(11:Int))) (.f8 (True) (.ret ((decide (Prod.fst (C4 ((aw,ar,()),az,aq,an,())).1.1=aw),())))) (cond (decide (Prod.snd (C4 ((aw,ar,()),az,aq,an,()))=(8:Int))) (cond (decide (aw=(16777215:Int))) (.f8 (True) (.ret ((decide (Prod.fst (C4 ((aw,ar,()),az,aq,an,())).1.1=aw),())))) (.ret ((false,())))) (.ret ((false,()))))) (.f8 ((0:Int)<=v0/\v0<=(6:Int)) (.f8 ((0:Int)<=(0:Int)/\(0:Int)<(↑(List.length (G9 (C4 ((aw,ar,()),az,aq,an,())).1 bo (Int.toNat v0))):Int)) (.f8 (List.length (Prod.snd (C4 ((aw,ar,()),az,aq,an,())).1).1<=6/\List.length (L9 (C4 ((aw,ar,()),az,aq,an,())).1 (List.getD (G9 (C4 ((aw,ar,()),az,aq,an,())).1 bo (Int.toNat v0)) (Int.toNat (0:Int)) (0:Int)))<=5864062014805) (.f8 ((0:Int)<=(0:Int)/\(0:Int)<(↑(List.length (G9 (C4 ((aw,ar,()),az,aq,an,())).1 bo (Int.toNat v0))):Int)) (.f8 (List.length (Prod.snd (C4 ((aw,ar,()),az,aq,an,())).1).1<=6/\List.length (L9 (C4 ((aw,ar,()),az,aq,an,())).1 (List.getD (G9 (C4 ((aw,ar,()),az,aq,an,())).1 bo (Int.toNat v0)) (Int.toNat (0:Int)) (0:Int)))<=5864062014805/\∀ (s:D7),s∈L9 (C4 ((aw,ar,()),az,aq,an,())).1 (List.getD (G9 (C4 ((aw,ar,()),az,aq,an,())).1 bo (Int.toNat v0)) (Int.toNat (0:Int)) (0:Int))->List.length s.2.1<=4294967280) (.ctL (g8 (d8 Tryz.prog 7) 22) (St.mk [(5,AV.ptr 1034 []),(9,AV.at_ 1000009 []),(14,AV.val d9 aw),(17,AV.at_ 1000017 []),(19,AV.ptr 19 []),(106,AV.at_ 1000106 []),(107,AV.val d9 (↑(List.length (G9 (C4 ((aw,ar,()),az,aq,an,())).1 bo (Int.toNat v0))):Int)),(108,AV.val d9 (0:Int))] [(19,i6.var vo (wh (C4 ((aw,ar,()),az,aq,an,())).1 (List.getD (G9 (C4 ((aw,ar,()),az,aq,an,())).1 bo (Int.toNat v0)) (Int.toNat (0:Int)) (0:Int))).1),(1034,i6.var u7 (C4 ((aw,ar,()),az,aq,an,())).1),(1000009,i6.own (Ty.map true d9 d9) (some du)),(1000017,i6.own (Ty.d0 true r8) (T3 (C4 ((aw,ar,()),az,aq,an,())).1 (List.getD (G9 (C4 ((aw,ar,()),az,aq,an,())).1 bo (Int.toNat v0)) (Int.toNat (0:Int)) (0:Int))).1),(1000106,i6.own Is (G9 (C4 ((aw,ar,()),az,aq,an,())).1 bo (Int.toNat v0)))])))))))))):=by kernel_rfl
def Me (zG:Int) (v107:Int) (v108:Int) (AU:List Int) (aw:Int) (ar:Int) (az:List n9) (aq:List yY) (an:List yY) (du:List (Int×Int)) (fH:List (Int×yY×Unit)) (cG:List Int):St:=St.mk [(5,AV.ptr 1034 []),(9,AV.at_ 1000009 []),(14,AV.val d9 zG),(17,AV.at_ 1000017 []),(19,AV.ptr 19 []),(106,AV.at_ 1000106 []),(107,AV.val d9 v107),(108,AV.val d9 v108)] [(19,i6.var vo AU),(1034,i6.var u7 ((aw,ar,()),az,aq,an,())),(1000009,i6.own (Ty.map true d9 d9) (some du)),(1000017,i6.own (Ty.d0 true r8) fH),(1000106,i6.own Is cG)]
theorem b5h (zG:Int) (v107:Int) (v108:Int) (AU:List Int) (aw:Int) (ar:Int) (az:List n9) (aq:List yY) (an:List yY) (du:List (Int×Int)) (fH:List (Int×yY×Unit)) (cG:List Int):exec zt 1000 (.code (g8 (d8 Tryz.prog 7) 22).1::.inLoop (g8 (d8 Tryz.prog 7) 22).1::(g8 (d8 Tryz.prog 7) 22).2) (Me zG v107 v108 AU aw ar az aq an du fH cG) =
  cond (decide (v108<v107)) (.f8 ((0:Int)<=v108/\v108<(↑(List.length cG):Int)) (.f8 (List.length az<=6/\List.length (L9 ((aw,ar,()),az,aq,an,()) (List.getD cG (Int.toNat v108) (0:Int)))<=5864062014805) (.f8 (List.length az<=6/\List.length (L9 ((aw,ar,()),az,aq,an,()) (List.getD cG (Int.toNat v108) (0:Int)))<=5864062014805/\∀ (s:D7),s∈L9 ((aw,ar,()),az,aq,an,()) (List.getD cG (Int.toNat v108) (0:Int))->List.length s.2.1<=4294967280) (cond (decide (Prod.fst (T3 ((aw,ar,()),az,aq,an,()) (List.getD cG (Int.toNat v108) (0:Int))).2≠(0:Int))) (.ret ((false,()))) (cond (decide (Prod.fst (wh ((aw,ar,()),az,aq,an,()) (List.getD cG (Int.toNat v108) (0:Int))).2≠(0:Int))) (.ret ((false,()))) (.f8 (True) (cond (!decide (Prod.fst (T3 ((aw,ar,()),az,aq,an,()) (List.getD cG (Int.toNat v108) (0:Int)))=fH)) (.ret ((false,()))) (cond (!F5 (Ty.arr 10 d9) (wh ((aw,ar,()),az,aq,an,()) (List.getD cG (Int.toNat v108) (0:Int))).1 AU) (.ret ((false,()))) (cond (decide ((↑(List.length (T3 ((aw,ar,()),az,aq,an,()) (List.getD cG (Int.toNat v108) (0:Int))).1):Int)<Option.getD (V7 (F5 d9) (List.getD cG (Int.toNat v108) (0:Int)) (Option.getD (some du) [])) (0:Int))) (.ret ((false,()))) (.f8 (r9 IntKind.i64 (v108+(1:Int))) (.ctL (g8 (d8 Tryz.prog 7) 22) (St.mk [(5,AV.ptr 1034 []),(9,AV.at_ 1000009 []),(14,AV.val d9 zG),(17,AV.at_ 1000017 []),(19,AV.ptr 19 []),(106,AV.at_ 1000106 []),(107,AV.val d9 v107),(108,AV.val d9 (v108+(1:Int)))] [(19,i6.var vo AU),(1034,i6.var u7 ((aw,ar,()),az,aq,an,())),(1000009,i6.own (Ty.map true d9 d9) (some du)),(1000017,i6.own (Ty.d0 true r8) fH),(1000106,i6.own Is cG)])))))))))))) (.f8 (True) (.f8 (r9 IntKind.i64 (zG+(1:Int))) (.ret ((decide (aw=zG+(1:Int)),()))))):=by kernel_rfl
attribute [local irreducible] G0 T3 G9 C4 wh vD V7 in
theorem a7q:Un.Valid Tryz.prog 7:=by
  refine p7.n8 Fx rfl rfl Tryz.func7 (c:=d8 Tryz.prog 7) rfl rfl Fy rfl ?_;rintro ⟨(n0:Int),(l:List G2),⟨⟩⟩ hs -
  have hl:l.length<=1048576:=ZC hs;refine j6 (n:=1000) Fx Fy ?_;refine i7 (b9k n0 l) ?_;have hn:=MX n0;obtain ⟨n,mH⟩:∃ n,n=K1 n0:=⟨_,rfl⟩;rw [<- mH] at hn ⊢;have hW:=Cb hn l l.length;have hV:=Sn hn l l.length;rw [W2.2];generalize G0 n l l.length=s at hW hV ⊢;have hA:=λ bt=>b65 hn hW hV bt;obtain ⟨w,sd,fl⟩:=s;have hlen:=hW.len;have aM:=hW.ok;simp only at hlen aM hV hA;simp only [j7,Tree.holds,sL];refine ⟨⟨hn,hl⟩,λ _=>⟨⟨by omega,hn.2⟩,λ _=>?_⟩⟩;have hh:∀ i,i<(G9 w fl n.toNat).length->∃ j:Nat,(G9 w fl n.toNat).getD i 0=j/\j<n.toNat/\T1 w.1.2.1 j=true/\¬ (j:Int)∈fl:=λ i hi=>OH hi;have oe:=Fi w fl n.toNat;obtain ⟨h,jb⟩:∃ h,h=G9 w fl n.toNat:=⟨_,rfl⟩;rw [<- jb] at hh oe ⊢;suffices go:Go.Ex.Reach zt Tryz.f7 (true,()) () (.code (g8 (d8 Tryz.prog 7) 9).1::.inLoop (g8 (d8 Tryz.prog 7) 9).1::(g8 (d8 Tryz.prog 7) 9).2) (LV n (h.length:Int) ((0:Nat):Int) w.1.1 w.1.2.1 w.2.1 w.2.2.1 w.2.2.2.1 fl [] h) by exact go
  refine Reach.M7 Fx Fy (λ i:Nat×List (Int×Int)=>LV n (h.length:Int) (i.1:Int) w.1.1 w.1.2.1 w.2.1 w.2.2.1 w.2.2.2.1 fl i.2 h) (λ i=>i.1<=h.length/\∀ p:Nat,(V7 (F5 (Ty.int .i64)) (p:Int) i.2).getD 0<=((L9 w p).length:Int)) (λ i=>h.length - i.1) 1000 (λ _=>⟨s9 rfl,s9 rfl⟩) ?_ (0,[]) ⟨aAz _,λ p=>by rw [show V7 (F5 (Ty.int .i64)) (p:Int) ([]:List (Int×Int))=none by rw [V7.eq_1]; rfl]; show (0:Int)<=_; omega⟩;rintro ⟨i,m⟩ ⟨k1,km⟩ - ih;have k1:i<=h.length:=k1;have km:∀ p:Nat,(V7 (F5 (Ty.int .i64)) (p:Int) m).getD 0<=((L9 w p).length:Int):=km;refine i7 (b74 ..) ?_;have e1:((i:Nat):Int)+1=((i+1:Nat):Int):=by omega
  simp only [j7,Tree.holds,e1,sL];have lV:C4 ((w.1.1,w.1.2.1,()),w.2.1,w.2.2.1,w.2.2.2.1,())=C4 w:=rfl;have kq:(C4 w).2≠0->(L7 w).2.1≠0:=λ e c=>e (by rw [CP (λ h=>h c)]);refine ⟨λ c=>⟨by omega,λ _=>?_⟩,λ c=>⟨(aM.zQ (by omega)).change,λ _=>⟨λ e=>⟨λ d=>?_,λ d=>⟨λ d2=>⟨λ d3=>?_,λ d3=>?_⟩,λ d2=>?_⟩⟩,λ e=>?_⟩⟩⟩
  . obtain ⟨q,pe,mq,pd,-⟩:=hh i (by omega);have lq:T3 ((w.1.1,w.1.2.1,()),w.2.1,w.2.2.1,w.2.2.2.1,()) (q:Int)=(L9 w q,0,()):=Jk (w:=w) (by omega);rw [pe,lq];refine ⟨⟨aM.K1,aAv (aM.sz.log q) (by omega)⟩,λ _=>⟨⟨by omega,by omega⟩,λ _=>?_⟩⟩;exact ih (i+1,vD (F5 (Ty.int .i64)) (q:Int) ((L9 w q).length:Int) m) ⟨by show i+1<=h.length; omega,λ p=>(by
      show (V7 (F5 (Ty.int .i64)) (p:Int) (vD (F5 (Ty.int .i64)) (q:Int) ((L9 w q).length:Int) m)).getD 0<=_;rw [RT Xj];by_cases e:(p:Int)=(q:Int)
      . rw [if_pos e,e]; exact aEb _
      . rw [if_neg e]; exact km p)⟩ (by show h.length - (i+1)<h.length - i; omega)
  . rw [lV,yL (kq e)];exact congrArg (λ b:Bool=>((b,()):Bool×Unit)) (decide_eq_true rfl)
  . rw [lV,yL (kq e)];exact congrArg (λ b:Bool=>((b,()):Bool×Unit)) (decide_eq_true rfl)
  . exfalso;have e':=kq e;rw [lV,yL e'] at d d2;rcases Tc aM hV e' with h1|⟨-,h2⟩
    . exact d h1
    . exact d3 h2
  . exfalso;have e':=kq e;rw [lV,yL e'] at d d2;rcases Tc aM hV e' with h1|⟨h1,-⟩
    . exact d h1
    . exact d2 h1
  have e':¬ (L7 w).2.1≠0:=λ c=>e (by rw [lV,yL c]; exact c);obtain ⟨B,hB⟩:=hA e';have rB:=CP e';have ew:=(Cg aM IM).ok;rw [c1y,rB] at ew;rw [lV,rB];obtain ⟨u,hu⟩:∃ u,u=E2 w:=⟨_,rfl⟩;simp only;rw [<- hu] at hB ew ⊢;clear hh oe jb ih;have hh:∀ i,i<(G9 u fl n.toNat).length->∃ j:Nat,(G9 u fl n.toNat).getD i 0=j/\j<n.toNat/\T1 u.1.2.1 j=true/\¬ (j:Int)∈fl:=λ i hi=>OH hi;have oe:=Fi u fl n.toNat;have bt:=hB.some_;obtain ⟨g,ng⟩:∃ g,g=G9 u fl n.toNat:=⟨_,rfl⟩;rw [<- ng] at hh oe bt ⊢;have fi:0<g.length:=aCd.2 bt;obtain ⟨q,pe,mq,pd,ri⟩:=hh 0 fi;have gB:∀ j:Nat,(L9 u j).length<=5864062014805:=λ j=>aAv (ew.sz.log j) (by omega);have nT:∀ j:Nat,∀ s∈L9 u j,s.2.1.length<=4294967280:=λ j s hs=>aAv (ew.sz.txt j s hs) (by omega);have uR:=hB.len;have lq:T3 u (q:Int)=(B,0,()):=by rw [Jk (by omega),hB.log q mq pd ri]
  have vq:wh u (q:Int)=((N7 zeroV (O5 B)).1,0,()):=by rw [QL (by omega),hB.log q mq pd ri]
  have sA:g.getD (Int.toNat 0) 0=(q:Int):=pe;rw [sA,lq,vq];refine ⟨⟨by omega,hn.2⟩,λ _=>⟨⟨by omega,by omega⟩,λ _=>⟨⟨ew.K1,gB q⟩,λ _=>⟨⟨by omega,by omega⟩,λ _=>⟨⟨ew.K1,gB q,nT q⟩,λ _=>?_⟩⟩⟩⟩⟩;suffices go:Go.Ex.Reach zt Tryz.f7 (true,()) () (.code (g8 (d8 Tryz.prog 7) 22).1::.inLoop (g8 (d8 Tryz.prog 7) 22).1::(g8 (d8 Tryz.prog 7) 22).2) (Me w.1.1 (g.length:Int) ((0:Nat):Int) (N7 zeroV (O5 B)).1 u.1.1 u.1.2.1 u.2.1 u.2.2.1 u.2.2.2.1 m B g) by exact go
  refine Reach.M7 Fx Fy (λ i:Nat=>Me w.1.1 (g.length:Int) (i:Int) (N7 zeroV (O5 B)).1 u.1.1 u.1.2.1 u.2.1 u.2.2.1 u.2.2.2.1 m B g) (λ i=>i<=g.length) (λ i=>g.length - i) 1000 (λ _=>⟨s9 rfl,s9 rfl⟩) ?_ 0 (aAz _);rintro i k1 - ih;have k1:i<=g.length:=k1;refine i7 (b5h ..) ?_;have e1:((i:Nat):Int)+1=((i+1:Nat):Int):=by omega
  have eY:=c3w hV.I6;by_cases hi:i<g.length
  . obtain ⟨p,mz,eU,po,lM⟩:=hh i hi;have lp:T3 ((u.1.1,u.1.2.1,()),u.2.1,u.2.2.1,u.2.2.2.1,()) (p:Int)=(B,0,()):=(Jk (w:=u) (by omega)).trans (by rw [hB.log p eU po lM]);have vp:wh ((u.1.1,u.1.2.1,()),u.2.1,u.2.2.1,u.2.2.2.1,()) (p:Int)=((N7 zeroV (O5 B)).1,0,()):=(QL (w:=u) (by omega)).trans (by rw [hB.log p eU po lM]);have uT:=hB.grow p eU po lM;have mV:=km p;have sX:(V7 (F5 d9) (p:Int) m).getD 0<=((L9 w p).length:Int):=mV;have sq:(some m).getD []=m:=rfl;have heq:F5 (Ty.arr 10 d9) (N7 zeroV (O5 B)).1 (N7 zeroV (O5 B)).1=true:=Ro (f:=F5 d9) (λ x=>decide_eq_true rfl) (N7 zeroV (O5 B)).1;simp only [j7,Tree.holds,e1,mz,lp,vp,heq,sq,sL];refine ⟨λ _=>⟨by omega,λ _=>⟨⟨ew.K1,gB p⟩,λ _=>⟨⟨ew.K1,gB p,nT p⟩,λ _=>⟨λ e=>absurd rfl e,λ _=>⟨λ e=>absurd rfl e,λ _=>⟨λ e=>absurd trivial e,⟨λ e=>absurd e (by decide),⟨λ e=>absurd e (by omega),λ _=>⟨⟨by omega,by omega⟩,λ _=>ih (i+1) (by show i+1<=g.length; omega) (by show g.length - (i+1)<g.length - i; omega)⟩⟩⟩⟩⟩⟩⟩⟩⟩,λ c=>absurd (by omega) c⟩
  . obtain rfl:i=g.length:=by omega
    have pz:=hB.num;simp only [j7,Tree.holds,e1,sL];refine ⟨λ c=>absurd c (by omega),λ _=>⟨⟨by omega,by omega⟩,λ _=>?_⟩⟩;exact congrArg (λ b:Bool=>((b,()):Bool×Unit)) (decide_eq_true pz)
end Go.Proofs.YtijlnmgondibnaaGreatDoor
