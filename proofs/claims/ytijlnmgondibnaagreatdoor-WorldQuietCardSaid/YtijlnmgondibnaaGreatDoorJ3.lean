import Derived.Test.YtijlnmgondibnaaGreatDoorJ2
import Derived.Test.YtijlnmgondibnaaGreatDoorJ1
set_option linter.unusedVariables false
set_option linter.unusedSimpArgs false
set_option linter.unusedSectionVars false
namespace Go.Proofs.YtijlnmgondibnaaGreatDoor
open Go.Ex
set_option maxRecDepth 100000
def a40 (S:Nat->List C0) (O:List C0) (n:B8):Prop :=
  (n.1=1->(S n.2.1.toNat)[n.2.2.2.2.1.toNat]?=some n.2.2.2.2.2.2.1)/\(n.1=2->O[n.2.2.2.2.1.toNat]?=some n.2.2.2.2.2.2.1)
def zx (S:Nat->List C0) (O:List C0) (V:Int) (s:C0):Prop:=(w8 s).2.1=0->(w8 s).1.2.2.2.1<=V/\((w8 s).1.2.2.2.1=V->a40 S O (w8 s).1)
structure CY (said:Nat->List C0) (B:List D4) (S:Nat->List C0) (Q:List V1) (p:Nat) (x:n7) (m:Nat):Prop where
  le:m<=Q.length
  next:x.2.2.2.1.1=m
  wait:∀ q∈x.2.2.2.1.2.1,(N9 Q)[q.1.toNat]?=some q.2.1
  log:x.2.1=B++(Q.take m).map wE
  from_:x.2.2.1=(((C1 p (Q.take m)).length:Int),(S p).drop (C1 p (Q.take m)).length,())
  ok:H8 x.2.2.1=0
structure Inv (said:Nat->List C0) (B:List D4) (S:Nat->List C0) (Q:List V1) (w:f8):Prop where
  M1:w.2.1.length<=6
  way:w.2.2.2.1.length<=60
  ord:w.2.2.1=N9 Q
  inQ:∀ x∈Q,x.1<w.2.1.length
  zl:∀ p,C1 p Q <+: S p
  short:∀ p,(S p).length<=16777215
  msg:∀ s∈w.2.2.2.1,zx S w.2.2.1 w.1.1 s
  rcv:∀ p:Nat,p<w.2.1.length->(w.2.1.getD p j7).2.2.2.2.1.1=(C1 p Q).length/\∀ q∈(w.2.1.getD p j7).2.2.2.2.1.2.1,(S p)[q.1.toNat]?=some q.2.1
  mem:∀ p:Nat,p<w.2.1.length->X1 w.1.2.1 p=true->(∃ m,CY said B S Q p (w.2.1.getD p j7) m)/\said p=ofP p B++S p
  out:∀ p:Nat,p<w.2.1.length->X1 w.1.2.1 p=false->S p=[]/\ofP p B <+: said p
  Lr:∀ s∈B,0<=s.1/\s.1<(w.2.1.length:Int)
structure V9 (P:B8->Prop) (w w':f8):Prop where
  view:w'.1=w.1
  all:w'.2.1=w.2.1
  ord:w'.2.2.1=w.2.2.1
  len:w.2.2.2.1.length<=60->w'.2.2.2.1.length<=60
  way:∀ s∈w'.2.2.2.1,s∈w.2.2.2.1\/∃ n:B8,w8 s=(n,0,())/\n.2.2.2.1=w.1.1/\P n
theorem V9.refl {P:B8->Prop} (w:f8):V9 P w w:=⟨rfl,rfl,rfl,id,λ _ h=>.inl h⟩
theorem V9.trans {P:B8->Prop} {w w' w'':f8} (h:V9 P w w') (h':V9 P w' w''):V9 P w w'' :=
  ⟨h'.view.trans h.view,h'.all.trans h.all,h'.ord.trans h.ord,λ e=>h'.len (h.len e),λ s hs=>by
    rcases h'.way s hs with h1|⟨n,h1,h2,h3⟩
    . exact h.way s h1
    . exact .inr ⟨n,h1,by rw [h2,h.view],h3⟩⟩
theorem V9.one {P:B8->Prop} {w:f8} {k f t q:Int} {x:C0} (h:P (k,f,t,w.1.1,q,[0,0,0,0,0,0],x,())):V9 P w (J5 w k f t q x):=by
  by_cases c:(T3 (k,f,t,w.1.1,q,[0,0,0,0,0,0],x,())).2.1=0/\(w.2.2.2.1.length:Int)<60
  . rw [Es c.1 c.2];refine ⟨rfl,rfl,rfl,λ _=>?_,λ s hs=>?_⟩
    . show (w.2.2.2.1++[_]).length<=60;rw [List.length_append];have:=c.2;simp only [List.length_singleton]; omega
    . rcases List.mem_append.1 hs with hs|hs
      . exact .inl hs
      . rw [List.mem_singleton] at hs;have hc:H6 (k,f,t,w.1.1,q,[0,0,0,0,0,0],x,())=0:=by
          by_cases hc:H6 (k,f,t,w.1.1,q,[0,0,0,0,0,0],x,())=0
          . exact hc
          . have:=c.1;rw [Yd hc] at this;exact absurd this hc
        rw [Ye hc] at hs;exact .inr ⟨_,by rw [hs]; exact YN hc rfl,rfl,h⟩
  . rw [Cb c]; exact .refl w
theorem Inv.Gx {said:Nat->List C0} {B:List D4} {S:Nat->List C0} {Q:List V1} {w w':f8} (h:Inv said B S Q w) (hs:V9 (a40 S w.2.2.1) w w'):Inv said B S Q w':=by
  obtain ⟨h1,h2,h3,h4,h5,h6,h7,h8,h9,iY,jD⟩:=h;refine ⟨by rw [hs.all]; exact h1,hs.len h2,by rw [hs.ord]; exact h3,by rw [hs.all]; exact h4,h5,h6,?_,by rw [hs.all]; exact h8,by rw [hs.all,hs.view]; exact h9,by rw [hs.all,hs.view]; exact iY,by rw [hs.all]; exact jD⟩;intro s hm;rw [hs.view,hs.ord];rcases hs.way s hm with h|⟨n,e1,e2,e3⟩
  . exact h7 s h
  . intro _;rw [e1];exact ⟨by show n.2.2.2.1<=w.1.1; omega,λ _=>e3⟩
theorem Inv.D9 {said:Nat->List C0} {B:List D4} {S:Nat->List C0} {Q:List V1} {w:f8} (h:Inv said B S Q w) {p:Nat} {x:n7}
    (hr:p<w.2.1.length->x.2.2.2.2.1.1=(C1 p Q).length/\∀ q∈x.2.2.2.2.1.2.1,(S p)[q.1.toNat]?=some q.2.1)
    (hm:p<w.2.1.length->X1 w.1.2.1 p=true->∃ m,CY said B S Q p x m):Inv said B S Q (w.1,w.2.1.set p x,w.2.2):=by
  obtain ⟨h1,h2,h3,h4,h5,h6,h7,h8,h9,iY,jD⟩:=h;have hl:(w.2.1.set p x).length=w.2.1.length:=List.length_set ..;refine ⟨by rw [hl]; exact h1,h2,h3,by rw [hl]; exact h4,h5,h6,h7,λ q hq=>?_,λ q hq hv=>?_,λ q hq hv=>?_,by show ∀ s∈B,0<=s.1/\s.1<((w.2.1.set p x).length:Int); rw [hl]; exact jD⟩
  . rw [hl] at hq;rw [Q0]
    split
    . rename_i e; rw [<- e.1]; exact hr e.2
    . exact h8 q hq
  . rw [hl] at hq;rw [Q0];refine ⟨?_,(h9 q hq hv).2⟩
    split
    . rename_i e; rw [<- e.1]; rw [<- e.1] at hv; exact hm e.2 hv
    . exact (h9 q hq hv).1
  . rw [hl] at hq;exact iY q hq hv
theorem a40.mono {S S':Nat->List C0} {O O':List C0} {n:B8} (h:a40 S O n) (hS:∀ p,S p <+: S' p) (hO:O <+: O'):a40 S' O' n :=
  ⟨λ e=>zP (hS _) (h.1 e),λ e=>zP hO (h.2 e)⟩
theorem zx.mono {S S':Nat->List C0} {O O':List C0} {V:Int} {s:C0} (h:zx S O V s) (hS:∀ p,S p <+: S' p) (hO:O <+: O'):zx S' O' V s :=
  λ e=>⟨(h e).1,λ e2=>((h e).2 e2).mono hS hO⟩
def vf (f:Nat->List C0) (p:Nat) (x:List C0):Nat->List C0:=λ q=>if q=p then x else f q
theorem Ad {f:Nat->List C0} {p:Nat} {x:List C0}:vf f p x p=x:=if_pos rfl
theorem yF {f:Nat->List C0} {p q:Nat} {x:List C0} (h:q≠p):vf f p x q=f q:=if_neg h
theorem Ih {s:vy} {x:C0} (h:¬ (K3 s x).2.1≠0):(K3 s x).1=(s.1,s.2.1++[x],())/\H8 (s.1,s.2.1++[x],())=0/\s.1+s.2.1.length<16777215:=by
  unfold K3 at h ⊢;by_cases h1:H8 s≠0
  . rw [if_pos h1] at h; exact absurd h1 h
  rw [if_neg h1] at h ⊢;have aM:=Z7 (Decidable.not_not.1 h1);by_cases h2:E2 x=true
  . rw [if_pos h2] at h; exact absurd (by decide) h
  rw [if_neg h2] at h ⊢;by_cases h3:(s.2.1.length:Int)=16\/16777215<=s.1+s.2.1.length
  . rw [if_pos h3] at h; exact absurd (by decide) h
  rw [if_neg h3];have h4:¬ (s.2.1.length:Int)=16:=λ e=>h3 (.inl e);have h5:¬ 16777215<=s.1+s.2.1.length:=λ e=>h3 (.inr e);refine ⟨rfl,?_,by omega⟩;unfold H8;rw [if_neg (by rw [wv.2 aM.1]; decide),if_neg,if_neg]
  . rw [List.any_append,aM.2.2];simpa using h2
  . show ¬ (16:Int)<((s.2.1++[x]).length:Int);rw [List.length_append]; simp only [List.length_singleton];have:=aM.2.1;omega
theorem Inv.say {said:Nat->List C0} {B:List D4} {S:Nat->List C0} {Q:List V1} {w:f8} (h:Inv said B S Q w) {p:Nat} {t:C0} (hp:p<w.2.1.length) (hv:X1 w.1.2.1 p=true)
    (hl:¬ (K3 (I5 w p) t).2.1≠0):Inv (vf said p (said p++[t])) B (vf S p (S p++[t])) Q (AI w p t (K3 (I5 w p) t).1):=by
  obtain ⟨h1,h2,h3,h4,h5,h6,h7,h8,h9,iY,jD⟩:=h;obtain ⟨g1,g2,g3⟩:=Ih hl;obtain ⟨⟨m,hm⟩,eG⟩:=h9 p hp hv;have hf:I5 w p=(((C1 p (Q.take m)).length:Int),(S p).drop (C1 p (Q.take m)).length,()):=hm.from_;have hle:(C1 p (Q.take m)).length<=(S p).length:=((yP (p:=p) (Q:=Q) (i:=m)).trans (h5 p)).length_le;rw [g1];rw [hf] at g2 g3 ⊢;simp only [List.length_drop] at g3;have mN:(S p).drop (C1 p (Q.take m)).length++[t]=(S p++[t]).drop (C1 p (Q.take m)).length:=(List.drop_append_of_le_length hle).symm;simp only [mN] at g2 ⊢;have hS:∀ q,S q <+: vf S p (S p++[t]) q:=λ q=>by
    by_cases e:q=p
    . subst e; rw [Ad]; exact List.prefix_append ..
    . rw [yF e]; exact List.prefix_rfl
  have hlen:(setFrom w p (((C1 p (Q.take m)).length:Int),(S p++[t]).drop (C1 p (Q.take m)).length,())).2.1.length=w.2.1.length:=List.length_set ..;have cB:∀ q,(setFrom w p (((C1 p (Q.take m)).length:Int),(S p++[t]).drop (C1 p (Q.take m)).length,())).2.1.getD q j7=if p=q then ((w.2.1.getD p j7).1,(w.2.1.getD p j7).2.1,(((C1 p (Q.take m)).length:Int),(S p++[t]).drop (C1 p (Q.take m)).length,()),(w.2.1.getD p j7).2.2.2) else w.2.1.getD q j7:=λ q=>by
    show (w.2.1.set p _).getD q j7=_;rw [Q0];by_cases e:p=q
    . rw [if_pos ⟨e,hp⟩,if_pos e]; rfl
    . rw [if_neg (λ h=>e h.1),if_neg e]
  have base:Inv (vf said p (said p++[t])) B (vf S p (S p++[t])) Q (setFrom w p (((C1 p (Q.take m)).length:Int),(S p++[t]).drop (C1 p (Q.take m)).length,())):=by
    refine ⟨by rw [hlen]; exact h1,h2,h3,by rw [hlen]; exact h4,λ q=>(h5 q).trans (hS q),λ q=>?_,λ s hs=>(h7 s hs).mono hS List.prefix_rfl,λ q hq=>?_,λ q hq hv=>?_,λ q hq hv=>?_,by rw [hlen]; exact jD⟩
    . by_cases e:q=p
      . subst e; rw [Ad,List.length_append]; simp only [List.length_singleton]; omega
      . rw [yF e]; exact h6 q
    . rw [hlen] at hq;rw [cB];by_cases e:p=q
      . subst e;rw [if_pos rfl];exact ⟨(h8 p hq).1,λ x hx=>zP (hS p) ((h8 p hq).2 x hx)⟩
      . rw [if_neg e];exact ⟨(h8 q hq).1,λ x hx=>zP (hS q) ((h8 q hq).2 x hx)⟩
    . rw [hlen] at hq;rw [cB];by_cases e:p=q
      . subst e;rw [if_pos rfl,Ad,Ad];refine ⟨⟨m,hm.le,hm.next,hm.wait,hm.log,?_,g2⟩,by rw [eG,List.append_assoc]⟩;rw [Ad]
      . rw [if_neg e,yF (Ne.symm e),yF (Ne.symm e)];obtain ⟨⟨m',gm⟩,lv⟩:=h9 q hq hv;refine ⟨⟨m',gm.le,gm.next,gm.wait,gm.log,?_,gm.ok⟩,lv⟩;rw [yF (Ne.symm e)];exact gm.from_
    . rw [hlen] at hq;have e:q≠p:=by
        rintro rfl;have fE:X1 w.1.2.1 q=false:=hv;rename_i eX;rw [eX] at fE; cases fE
      rw [yF e,yF e];exact iY q hq hv
  refine base.Gx (V9.one ⟨λ _=>?_,λ h=>by cases h⟩);show (vf S p (S p++[t]) ((p:Int)).toNat)[(((C1 p (Q.take m)).length:Int)+(((S p++[t]).drop (C1 p (Q.take m)).length).length:Int) - 1).toNat]?=some t;rw [show ((p:Int)).toNat=p from rfl,Ad];rw [List.length_drop,List.length_append];simp only [List.length_singleton];rw [show (((C1 p (Q.take m)).length:Int)+(((S p).length+1 - (C1 p (Q.take m)).length:Nat):Int) - 1).toNat=(S p).length by omega];rw [List.getElem?_append_right (Nat.le_refl _),Nat.sub_self]; rfl
section
variable {said:Nat->List C0} {B:List D4} {S:Nat->List C0} {Q:List V1} {w:f8}
theorem RM {b most:Int} {l:List C0}:∀ {k:Nat},k<=l.length->∀ x∈xn b most l k,∃ i,i<l.length/\x=(b+i,l.getD i [],())
  | 0,_,x,h=>by cases h
  | k+1,hk,x,h=>by
    rw [xn] at h;rcases List.mem_append.1 h with h|h
    . exact RM (by omega) x h
    . split at h
      . rw [List.mem_singleton] at h; exact ⟨k,by omega,h⟩
      . cases h
theorem Tp {P:B8->Prop} {p:Int} {l:List D4} {w:f8} (h:∀ x∈l,∀ f v,P (1,p,f,v,x.1,[0,0,0,0,0,0],x.2.1,())):∀ {k},k<=l.length->V9 P w (M7 p l w k)
  | 0,_=>.refl w
  | k+1,hk=>by
    rw [M7];refine (Tp h (by omega)).trans (V9.one (h _ ?_ _ _));rw [List.getD_eq_getElem?_getD,List.getElem?_eq_getElem (by omega)]; exact List.getElem_mem _
theorem Inv.again (h:Inv said B S Q w) {p:Nat} (hp:p<w.2.1.length) (hv:X1 w.1.2.1 p=true) :
    Inv said B S Q (Cy (M7 p (xK w p) w (xK w p).length) p):=by
  refine h.Gx ((Tp (λ x hx f v=>?_) (Nat.le_refl _)).trans (V9.one ⟨λ e=>(by cases e),λ e=>(by cases e)⟩));refine ⟨λ _=>?_,λ e=>by cases e⟩;obtain ⟨⟨m,hm⟩,-⟩:=h.mem p hp hv;have hf:I5 w p=(((C1 p (Q.take m)).length:Int),(S p).drop (C1 p (Q.take m)).length,()):=hm.from_;have pC:H8 (I5 w p)=0:=hm.ok;unfold xK wk at hx;rw [if_neg (by rw [pC]; simp),hf] at hx;obtain ⟨i,hi,rfl⟩:=RM (Nat.le_refl _) x hx;show (S ((p:Int)).toNat)[(((C1 p (Q.take m)).length:Int)+(i:Int)).toNat]?=some (((S p).drop (C1 p (Q.take m)).length).getD i []);rw [show ((p:Int)).toNat=p from rfl,show (((C1 p (Q.take m)).length:Int)+(i:Int)).toNat=(C1 p (Q.take m)).length+i by omega];rw [<- List.getElem?_drop,List.getD_eq_getElem?_getD,List.getElem?_eq_getElem hi]; rfl
theorem Inv.TG (h:Inv said B S Q w) (p:Nat):Inv said B S Q (w.1,w.2.1.set p (true,(w.2.1.getD p j7).2),w.2.2):=by
  refine h.D9 (λ hp=>h.rcv p hp) (λ hp hv=>?_);obtain ⟨⟨m,hm⟩,-⟩:=h.mem p hp hv;exact ⟨m,hm.le,hm.next,hm.wait,hm.log,hm.from_,hm.ok⟩
theorem Inv.ways (h:Inv said B S Q w) {l:List C0} (hl:l.length<=60) (hm:∀ s∈l,s∈w.2.2.2.1):Inv said B S Q (w.1,w.2.1,w.2.2.1,l,()):=by
  obtain ⟨h1,h2,h3,h4,h5,h6,h7,h8,h9,iY,jD⟩:=h;exact ⟨h1,hl,h3,h4,h5,h6,λ s hs=>h7 s (hm s hs),h8,h9,iY,jD⟩
theorem Inv.drop (h:Inv said B S Q w) (k:Int):Inv said B S Q (yp w k):=by
  refine h.ways ?_ (λ s hs=>?_)
  . have:=h.way;rw [List.length_append,List.length_take,List.length_drop];by_cases c:0<=k
    . omega
    . have e1:k.toNat=0:=by omega
      have e2:(k+1).toNat=0:=by omega
      rw [e1,e2]; omega
  . rcases List.mem_append.1 hs with hs|hs
    . exact List.mem_of_mem_take hs
    . exact List.mem_of_mem_drop hs
theorem Inv.copy (h:Inv said B S Q w) {k:Nat} (hk:k<w.2.2.2.1.length) (hn:¬ (w.2.2.2.1.length:Int)=60):Inv said B S Q (De w k):=by
  refine h.ways ?_ (λ s hs=>?_)
  . have:=h.way;rw [List.length_append]; simp only [List.length_singleton]; omega
  . rcases List.mem_append.1 hs with hs|hs
    . exact hs
    . rw [List.mem_singleton] at hs;rw [hs,List.getD_eq_getElem?_getD,List.getElem?_eq_getElem hk]; exact List.getElem_mem _
theorem Inv.asks (h:Inv said B S Q w) {n:B8} (h0:0<=n.2.2.2.2.1):∀ j,V9 (a40 S w.2.2.1) w (F5 w n j)
  | 0=>.refl w
  | j+1=>by
    rw [F5]
    split
    . rename_i bc;refine (Inv.asks h h0 j).trans (V9.one ⟨λ e=>(by cases e),λ _=>?_⟩);rw [(zX j).2.2] at bc;show w.2.2.1[(n.2.2.2.2.1+j).toNat]?=some ((F5 w n j).2.2.1.getD (n.2.2.2.2.1+j).toNat []);rw [(zX j).2.2,List.getD_eq_getElem?_getD,List.getElem?_eq_getElem (by omega)]; rfl
    . exact Inv.asks h h0 j
structure Told (texts:List C0) (w w':f8):Prop where
  view:w'.1=w.1
  all:w'.2.1=w.2.1
  ord:w'.2.2.1=w.2.2.1++texts
  len:w.2.2.2.1.length<=60->w'.2.2.2.1.length<=60
  way:∀ s∈w'.2.2.2.1,s∈w.2.2.2.1\/∃ n:B8,w8 s=(n,0,())/\n.2.2.2.1=w.1.1/\n.1=2/\(w.2.2.1++texts)[n.2.2.2.2.1.toNat]?=some n.2.2.2.2.2.2.1
theorem Sx {x:C0} {w:f8} {P:B8->Prop} (h:∀ f t,P (2,f,t,w.1.1,(w.2.2.1.length:Int) - 1,[0,0,0,0,0,0],x,())):∀ p,V9 P w (G4 x w p)
  | 0=>.refl w
  | p+1=>by
    rw [G4];have ih:=Sx h p
    split
    . refine ih.trans (V9.one ?_);rw [ih.view,ih.ord];exact h _ _
    . exact ih
theorem told {f first:Int} {l:List C0} {w:f8}:∀ {i},i<=l.length->Told ((l.take i).mapIdx (λ j t=>I7 f (first+j) t)) w (I8 f first l w i)
  | 0,_=>⟨rfl,rfl,by simp [I8],id,λ s h=>.inl h⟩
  | i+1,hi=>by
    have ih:=told (f:=f) (first:=first) (w:=w) (show i<=l.length by omega);rw [I8];obtain ⟨u,hu⟩:∃ u,u=I8 f first l w i:=⟨_,rfl⟩
    obtain ⟨x,hx⟩:∃ x,x=I7 f (first+i) (l.getD i []):=⟨_,rfl⟩;rw [<- hu] at ih ⊢;rw [<- hx];have rF:(l.take (i+1)).mapIdx (λ j t=>I7 f (first+j) t)=(l.take i).mapIdx (λ j t=>I7 f (first+j) t)++[x]:=by
      rw [Ew (show i<l.length by omega) [],List.mapIdx_append,hx];simp only [List.length_take];rw [show min i l.length=i by omega];simp
    rw [rF];have hp:(zt u x).2.2.1=w.2.2.1++((l.take i).mapIdx (λ j t=>I7 f (first+j) t)++[x]):=by
      show u.2.2.1++[x]=_;rw [ih.ord,List.append_assoc]
    have hc:=Sx (x:=x) (w:=zt u x) (P:=λ n=>n.1=2/\(zt u x).2.2.1[n.2.2.2.2.1.toNat]?=some n.2.2.2.2.2.2.1) (λ f t=>⟨rfl,by
      show (u.2.2.1++[x])[(((u.2.2.1++[x]).length:Int) - 1).toNat]?=some x;rw [List.length_append];simp only [List.length_singleton];rw [show (((u.2.2.1.length+1:Nat):Int) - 1).toNat=u.2.2.1.length by omega];rw [List.getElem?_append_right (Nat.le_refl _),Nat.sub_self]; rfl⟩) u.2.1.length
    refine ⟨hc.view.trans ih.view,hc.all.trans ih.all,hc.ord.trans hp,λ e=>hc.len (ih.len e),λ s hs=>?_⟩;rcases hc.way s hs with hs|⟨n,e1,e2,e3,e4⟩
    . rcases ih.way s hs with hs|⟨n,e1,e2,e3,e4⟩
      . exact .inl hs
      . refine .inr ⟨n,e1,e2,e3,?_⟩;rw [<- List.append_assoc];exact zP (List.prefix_append ..) e4
    . refine .inr ⟨n,e1,?_,e3,?_⟩
      . rw [e2];show u.1.1=w.1.1;rw [ih.view]
      . rw [<- hp]; exact e4
structure c9A (S:Nat->List C0) (w:f8) (n:B8):Prop where
  msg:a40 S w.2.2.1 n
  seq:0<=n.2.2.2.2.1
theorem Te {P:List V1} {p:Nat}:∀ {l:List C0} {c:Nat},(C1 p P).length=c->M8 P (l.map λ t=>(p,t))=l.mapIdx (λ j t=>I7 p ((c:Int)+j) t)
  | [],_,_=>rfl
  | t::l,c,h=>by
    rw [List.map_cons,M8,List.mapIdx_cons,Te (c:=c+1) (by rw [xY,List.length_append,h]; simp [C1])];rw [h];have e:(λ(j:Nat) (t:C0)=>I7 (p:Int) (((c+1:Nat):Int)+j) t)=λ j t=>I7 p ((c:Int)+((j+1:Nat):Int)) t:=by
      funext j t
      rw [show ((c+1:Nat):Int)+(j:Int)=(c:Int)+((j+1:Nat):Int) by omega]
    refine congr (congrArg List.cons ?_) (congrArg (λ f=>List.mapIdx f l) e);show I7 p c t=I7 p ((c:Int)+((0:Nat):Int)) t;rw [show (c:Int)+((0:Nat):Int)=c by omega]
theorem Inv.order (h:Inv said B S Q w) {n:B8} (hk:¬ known w n.2.1≠0) (hm:(S n.2.1.toNat)[n.2.2.2.2.1.toNat]?=some n.2.2.2.2.2.2.1) :
    ∃ Q',Inv said B S Q' (X0 w n):=by
  by_cases he:(Y5 w n).2.2.1≠0
  . refine ⟨Q,?_⟩;rw [X0,if_pos he]; exact h
  rw [X0,if_neg he];obtain ⟨v,al,rr⟩:=w;have nI:=Bz hk;obtain ⟨p,hp⟩:∃ p:Nat,n.2.1=p:=⟨n.2.1.toNat,by omega⟩;have bW:p<al.length:=by omega
  rw [hp] at hm ⊢;have lq:Y5 (v,al,rr) n=D6 (al.getD p j7).2.2.2.2.1 (n.2.2.2.2.1,n.2.2.2.2.2.2.1,()):=by rw [Y5,hp]; rfl
  rw [lq] at he ⊢;obtain ⟨lz,lV⟩:=h.rcv p bW;obtain ⟨r,hr⟩:∃ r,r=D6 (al.getD p j7).2.2.2.2.1 (n.2.2.2.2.1,n.2.2.2.2.2.2.1,()):=⟨_,rfl⟩;have kS:=Decidable.not_not.1 he;obtain ⟨a1,a2,a3,a4,a5,a6⟩:=yM kS;have fH:=Qm (F:=λ i=>(S p)[i]?) kS lV hm;rw [<- hr] at kS a1 a2 a3 a5 a6 fH ⊢;have oI:((al.getD p j7).2.2.2.2.1.1).toNat=(C1 p Q).length:=by
    have:(al.getD p j7).2.2.2.2.1.1=(C1 p Q).length:=lz;omega
  have lW:(al.getD p j7).2.2.2.2.1.1=((C1 p Q).length:Int):=lz;have hl:=Ym (X:=S p) (l:=r.2.1) (r:=(C1 p Q).length) (λ i hi=>by rw [<- oI]; exact fH i hi);have hT:=told (f:=(p:Int)) (first:=(C1 p Q).length) (l:=r.2.1) (w:=xZ (v,al,rr) p (xP (N6 (v,al,rr) p) r.1)) (Nat.le_refl _);have kQ:(N6 (v,al,rr) (p:Int)).2.2.2.2.1.1=((C1 p Q).length:Int):=lz;rw [kQ];rw [List.take_length] at hT;have pG:r.2.1.mapIdx (λ j t=>I7 (p:Int) (((C1 p Q).length:Int)+j) t)=M8 Q (r.2.1.map λ t=>(p,t)):=(Te rfl).symm;rw [pG] at hT;obtain ⟨u,hu⟩:∃ u,u=I8 (p:Int) ((C1 p Q).length:Int) r.2.1 (xZ (v,al,rr) p (xP (N6 (v,al,rr) p) r.1)) r.2.1.length:=⟨_,rfl⟩;rw [<- hu] at hT ⊢;have hQ:∀ q,C1 q (Q++r.2.1.map λ t=>(p,t))=C1 q Q++if p=q then r.2.1 else []:=λ q=>by rw [xY,WE]
  have bt:u.2.1=al.set p (xP (al.getD p j7) r.1):=hT.all;have hlen:u.2.1.length=al.length:=by rw [bt,List.length_set]
  have il:u.1=v:=hT.view;have oQ:u.2.2.1=N9 (Q++r.2.1.map λ t=>(p,t)):=by
    rw [hT.ord,QP];congr 1;exact h.ord
  have lX:rr.1 <+: u.2.2.1:=⟨_,hT.ord.symm⟩;have cB:∀ q,u.2.1.getD q j7=if p=q then xP (al.getD p j7) r.1 else al.getD q j7:=λ q=>by
    rw [bt,Q0];by_cases e:p=q
    . rw [if_pos ⟨e,bW⟩,if_pos e]
    . rw [if_neg (λ h=>e h.1),if_neg e]
  refine ⟨Q++r.2.1.map λ t=>(p,t),by rw [hlen]; exact h.M1,hT.len h.way,oQ,λ x hx=>?_,λ q=>?_,h.short,λ s hs=>?_,λ q hq=>?_,λ q hq hv=>?_,λ q hq hv=>?_,by rw [hlen]; exact h.Lr⟩
  . rw [hlen];rcases List.mem_append.1 hx with hx|hx
    . exact h.inQ x hx
    . obtain ⟨t,-,rfl⟩:=List.mem_map.1 hx;exact bW
  . rw [hQ];by_cases e:p=q
    . subst e;rw [if_pos rfl];have aZ:C1 p Q=(S p).take (C1 p Q).length:=List.prefix_iff_eq_take.1 (h.zl p);have:C1 p Q++r.2.1=(S p).take ((C1 p Q).length+r.2.1.length):=by
        rw [List.take_add,<- hl,<- aZ]
      rw [this];exact List.take_prefix ..
    . rw [if_neg e,List.append_nil]; exact h.zl q
  . rw [il];rcases hT.way s hs with hs|⟨m,e1,e2,e3,e4⟩
    . exact (h.msg s hs).mono (λ _=>List.prefix_rfl) lX
    . intro _;rw [e1];refine ⟨Int.le_of_eq e2,λ _=>⟨λ e=>?_,λ _=>?_⟩⟩
      . have e3:m.1=2:=e3;have e:m.1=1:=e;omega
      . rw [hT.ord]; exact e4
  . rw [hlen] at hq;rw [cB,hQ];by_cases e:p=q
    . subst e;rw [if_pos rfl,if_pos rfl];refine ⟨?_,λ x hx=>?_⟩
      . show r.1.1=_;rw [a5,lW,List.length_append]; omega
      . rcases a2 x hx with rfl|hx
        . exact hm
        . exact lV x hx
    . rw [if_neg e,if_neg e,List.append_nil]; exact h.rcv q hq
  . rw [hlen] at hq;rw [il] at hv;obtain ⟨⟨m,hm⟩,hs⟩:=h.mem q hq hv;refine ⟨⟨m,?_⟩,hs⟩;have bm:CY said B S (Q++r.2.1.map λ t=>(p,t)) q (al.getD q j7) m:=by
      have lq:(Q++r.2.1.map λ t=>(p,t)).take m=Q.take m:=List.take_append_of_le_length hm.le;refine ⟨by rw [List.length_append]; have:=hm.le; omega,hm.next,λ x hx=>?_,by rw [lq]; exact hm.log,by rw [lq]; exact hm.from_,hm.ok⟩;rw [QP];exact zP (List.prefix_append ..) (hm.wait x hx)
    rw [cB];by_cases e:p=q
    . subst e;rw [if_pos rfl];exact ⟨bm.le,bm.next,bm.wait,bm.log,bm.from_,bm.ok⟩
    . rw [if_neg e]; exact bm
  . rw [hlen] at hq;rw [il] at hv;exact h.out q hq hv
end
end Go.Proofs.YtijlnmgondibnaaGreatDoor
namespace Go.Proofs.YtijlnmgondibnaaGreatDoor
open Go.Ex
set_option maxRecDepth 100000
theorem PG {b:Int} {l:List C0} (h1:0<=b/\b<=16777215) (h2:l.length<=16) (h3:l.any E2=false):H8 (b,l,())=0:=by
  unfold H8;rw [if_neg (by rw [wv.2 h1]; decide),if_neg (by show ¬ (16:Int)<(l.length:Int); omega),if_neg (by rw [h3]; decide)]
theorem OD {l:List C0} {k:Nat} (h:l.any E2=false):(l.drop k).any E2=false:=by
  rw [List.any_eq_false] at h ⊢;exact λ x hx=>h x (List.mem_of_mem_drop hx)
theorem Ug {k:Nat} {l:List C0} (h:H8 ((k:Int),l,())=0) (hl:1<=l.length) (hb:k+l.length<=16777215) :
    Q8 ((k:Int),l,()) ((k:Int)+1)=((((k+1:Nat):Int),l.drop 1,()),0,())/\H8 (((k+1:Nat):Int),l.drop 1,())=0:=by
  have aM:=Z7 h;have ha:ahd (k:Int) ((k:Int)+1)=1:=by unfold ahd; rw [if_neg (by omega)]; omega
  constructor
  . unfold Q8;rw [if_neg (by rw [h]; decide),if_neg (by show ¬ (k:Int)+(l.length:Int)<(k:Int)+1; omega)];simp only;rw [ha];rfl
  . exact PG ⟨by omega,by omega⟩ (by rw [List.length_drop]; have:=aM.2.1; simp only at this; omega) (OD aM.2.2)
section
variable {said:Nat->List C0} {B:List D4} {S:Nat->List C0} {Q:List V1} {w:f8}
structure Av (B:List D4) (S:Nat->List C0) (Q:List V1) (p m:Nat) (x:n7):Prop where
  log:x.2.1=B++(Q.take m).map wE
  from_:x.2.2.1=(((C1 p (Q.take m)).length:Int),(S p).drop (C1 p (Q.take m)).length,())
  ok:H8 x.2.2.1=0
theorem c0O {p m q:Nat} {x:n7} {s:C0} (h:Av B S Q p m x) (hQ:Q[m]?=some (q,s)) (hq:q<=5) (aZ:∀ p,C1 p Q <+: S p) (bZ:∀ p,(S p).length<=16777215) :
    Av B S Q p (m+1) (vF p x (I7 q (C1 q (Q.take m)).length s))/\(vF p x (I7 q (C1 q (Q.take m)).length s)).2.2.2=x.2.2.2/\(vF p x (I7 q (C1 q (Q.take m)).length s)).1=x.1:=by
  have hm:m<Q.length:=by
    by_cases hm:m<Q.length
    . exact hm
    . rw [List.getElem?_eq_none (by omega)] at hQ; cases hQ
  have eE:Q.take (m+1)=Q.take m++[(q,s)]:=by
    rw [List.take_add_one,hQ]; rfl
  have pL:∀ p,(C1 p (Q.take (m+1))).length<=(S p).length:=λ p=>((yP (p:=p) (Q:=Q) (i:=m+1)).trans (aZ p)).length_le;have hk:(C1 q (Q.take m)).length<=16777300:=by
    have h1:=((yP (p:=q) (Q:=Q) (i:=m)).trans (aZ q)).length_le;have:=bZ q;omega
  have hw:who (I7 q (C1 q (Q.take m)).length s)=q:=XH hq;have hn:nth (I7 q (C1 q (Q.take m)).length s)=(C1 q (Q.take m)).length:=Pn hk;have ht:wF (I7 q (C1 q (Q.take m)).length s)=s:=ZH;have mz:x.2.1++[((q:Int),s,())]=B++(Q.take (m+1)).map wE:=by
    rw [h.log,eE,List.map_append,List.append_assoc]; rfl
  by_cases e:q=p
  . subst e;have hc:=pL q;rw [eE,xY] at hc;have h1:C1 q [(q,s)]=[s]:=by simp [C1]
    rw [h1,List.length_append] at hc;simp only [List.length_singleton] at hc;have aM:=h.ok;rw [h.from_] at aM;obtain ⟨g1,g2⟩:=Ug aM (by rw [List.length_drop]; omega) (by rw [List.length_drop]; have:=bZ q; omega);have hl:Q8 x.2.2.1 (nth (I7 q (C1 q (Q.take m)).length s)+1)=(((((C1 q (Q.take m)).length+1:Nat):Int),((S q).drop (C1 q (Q.take m)).length).drop 1,()),0,()):=by
      rw [h.from_,hn]; exact g1
    rw [Ju hw (by rw [hl]),hl,hw,ht];refine ⟨⟨mz,?_,g2⟩,rfl,rfl⟩;show (((((C1 q (Q.take m)).length+1:Nat):Int),((S q).drop (C1 q (Q.take m)).length).drop 1,()):FrD)=_;rw [eE,xY,h1,List.length_append,List.drop_drop]; rfl
  . rw [DV (λ c=>e (by have:=c.1; rw [hw] at this; exact_mod_cast this)),hw,ht];refine ⟨⟨mz,?_,h.ok⟩,rfl,rfl⟩;have h1:C1 p [(q,s)]=[]:=by simp [C1,e]
    rw [eE,xY,h1,List.append_nil];exact h.from_
theorem Qk {p m:Nat} {x:n7} {l:List C0} (h:Av B S Q p m x) (hl:∀ i,i<l.length->(N9 Q)[m+i]?=l[i]?) (hq:∀ y∈Q,y.1<=5) (aZ:∀ p,C1 p Q <+: S p) (bZ:∀ p,(S p).length<=16777215) :
    ∀ {i},i<=l.length->Av B S Q p (m+i) (K0 p x l i)/\(K0 p x l i).2.2.2=x.2.2.2/\(K0 p x l i).1=x.1
  | 0,_=>⟨h,rfl,rfl⟩
  | i+1,hi=>by
    obtain ⟨g1,g2,g3⟩:=Qk h hl hq aZ bZ (show i<=l.length by omega);have h1:=hl i (by omega);rw [QQ,List.getElem?_eq_getElem (show i<l.length by omega)] at h1;cases hQ:Q[m+i]? with
    | none=>rw [hQ] at h1; cases h1
    | some y =>
      obtain ⟨q,s⟩:=y;rw [hQ] at h1;have h2:I7 q (C1 q (Q.take (m+i))).length s=l[i]:=by simpa using h1
      have hy:=hq (q,s) (List.mem_of_getElem? hQ);obtain ⟨k1,k2,k3⟩:=c0O (p:=p) g1 hQ hy aZ bZ;rw [K0,show l.getD i []=I7 q (C1 q (Q.take (m+i))).length s by rw [h2,List.getD_eq_getElem?_getD,List.getElem?_eq_getElem (show i<l.length by omega)]; rfl];exact ⟨k1,k2.trans g2,k3.trans g3⟩
theorem Inv.le5 (h:Inv said B S Q w):∀ y∈Q,y.1<=5:=λ y hy=>by have:=h.inQ y hy; have:=h.M1; omega
theorem Inv.take (h:Inv said B S Q w) {n:B8} {p:Nat} (hp:n.2.2.1=p) (bW:p<w.2.1.length) (hv:X1 w.1.2.1 p=true) (hm:w.2.2.1[n.2.2.2.2.1.toNat]?=some n.2.2.2.2.2.2.1) :
    Inv said B S Q (vg w n):=by
  by_cases he:(Q6 w n).2.2.1≠0
  . rw [vg,if_pos he]; exact h
  rw [vg,if_neg he,hp];have lq:Q6 w n=D6 (w.2.1.getD p j7).2.2.2.1 (n.2.2.2.2.1,n.2.2.2.2.2.2.1,()):=by rw [Q6,hp]; rfl
  rw [lq] at he ⊢;have kS:=Decidable.not_not.1 he;obtain ⟨⟨m,hM⟩,eG⟩:=h.mem p bW hv;rw [h.ord] at hm;obtain ⟨a1,a2,a3,a4,a5,a6⟩:=yM kS;have fH:=Qm (F:=λ i=>(N9 Q)[i]?) kS hM.wait hm;obtain ⟨r,hr⟩:∃ r,r=D6 (w.2.1.getD p j7).2.2.2.1 (n.2.2.2.2.1,n.2.2.2.2.2.2.1,()):=⟨_,rfl⟩;rw [<- hr] at kS a1 a2 a3 a5 a6 fH ⊢;have jM:=hM.next;have fH:∀ i,i<r.2.1.length->(N9 Q)[m+i]?=r.2.1[i]?:=λ i hi=>by
    have:=fH i hi;rw [jM] at this;exact this
  have hH:Av B S Q p m (AJ (N6 w (p:Int)) r.1):=⟨hM.log,hM.from_,hM.ok⟩;obtain ⟨k1,k2,k3⟩:=Qk hH fH h.le5 h.zl h.short (Nat.le_refl _);refine h.D9 (p:=p) (λ _=>?_) (λ _ _=>⟨m+r.2.1.length,?_⟩)
  . rw [k2];exact h.rcv p bW
  . refine ⟨?_,?_,?_,k1.log,k1.from_,k1.ok⟩
    . rcases Nat.eq_zero_or_pos r.2.1.length with h0|h0
      . rw [h0]; exact hM.le
      . have h1:=fH (r.2.1.length - 1) (by omega);rw [List.getElem?_eq_getElem (show r.2.1.length - 1<r.2.1.length by omega)] at h1;have h2:m+(r.2.1.length - 1)<(N9 Q).length:=by
          by_cases h2:m+(r.2.1.length - 1)<(N9 Q).length
          . exact h2
          . rw [List.getElem?_eq_none (by omega)] at h1; cases h1
        rw [YT] at h2;omega
    . rw [k2];show r.1.1=_;rw [a5,jM]; omega
    . rw [k2];intro x hx;rcases a2 x hx with rfl|hx
      . exact hm
      . exact hM.wait x hx
theorem Inv.Vh (h:Inv said B S Q w) {n:B8} (h0:0<=n.2.2.2.2.1) (hm:a40 S w.2.2.1 n) (ha:s5 w n.2.2.1=true):∃ Q',Inv said B S Q' (F9 w n):=by
  by_cases hk:known w n.2.1≠0
  . exact ⟨Q,by rw [SQ hk]; exact h⟩
  by_cases c1:n.1=1
  . rw [SR hk c1]; exact h.order hk (hm.1 c1)
  by_cases c3:n.1=3
  . refine ⟨Q,?_⟩;rw [Tj hk c3]; exact h.Gx (h.asks h0 4)
  by_cases c2:n.1=2
  . refine ⟨Q,?_⟩;rw [Tv hk c2];obtain ⟨p,hp,bW,hv,-⟩:=BU.1 ha;exact h.take hp bW hv (hm.2 c2)
  . exact ⟨Q,by rw [Tu c1 c3 c2]; exact h⟩
theorem Pu {s:C0} (h:(w8 s).2.1=0):0<=(w8 s).1.2.2.2.2.1/\(w8 s).1.2.2.2.2.1<=16777215:=(Kl (Wo h).1).seq
theorem Inv.TS (h:Inv said B S Q w) {bu:Int} {s:C0} (hs:zx S w.2.2.1 w.1.1 s):∃ Q',Inv said B S Q' (wN w bu s):=by
  by_cases c:bu=1/\(w8 s).2.1=0/\(w8 s).1.2.2.2.1=w.1.1/\s5 w (w8 s).1.2.2.1=true
  . rw [Sb c];exact h.Vh (Pu c.2.1).1 ((hs c.2.1).2 c.2.2.1) c.2.2.2
  . exact ⟨Q,by rw [Eo c]; exact h⟩
theorem Inv.move (h:Inv said B S Q w) (k bu:Int):∃ Q',Inv said B S Q' (C7 w k bu).1:=by
  by_cases c1:H5 bu 1 3=false
  . exact ⟨Q,by rw [Qn c1]; exact h⟩
  by_cases c2:H5 k 0 ((w.2.2.2.1.length:Int) - 1)=false
  . exact ⟨Q,by rw [JT c1 c2]; exact h⟩
  have hk:=T8.1 (Bool.not_eq_false _▸c2:H5 k 0 ((w.2.2.2.1.length:Int) - 1)=true);by_cases c3:bu=3
  . by_cases c4:(w.2.2.2.1.length:Int)=60
    . exact ⟨Q,by rw [RZ c1 c2 c3 c4]; exact h⟩
    . refine ⟨Q,?_⟩;rw [RY c1 c2 c3 c4];exact h.copy (by omega) c4
  . rw [BB c1 c2 c3];refine (h.drop k).TS ?_;refine h.msg _ ?_;rw [List.getD_eq_getElem?_getD,List.getElem?_eq_getElem (by omega)]; exact List.getElem_mem _
end
end Go.Proofs.YtijlnmgondibnaaGreatDoor
namespace Go.Proofs.YtijlnmgondibnaaGreatDoor
open Go.Ex
set_option maxRecDepth 100000
theorem zR {x:Int} (h:0<=x/\x<=255) {p:Nat} (hp:p<8):X1 x p=bit x p:=by
  have key:∀ n:Fin 256,∀ i:Fin 8,X1 ((n.val:Nat):Int) i.val=bit ((n.val:Nat):Int) i.val:=by decide +kernel
  have:=key ⟨x.toNat,by omega⟩ ⟨p,hp⟩;simpa [show ((x.toNat:Nat):Int)=x by omega] using this
theorem Wl {k i:Nat} (hk:k<8) (hi:i<8):bit (IntKind.wrap .u8 (1*2^min ((k:Nat):Int).toNat IntKind.u8.bits)) i=decide (i=k):=by
  have key:∀ k:Fin 8,∀ i:Fin 8,bit (IntKind.wrap .u8 (1*2^min ((k.val:Nat):Int).toNat IntKind.u8.bits)) i.val=decide (i.val=k.val):=by decide +kernel
  exact key ⟨k,hk⟩ ⟨i,hi⟩
theorem PT (i:Nat):bit 0 i=false:=by
  show (0:Nat).testBit i=false;simp
theorem Jb {w:f8} (hv:0<=w.1.2.1/\w.1.2.1<=255):∀ {k:Nat},k<=8->r7 .u8 (D5 w k)/\∀ i,i<8->bit (D5 w k) i=(decide (i<k) && X1 w.1.2.1 i && !s5 w i)
  | 0,_=>⟨u8_in.2 ⟨Int.le_refl 0,by show (0:Int)<=255; decide⟩,λ i _=>by
      show bit 0 i=_;rw [PT]; simp⟩
  | k+1,hk=>by
    obtain ⟨h1,h2⟩:=Jb hv (show k<=8 by omega);rw [D5,PH];by_cases a:s5 w k=true
    . rw [if_pos a];refine ⟨h1,λ i hi=>?_⟩;rw [h2 i hi];by_cases e:i=k
      . subst e;rw [a]; simp
      . rw [show decide (i<k+1)=decide (i<k) by by_cases c:i<k<;>simp [c]<;>omega]
    . rw [if_neg a];refine ⟨Gu,λ i hi=>?_⟩;rw [Mz u8s h1 Mc,MG u8s (u8_in.2 hv) (T6 _ _),Wl (by omega) hi,h2 i hi,<- zR hv hi];by_cases e:i=k
      . subst e;have a':s5 w i=false:=by simpa using a
        rw [a']; simp
      . rw [show decide (i<k+1)=decide (i<k) by by_cases c:i<k<;>simp [c]<;>omega];simp [e]
theorem PO {v:vr} {g:Int} (h:¬ (R2 v g 0).2.1≠0):(R2 v g 0).1=(v.1+1,bOr .u8 (Q9 .u8 v.2.1 g) 0,())/\v.1<16777215/\0<=v.1:=by
  unfold R2 at h ⊢;by_cases c1:R5 v≠0
  . rw [if_pos c1] at h; exact absurd c1 h
  rw [if_neg c1] at h ⊢;split at h
  . exact absurd (by decide) h
  rename_i c2;rw [if_neg c2];split at h
  . exact absurd (by decide) h
  rename_i c3;rw [if_neg c3];split at h
  . exact absurd (by decide) h
  rename_i c4;rw [if_neg c4];split at h
  . exact absurd (by decide) h
  rename_i c5;rw [if_neg c5];refine ⟨rfl,?_⟩;unfold R5 at c1;split at c1
  . exact absurd (by decide) c1
  . rename_i c6;omega
theorem members {w:f8} (hf:w.2.1.length<=6) (hv:0<=w.1.2.1/\w.1.2.1<=255) (hn:¬ (R0 w).2.1≠0) :
    (F1 w).1.1=w.1.1+1/\(0<=(F1 w).1.2.1/\(F1 w).1.2.1<=255)/\∀ p,p<w.2.1.length->X1 (F1 w).1.2.1 p=s5 w p:=by
  obtain ⟨h1,h2⟩:=PO hn;have he:(F1 w).1=(w.1.1+1,bOr .u8 (Q9 .u8 w.1.2.1 (D5 w w.2.1.length)) 0,()):=h1;obtain ⟨g1,g2⟩:=Jb hv (show w.2.1.length<=8 by omega);rw [he];refine ⟨rfl,u8_in.1 Gu,λ p hp=>?_⟩;have z0:r7 .u8 (0:Int):=u8_in.2 ⟨by decide,by decide⟩;show X1 (bOr .u8 (Q9 .u8 w.1.2.1 (D5 w w.2.1.length)) 0) p=s5 w p;rw [zR (u8_in.1 Gu) (by omega),Mz u8s zW z0,Rz u8s (u8_in.2 hv) g1,g2 p (by omega),PT,<- zR hv (by omega),decide_eq_true hp];cases hm:X1 w.1.2.1 p with
  | true=>simp
  | false =>
    have:s5 w p=false:=by
      cases ha:s5 w p with
      | false=>rfl
      | true=>have:=(yQ.1 ha).2.1; rw [hm] at this; cases this
    rw [this]; rfl
theorem Jx {w:f8}:∀ {k:Nat},I2 w k=[]\/∃ i,i<k/\s5 w i=true/\I2 w k=(w.2.1.getD i j7).2.1
  | 0=>.inl rfl
  | k+1=>by
    rw [I2]
    split
    . rename_i h; exact .inr ⟨k,by omega,h.1,rfl⟩
    . rcases Jx (w:=w) (k:=k) with h|⟨i,h1,h2,h3⟩
      . exact .inl h
      . exact .inr ⟨i,by omega,h2,h3⟩
theorem SG {f:Nat->n7->n7} {l:List n7} {p:Nat} (hp:p<l.length):(l.mapIdx f).getD p j7=f p (l.getD p j7):=by
  rw [List.getD_eq_getElem?_getD,List.getElem?_mapIdx,List.getD_eq_getElem?_getD,List.getElem?_eq_getElem hp]; rfl
theorem WV {α:Type} {l:List α} {c:Nat}:l.drop (min c l.length)=l.drop c:=by
  by_cases h:c<=l.length
  . rw [Nat.min_eq_left h]
  . rw [Nat.min_eq_right (by omega),List.drop_length,List.drop_eq_nil_of_le (by omega)]
section
variable {said:Nat->List C0} {B:List D4} {S:Nat->List C0} {Q:List V1} {w:f8}
theorem Inv.long (h:Inv said B S Q w) {p0:Nat} (nE:p0<w.2.1.length) (nQ:s5 w p0=true) :
    ∃ m,m<=Q.length/\I2 w w.2.1.length=B++(Q.take m).map wE/\∀ p,p<w.2.1.length->s5 w p=true->∀ j,CY said B S Q p (w.2.1.getD p j7) j->j<=m:=by
  rcases Jx (w:=w) (k:=w.2.1.length) with hL|⟨i,hi,tf,hL⟩
  . have hz:∀ p,p<w.2.1.length->s5 w p=true->(w.2.1.getD p j7).2.1=[]:=λ p hp fb=>by
      have:=DX fb hp;rw [hL] at this;exact List.eq_nil_of_length_eq_zero (by simpa using this)
    obtain ⟨⟨j,hj⟩,-⟩:=h.mem p0 nE (yQ.1 nQ).2.1;have h0:=hj.log;rw [hz p0 nE nQ] at h0;have hB:B=[]:=(List.append_eq_nil_iff.1 h0.symm).1;refine ⟨0,Nat.zero_le _,by rw [hL,hB]; rfl,λ p hp fb j hj=>?_⟩;have h0:=hj.log;rw [hz p hp fb] at h0;have h1:=(List.append_eq_nil_iff.1 h0.symm).2;have h2:=congrArg List.length h1;rw [List.length_map,List.length_take] at h2;have:=hj.le;simp only [List.length_nil] at h2;omega
  . obtain ⟨⟨m,hm⟩,-⟩:=h.mem i hi (yQ.1 tf).2.1;refine ⟨m,hm.le,by rw [hL,hm.log],λ p hp fb j hj=>?_⟩;have:=DX fb hp;rw [hL,hm.log,hj.log,List.length_append,List.length_append,List.length_map,List.length_map,List.length_take,List.length_take] at this;have h1:=hj.le;have h2:=hm.le;omega
theorem Inv.change (h:Inv said B S Q w) (hv:0<=w.1.2.1/\w.1.2.1<=255) (hn:¬ (R0 w).2.1≠0) :
    ∃ B' S',Inv said B' S' [] (F1 w)/\(∀ p,p<w.2.1.length->s5 w p=true->(F1 w).2.1.getD p j7=((w.2.1.getD p j7).1,B',(0,S' p,()),(0,[],()),(0,[],()),())) /\
      (∀ p,p<w.2.1.length->(w.2.1.getD p j7).2.1 <+: ((F1 w).2.1.getD p j7).2.1):=by
  obtain ⟨eX,ln,lM⟩:=members h.M1 hv hn;have hlen:(F1 w).2.1.length=w.2.1.length:=List.length_mapIdx ..;have cB:∀ p:Nat,p<w.2.1.length->(F1 w).2.1.getD p j7=uK w (I2 w w.2.1.length) p (w.2.1.getD p j7):=λ p hp=>SG hp;have gJ:∀ p:Nat,p<w.2.1.length->s5 w p=false->(F1 w).2.1.getD p j7=((w.2.1.getD p j7).1,(w.2.1.getD p j7).2.1,(w.2.1.getD p j7).2.2.1,(w.2.1.getD p j7).2.2.2.1,(0,[],()),()):=λ p hp ha=>by
    rw [cB p hp,uK,if_neg (by rw [ha]; decide)]
  have mw:∀ S',∀ s∈w.2.2.2.1,zx S' [] (w.1.1+1) s:=λ S' s hs e=>by
    have:=(h.msg s hs e).1;exact ⟨by omega,λ e2=>absurd e2 (by omega)⟩
  by_cases hex:∃ p0:Nat,p0<w.2.1.length/\s5 w p0=true
  . obtain ⟨p0,nE,nQ⟩:=hex;obtain ⟨m,uo,hL,js⟩:=h.long nE nQ;rw [hL] at cB;obtain ⟨S',iL⟩:∃ S':Nat->List C0,S'=λ p=>if p<w.2.1.length/\s5 w p=true then (S p).drop (C1 p (Q.take m)).length else []:=⟨_,rfl⟩
    have gi:∀ p:Nat,p<w.2.1.length->s5 w p=true->S' p=(S p).drop (C1 p (Q.take m)).length:=λ p hp ha=>by rw [iL]; exact if_pos ⟨hp,ha⟩
    have eO:∀ p:Nat,s5 w p=false->S' p=[]:=λ p ha=>by rw [iL]; exact if_neg (λ c=>by rw [c.2] at ha; cases ha)
    have jb:∀ p:Nat,p<w.2.1.length->s5 w p=true->(F1 w).2.1.getD p j7=((w.2.1.getD p j7).1,B++(Q.take m).map wE,(0,S' p,()),(0,[],()),(0,[],()),()):=λ p hp ha=>by
      obtain ⟨⟨j,hj⟩,-⟩:=h.mem p hp (yQ.1 ha).2.1;have js:=js p hp ha j hj;rw [cB p hp,uK,if_pos ha,WV,hj.from_];simp only;have hd:(B++(Q.take m).map wE).drop (w.2.1.getD p j7).2.1.length=((Q.take m).drop j).map wE:=by
        rw [hj.log,List.length_append,List.length_map,List.length_take,Nat.min_eq_left hj.le,<- List.drop_drop,List.drop_left,List.map_drop]
      rw [hd,Sg,DG,List.drop_drop,gi p hp ha];have fq:C1 p (Q.take m)=C1 p (Q.take j)++C1 p ((Q.take m).drop j):=by
        rw [<- xY];congr 1;rw [show Q.take j=(Q.take m).take j by rw [List.take_take,Nat.min_eq_left js],List.take_append_drop]
      rw [fq,List.length_append]
    refine ⟨B++(Q.take m).map wE,S',?_,jb,λ p hp=>?_⟩
    . refine ⟨by rw [hlen]; exact h.M1,h.way,rfl,λ x hx=>(by cases hx),λ p=>List.nil_prefix,λ p=>?_,λ s hs=>?_,λ p hp=>?_,λ p hp hm=>?_,λ p hp hm=>?_,λ s hs=>?_⟩
      . rw [iL];dsimp only
        split
        . rw [List.length_drop]; have:=h.short p; omega
        . exact Nat.zero_le _
      . rw [eX]; exact mw S' s hs
      . rw [hlen] at hp;cases ha:s5 w p with
        | true=>rw [jb p hp ha]; exact ⟨rfl,λ q hq=>by cases hq⟩
        | false=>rw [gJ p hp ha]; exact ⟨rfl,λ q hq=>by cases hq⟩
      . rw [hlen] at hp;rw [lM p hp] at hm;rw [jb p hp hm];obtain ⟨⟨j,hj⟩,eG⟩:=h.mem p hp (yQ.1 hm).2.1;have aM:=hj.ok;rw [hj.from_] at aM;have me:=Z7 aM;have js:=js p hp hm j hj;have bQ:S' p=((S p).drop (C1 p (Q.take j)).length).drop ((C1 p (Q.take m)).length - (C1 p (Q.take j)).length):=by
          rw [gi p hp hm,List.drop_drop];congr 1;have:(C1 p (Q.take j)).length<=(C1 p (Q.take m)).length:=by
            have:=(yP (p:=p) (Q:=Q.take m) (i:=j)).length_le;rw [List.take_take,Nat.min_eq_left js] at this;exact this
          omega
        refine ⟨⟨0,Nat.zero_le _,rfl,λ q hq=>(by cases hq),by simp,by simp [C1],?_⟩,?_⟩
        . refine PG ⟨by decide,by decide⟩ ?_ ?_
          . rw [bQ,List.length_drop]; have:=me.2.1; simp only at this; omega
          . rw [bQ]; exact OD me.2.2
        . rw [eG,Ij,DG,gi p hp hm,List.append_assoc];congr 1;have aZ:=(yP (p:=p) (Q:=Q) (i:=m)).trans (h.zl p)
          conv=>lhs; rw [<- List.take_append_drop (C1 p (Q.take m)).length (S p)]
          rw [<- List.prefix_iff_eq_take.1 aZ]
      . rw [hlen] at hp;rw [lM p hp] at hm;refine ⟨eO p hm,?_⟩;rw [Ij,DG];have aZ:=(yP (p:=p) (Q:=Q) (i:=m)).trans (h.zl p);cases gZ:X1 w.1.2.1 p with
        | true =>
          rw [(h.mem p hp gZ).2];exact (List.prefix_append_right_inj _).2 aZ
        | false =>
          obtain ⟨e1,e2⟩:=h.out p hp gZ;rw [e1] at aZ;rw [List.prefix_nil.1 aZ,List.append_nil];exact e2
      . rw [hlen];rcases List.mem_append.1 hs with hs|hs
        . exact h.Lr s hs
        . obtain ⟨y,hy,rfl⟩:=List.mem_map.1 hs;have:=h.inQ y (List.mem_of_mem_take hy);show 0<=((y.1:Nat):Int)/\((y.1:Nat):Int)<_;omega
    . cases ha:s5 w p with
      | true =>
        rw [jb p hp ha];obtain ⟨⟨j,hj⟩,-⟩:=h.mem p hp (yQ.1 ha).2.1;have js:=js p hp ha j hj;rw [hj.log];refine (List.prefix_append_right_inj _).2 (List.IsPrefix.map wE ?_);rw [show Q.take j=(Q.take m).take j by rw [List.take_take,Nat.min_eq_left js]];exact List.take_prefix ..
      | false=>rw [gJ p hp ha]; exact List.prefix_rfl
  . have bt:∀ p:Nat,p<w.2.1.length->s5 w p=false:=λ p hp=>by
      cases ha:s5 w p with
      | false=>rfl
      | true=>exact absurd ⟨p,hp,ha⟩ hex
    refine ⟨[],λ _=>[],?_,λ p hp ha=>(by rw [bt p hp] at ha; cases ha),λ p hp=>by rw [gJ p hp (bt p hp)]; exact List.prefix_rfl⟩;refine ⟨by rw [hlen]; exact h.M1,h.way,rfl,λ x hx=>(by cases hx),λ p=>List.nil_prefix,λ p=>Nat.zero_le _,λ s hs=>?_,λ p hp=>?_,λ p hp hm=>?_,λ p hp hm=>⟨rfl,List.nil_prefix⟩,λ s hs=>(by cases hs)⟩
    . rw [eX]; exact mw _ s hs
    . rw [hlen] at hp;rw [gJ p hp (bt p hp)]; exact ⟨rfl,λ q hq=>by cases hq⟩
    . rw [hlen] at hp;rw [lM p hp,bt p hp] at hm; cases hm
end
end Go.Proofs.YtijlnmgondibnaaGreatDoor
namespace Go.Proofs.YtijlnmgondibnaaGreatDoor
open Go.Ex
set_option maxRecDepth 100000
attribute [local irreducible] Go.Ex.exec
section
variable {H:Array Go.Obj} {S:Nat->Prop} {O:List Nat} {cs:List Value}
theorem Pv {α β:Type} {R:List Nat->List Value->α->Prop} {R':List Nat->List Value->β->Prop} {sz:Nat} {f:α->β} (hr:∀ O cs x,R O cs x->R' O cs (f x)):∀ {l:List α} {O:List Nat} {cs:List Value},j5 R sz O cs l->j5 R' sz O cs (l.map f)
  | [],_,_,h=>h
  | _::_,_,_,⟨O1,O2,e,h1,h2⟩=>⟨O1,O2,e,hr _ _ _ h1,Pv hr h2⟩
theorem Up {l:List n7} (h:i6 H S (.d0 true wH) O cs l):i6 H S (.d0 true X9) O cs (l.map toM):=by
  have e:(l.map toM).length=l.length:=List.length_map ..;rcases h with ⟨a,b,c⟩|⟨b,off,cap,O',h1,h2,h3,h4,h5,h6⟩
  . exact .inl ⟨a,b,by rw [c]; rfl⟩
  . refine .inr ⟨b,off,cap,O',?_,?_,h3,?_,?_,h6⟩
    . rw [h1]; exact congrArg (λ n:Nat=>[Value.slice (some ⟨b,off,none⟩) n cap]) e.symm
    . exact Nat.le_trans (Nat.le_of_eq e) h2
    . exact Nat.le_trans (Nat.le_of_eq (congrArg (λ n:Nat=>off+n*X9.size) e)) h4
    . have:=Pv (R':=i6 H S X9) (f:=toM) (λ _ _ _ h=>h) h5;have e2:d9 H b off (List.length (l.map toM)*X9.size)=d9 H b off (List.length l*wH.size):=congrArg (λ n:Nat=>d9 H b off (n*X9.size)) e;show j5 (i6 H S X9) X9.size O' (d9 H b off (List.length (l.map toM)*X9.size)) (l.map toM);rw [e2];exact this
theorem Yn {l:List n7} (h:i6 H S (.d0 true X9) O cs (l.map toM)):i6 H S (.d0 true wH) O cs l:=by
  have e:(l.map toM).length=l.length:=List.length_map ..;rcases h with ⟨a,b,c⟩|⟨b,off,cap,O',h1,h2,h3,h4,h5,h6⟩
  . exact .inl ⟨a,b,List.map_eq_nil_iff.1 c⟩
  . refine .inr ⟨b,off,cap,O',?_,?_,h3,?_,?_,h6⟩
    . rw [h1]; exact congrArg (λ n:Nat=>[Value.slice (some ⟨b,off,none⟩) n cap]) e
    . exact Nat.le_trans (Nat.le_of_eq e.symm) h2
    . exact Nat.le_trans (Nat.le_of_eq (congrArg (λ n:Nat=>off+n*X9.size) e.symm)) h4
    . have e2:d9 H b off (List.length (l.map toM)*X9.size)=d9 H b off (List.length l*wH.size):=congrArg (λ n:Nat=>d9 H b off (n*X9.size)) e;have h5:j5 (i6 H S X9) X9.size O' (d9 H b off (List.length (l.map toM)*X9.size)) (l.map toM):=h5;rw [e2] at h5;exact j5.Lp (R:=i6 H S wH) (f:=toM) (λ _ _ _ h=>h) h5
theorem Ws {w:f8} (h:i6 H S r9 O cs w):i6 H S Z2 O cs (uT w):=by
  obtain ⟨v,al,r⟩:=w;obtain ⟨P1,P2,e,r1,P3,P4,e',r2,r3⟩:=h;exact ⟨P1,P2,e,r1,P3,P4,e',Up r2,r3⟩
theorem YP {w:f8} (h:i6 H S Z2 O cs (uT w)):i6 H S r9 O cs w:=by
  obtain ⟨v,al,r⟩:=w;obtain ⟨P1,P2,e,r1,P3,P4,e',r2,r3⟩:=h;exact ⟨P1,P2,e,r1,P3,P4,e',Yn r2,r3⟩
end
def OJ:o7:={ ps:=[.rw r9],rs:=[e8],pre:=λ x=>yI x.1,fn:=λ x=>((S7 x.1).2,()),out:=λ x=>((S7 x.1).1,()) }
theorem Kh {w:f8} (h:(R0 w).2.1≠0):S7 w=(w,(R0 w).2.1):=by rw [S7]; exact if_pos h
theorem KC {w:f8} (h:¬ (R0 w).2.1≠0):S7 w=(F1 w,0):=by rw [S7]; exact if_neg h
attribute [local irreducible] S7 F1 R0 in
theorem b2y:OJ.Valid Tryz.prog 25:=by
  refine ⟨Tr.ent,?_,λ h=>by cases h⟩;rintro w S vs ⟨(x:f8),⟨⟩⟩ L hS dG (aZ:yI x) ⟨v,us,L1,L2,rfl,rfl,⟨b,off,O,rfl,hr,hf,rfl⟩,rfl,rfl⟩ - aJ hL;by_cases hn:(R0 x).2.1≠0
  . have hs:i6 w.heap (λ c=>S c\/c∈b::O) K8 [] (d9 w.heap b off r9.size) x:=hr.vq (S':=λ c=>S c\/c∈b::O) (λ c h=>.inr (List.mem_cons_of_mem _ h)) (λ c h=>.inl h) rfl;refine (b2z.run w (λ c=>S c\/c∈b::O) [.pointer (some ⟨b,off,none⟩)] (x,()) [] ?_ (dG.sub (λ c h=>.inl h)) ⟨aZ.M1,hn⟩ ⟨_,[],[],[],rfl,rfl,⟨rfl,b,off,rfl,.inr List.mem_cons_self,?_,hs⟩,rfl,rfl⟩ trivial List.nodup_nil (by simp)).mono ?_
    . rintro c (h|h)
      . exact hS c h
      . exact (hL c (by simpa using h)).2
    . exact N3.w4 hf
    rintro e w' ⟨us,O2,Lo,S',e1,hp,s1,s2,h1,h2,cW,fo⟩;obtain ⟨v1,us1,P1,P2,cs,rfl,rfl,rfl,⟨rfl,rfl,hk⟩,rfl,rfl⟩:=h1;have dR:∀ c,c<w.heap.size->w'.heap[c]?=w.heap[c]?:=λ c hc=>hp.frame c hc (by simp);have dX:∀ c∈b::O,¬ S c/\c<w.heap.size:=λ c hc=>hL c (by simpa using hc);have hb:=dR b (dX b List.mem_cons_self).2;have fa:=Kh hn;refine ⟨[_],[],b::O,S,e1,⟨hp.os,hp.tape,hp.out,hp.size,λ c hc hn=>dR c hc⟩,λ _ h=>h,λ c h=>.inl h,⟨_,[],[],[],_,rfl,rfl,rfl,⟨rfl,?_,?_⟩,rfl,rfl⟩,⟨b,off,O,[],[],rfl,?_,?_,by simp,rfl,rfl⟩,?_,?_⟩
    . show [Value.int .i64 _]=[Value.int .i64 (S7 x).2];rw [fa]; rfl
    . show r7 .i64 (S7 x).2;rw [fa]; exact hk
    . show i6 w'.heap S r9 O (d9 w'.heap b off r9.size) (S7 x).1;rw [fa,l5 hb];exact hr.s9 (λ c hc=>dR c (hc.elim (λ h=>(dX c (List.mem_cons_of_mem _ h)).2) (hS c))) (λ _ h=>h)
    . exact N3.s9 hb hf
    . simpa using aJ
    . intro c hc;have hc:c∈b::O:=by simpa using hc
      exact ⟨(dX c hc).1,.inr (by simpa using hc),Nat.lt_of_lt_of_le (dX c hc).2 hp.size⟩
  . have fa:=KC hn;have nK:=WZ x;refine (Tr.run w S [.pointer (some ⟨b,off,none⟩)] (uT x,()) (b::O++[]) hS dG ⟨?_,?_,?_⟩ ⟨_,[],b::O,[],rfl,rfl,⟨b,off,O,rfl,Ws hr,hf,rfl⟩,rfl,rfl⟩ trivial aJ hL).mono ?_
    . show uT x=uT (vw (uT x)); rw [nK]
    . show yI (vw (uT x)); rw [nK]; exact aZ
    . show ¬ (R0 (vw (uT x))).2.1≠0; rw [nK]; exact hn
    rintro e w' ⟨us,O2,Lo,S',e1,hp,s1,s2,h1,h2,h3,h4⟩;refine ⟨us,O2,Lo,S',e1,hp,s1,s2,?_,?_,h3,h4⟩
    . have h1:K9 w'.heap S' [e8] O2 us ((0:Int),()):=h1;show K9 w'.heap S' [e8] O2 us ((S7 x).2,());rw [fa]; exact h1
    . obtain ⟨b',ar,O',us',L',e',ku,pE,e2,h'⟩:=h2;refine ⟨b',ar,O',us',L',e',?_,pE,e2,h'⟩;have ku:i6 w'.heap S' Z2 O' (d9 w'.heap b' ar Z2.size) (uT (F1 (vw (uT x)))):=ku;show i6 w'.heap S' r9 O' (d9 w'.heap b' ar r9.size) (S7 x).1;rw [fa];rw [nK] at ku;exact YP ku
end Go.Proofs.YtijlnmgondibnaaGreatDoor
namespace Go.Proofs.YtijlnmgondibnaaGreatDoor
open Go.Ex
set_option maxRecDepth 100000
attribute [local irreducible] Go.Ex.exec
abbrev Ah:=Int×Int×Int×Unit
abbrev Event:Ty:=.pair e8 (.pair e8 (.pair e8 .unit))
abbrev vN:=yY
def Gt:o7:={ ps:=[.v e8,.v e8,.v e8],rs:=[.bool],pre:=λ _=>True,fn:=λ x=>(Y1 x.1 x.2.1 x.2.2.1,()),out:=λ _=>() }
noncomputable def FR:Env:={ P:=Tryz.prog,tt:=tt,C5:=[],res:=[Go.ResultVar.tmp 6],rs:=[Ty.bool],ps:=[PK.v e8,PK.v e8,PK.v e8],y9:=[],nt:=15 }
theorem Oz:w5 FR:=x6 p9 trivial
theorem OL:B0 FR Tryz.f92:=⟨rfl,rfl⟩
theorem Wc (x0:Int) (x1:Int) (x2:Int):exec FR 1000 [.code (d8 Tryz.prog 92)] (s7 Gt.ps ((x0,x1,x2,()))) =
  cond (decide (x1<=x0)) (.ret ((decide (x0<=x2),()))) (.ret ((false,()))):=by kernel_rfl
theorem b8s:Gt.Valid Tryz.prog 92:=by
  refine o7.n8 Oz rfl rfl Tryz.func92 (c:=d8 Tryz.prog 92) rfl rfl OL rfl ?_;rintro ⟨(a:Int),(b:Int),(c:Int),⟨⟩⟩ - -
  refine j8 (n:=1000) Oz OL ?_;refine i7 (Wc a b c) ?_;simp only [j6,Tree.holds,sL]
  repeat' first|exact trivial|(refine And.intro ?_ ?_)|(intro _)
  all_goals (show ((_,()):Bool×Unit)=(Y1 a b c,()); simp [Y1, *])
def GI:o7:={ ps:=[.v (.d0 false .str),.v .str],rs:=[e8],pre:=λ _=>True,fn:=λ x=>(idxOf (λ y=>decide ((show yY from x.2.1)=y)) x.1,()),out:=λ _=>() }
noncomputable def CX:Env:={ P:=Tryz.prog,tt:=tt,C5:=[],res:=[Go.ResultVar.tmp 4],rs:=[Ty.int IntKind.i64],ps:=[PK.v (Ty.d0 false Ty.str),PK.v Ty.str],y9:=[(2,[(0,none),(1,none),(7,none),(8,none)])],nt:=19 }
theorem a93:w5 CX:=x6 p9 trivial
theorem IP:B0 CX Tryz.f90:=⟨rfl,rfl⟩
theorem VN (x0:List yY) (x1:yY):exec CX 1000 [.code (d8 Tryz.prog 90)] (s7 GI.ps ((x0,x1,()))) =
  .ctL (g8 (d8 Tryz.prog 90) 2) (St.mk [(0,AV.val (Ty.d0 false Ty.str) x0),(1,AV.val Ty.str x1),(7,AV.val e8 (↑(List.length x0):Int)),(8,AV.val e8 (0:Int))] []):=by kernel_rfl
def Pm (v0:List yY) (v1:yY) (v7:Int) (v8:Int):St:=St.mk [(0,AV.val (Ty.d0 false Ty.str) v0),(1,AV.val Ty.str v1),(7,AV.val e8 v7),(8,AV.val e8 v8)] []
theorem Xk (v0:List yY) (v1:yY) (v7:Int) (v8:Int):exec CX 1000 (.code (g8 (d8 Tryz.prog 90) 2).1::.inLoop (g8 (d8 Tryz.prog 90) 2).1::(g8 (d8 Tryz.prog 90) 2).2) (Pm v0 v1 v7 v8) =
  cond (decide (v8<v7)) (.f7 ((0:Int)<=v8/\v8<(↑(List.length v0):Int)) (cond (decide (v1=List.getD v0 (Int.toNat v8) [])) (.ret ((v8,()))) (.f7 (r7 IntKind.i64 (v8+(1:Int))) (.ctL (g8 (d8 Tryz.prog 90) 2) (St.mk [(0,AV.val (Ty.d0 false Ty.str) v0),(1,AV.val Ty.str v1),(7,AV.val e8 v7),(8,AV.val e8 (v8+(1:Int)))] []))))) (.ret (((-1:Int),()))):=by kernel_rfl
theorem b76:GI.Valid Tryz.prog 90:=by
  refine o7.n8 a93 rfl rfl Tryz.func90 (c:=d8 Tryz.prog 90) rfl rfl IP rfl ?_;rintro ⟨(l:List (yY)),(x:yY),⟨⟩⟩ - ⟨⟨hl,-⟩,-⟩;have hl:l.length<=9223372036854775807:=hl;refine j8 (n:=1000) a93 IP ?_;refine i7 (VN l x) ?_;refine Reach.M0 a93 IP (λ i:Nat=>Pm l x (l.length:Int) (i:Int) ) (λ i=>i<=l.length/\idxOf (λ y=>decide (x=y)) l=U6 (λ y=>decide (x=y)) (l.drop i) i)
    (λ i=>l.length - i) 1000 (λ _=>⟨s6 rfl,s6 rfl⟩) ?_ 0 ⟨by omega,rfl⟩
  rintro i ⟨k1,k2⟩ - ih;refine i7 (Xk ..) ?_;simp only [j6,Tree.holds,sL];refine ⟨λ h=>?_,λ h=>?_⟩
  . rw [Jr (show i<l.length by omega) [],U6] at k2;have key:∀ b:Bool,(b=true↔x=l.getD i [])->(b=true->(((i:Int),()):Int×Unit)=(idxOf (λ y=>decide (x=y)) l,()))/\(b=false->idxOf (λ y=>decide (x=y)) l=U6 (λ y=>decide (x=y)) (l.drop (i+1)) (i+1)):=λ b hb=>by
      refine ⟨λ c=>?_,λ c=>?_⟩
      . rw [k2,if_pos (decide_eq_true (hb.1 c))]
      . rw [k2,if_neg (λ h9=>by rw [hb.2 (of_decide_eq_true h9)] at c; cases c)]
    refine ⟨by omega,λ _=>⟨λ c=>?_,λ c=>⟨by omega,λ _=>ih (i+1) ⟨by omega,?_⟩ (by omega)⟩⟩⟩
    . exact (key true ⟨λ _=>c,λ _=>rfl⟩).1 rfl
    . exact (key false ⟨λ h9=>(by cases h9),λ h9=>(c h9).elim⟩).2 rfl
  . rw [List.drop_eq_nil_of_le (by omega)] at k2;show (((-1:Int),()):Int×Unit)=(idxOf (λ y=>decide (x=y)) l,());rw [k2]; rfl
def K7 (n:Int):Int:=min (max n (-1000000000)) 1000000000
theorem YW (n:Int):(if 1000000000<(if n < -1000000000 then -1000000000 else n) then 1000000000 else (if n < -1000000000 then -1000000000 else n))=K7 n:=by
  unfold K7; split<;>split<;>omega
theorem WO (n:Int):-1000000000<=K7 n/\K7 n<=1000000000:=by unfold K7; omega
def Hi:o7:={ ps:=[.v e8],rs:=[e8],pre:=λ _=>True,fn:=λ x=>(K7 x.1,()),out:=λ _=>() }
noncomputable def Hb:Env:={ P:=Tryz.prog,tt:=tt,C5:=[],res:=[Go.ResultVar.tmp 2],rs:=[Ty.int IntKind.i64],ps:=[PK.v e8],y9:=[],nt:=6 }
theorem PQ:w5 Hb:=x6 p9 trivial
theorem Qx:B0 Hb Tryz.f93:=⟨rfl,rfl⟩
theorem We (x0:Int):exec Hb 1000 [.code (d8 Tryz.prog 93)] (s7 Hi.ps ((x0,()))) =
  .ret ((if (1000000000:Int)<if x0<(-1000000000:Int) then (-1000000000:Int) else x0 then (1000000000:Int) else if x0<(-1000000000:Int) then (-1000000000:Int) else x0,())):=by kernel_rfl
theorem b6g:Hi.Valid Tryz.prog 93:=by
  refine o7.n8 PQ rfl rfl Tryz.func93 (c:=d8 Tryz.prog 93) rfl rfl Qx rfl ?_;rintro ⟨(n:Int),⟨⟩⟩ - -
  refine j8 (n:=1000) PQ Qx ?_;refine i7 (We n) ?_;show ((_,()):Int×Unit)=(K7 n,());rw [<- YW]
abbrev F6:yY:=[32]
abbrev xi:List yY:=[[115,101,116],[97,100,100],[109,111,115,116],[99,111,112,121]]
def yZ (n:Int):Int:=min (max n (-4000000000)) 4000000000
theorem Vj (n:Int):(if 4000000000<(if n < -4000000000 then -4000000000 else n) then 4000000000 else (if n < -4000000000 then -4000000000 else n))=yZ n:=by
  unfold yZ; split<;>split<;>omega
def zn (v:List Int) (c:Ah):List Int :=
  if c.1=1 then v.set c.2.1.toNat (K7 c.2.2.1)
  else if c.1=2 then v.set c.2.1.toNat (K7 (yZ (v.getD c.2.1.toNat 0)+K7 c.2.2.1))
  else if c.1=3 then v.set c.2.1.toNat (max (v.getD c.2.1.toNat 0) (K7 c.2.2.1))
  else if c.1=4 then v.set c.2.1.toNat (v.getD c.2.2.1.toNat 0)
  else v
def Fh:o7:={ ps:=[.rw uU,.v Event],rs:=[],pre:=λ x=>(LE.le (α:=Int) 0 x.2.1.2.1/\LT.lt (α:=Int) x.2.1.2.1 10)/\(x.2.1.1=(4:Int)->LE.le (α:=Int) 0 x.2.1.2.2.1/\LT.lt (α:=Int) x.2.1.2.2.1 10),fn:=λ _=>(),out:=λ x=>(zn x.1 x.2.1,()) }
noncomputable def Fp:Env:={ P:=Tryz.prog,tt:=tt,C5:=[(93,Hi)],res:=[],rs:=[],ps:=[PK.rw uU,PK.v (Ty.pair e8 LQ)],y9:=[],nt:=54 }
theorem Nl:w5 Fp:=x6 p9 ⟨b6g,trivial⟩
theorem Nw:B0 Fp Tryz.f74:=⟨rfl,rfl⟩
theorem UP (x0:List Int) (bs:Int) (aF:Int) (aE:Int):exec Fp 1000 [.code (d8 Tryz.prog 74)] (s7 Fh.ps ((x0,(bs,aF,aE,()),()))) =
  .f7 ((0:Int)<=aF/\aF<(↑10:Int)) (cond (decide (bs=(1:Int))) (.f7 (True) (.ret ((List.set x0 (Int.toNat aF) (K7 aE),())))) (cond (decide (bs=(2:Int))) (.f7 (True) (.f7 (r7 IntKind.i64 ((if (4000000000:Int)<if List.getD x0 (Int.toNat aF) (0:Int)<(-4000000000:Int) then (-4000000000:Int) else List.getD x0 (Int.toNat aF) (0:Int) then (4000000000:Int) else if List.getD x0 (Int.toNat aF) (0:Int)<(-4000000000:Int) then (-4000000000:Int) else List.getD x0 (Int.toNat aF) (0:Int))+K7 aE)) (.f7 (True) (.ret ((List.set x0 (Int.toNat aF) (K7 ((if (4000000000:Int)<if List.getD x0 (Int.toNat aF) (0:Int)<(-4000000000:Int) then (-4000000000:Int) else List.getD x0 (Int.toNat aF) (0:Int) then (4000000000:Int) else if List.getD x0 (Int.toNat aF) (0:Int)<(-4000000000:Int) then (-4000000000:Int) else List.getD x0 (Int.toNat aF) (0:Int))+K7 aE)),())))))) (cond (decide (bs=(3:Int))) (.f7 (True) (.ret ((List.set x0 (Int.toNat aF) (if List.getD x0 (Int.toNat aF) (0:Int)<K7 aE then K7 aE else List.getD x0 (Int.toNat aF) (0:Int)),())))) (cond (decide (bs=(4:Int))) (.f7 ((0:Int)<=aE/\aE<(↑10:Int)) (.ret ((List.set x0 (Int.toNat aF) (List.getD x0 (Int.toNat aE) (0:Int)),())))) (.ret ((x0,()))))))):=by kernel_rfl
theorem c09:Fh.Valid Tryz.prog 74:=by
  refine o7.n8 Nl rfl rfl Tryz.func74 (c:=d8 Tryz.prog 74) rfl rfl Nw rfl ?_;rintro ⟨(v:List Int),⟨(k:Int),(i:Int),(n:Int),⟨⟩⟩,⟨⟩⟩ ⟨⟨(h1:0<=i),(h2:i<10)⟩,(h3:k=4->0<=n/\n<10)⟩ -
  refine j8 (n:=1000) Nl Nw ?_;refine i7 (UP v k i n) ?_;have hd:zn v (k,i,n,())=if k=1 then v.set i.toNat (K7 n) else if k=2 then v.set i.toNat (K7 (yZ (v.getD i.toNat 0)+K7 n)) else if k=3 then v.set i.toNat (max (v.getD i.toNat 0) (K7 n)) else if k=4 then v.set i.toNat (v.getD n.toNat 0) else v:=rfl
  have hg:∀ x:Int,r7 .i64 (yZ x+K7 n):=λ x=>by have:=WO n; exact F0.2 (by unfold yZ; omega)
  have fin:∀ y:List Int,y=zn v (k,i,n,())->((y,()):List Int×Unit)=(zn v (k,i,n,()),()):=λ y e=>by rw [e]
  simp only [j6,Tree.holds,Vj,sL];refine ⟨⟨h1,by omega⟩,λ _=>⟨λ e=>fin _ (by rw [hd,if_pos e]),λ e=>⟨λ e2=>⟨hg _,λ _=>fin _ (by rw [hd,if_neg e,if_pos e2])⟩,λ e2=>⟨λ e3=>fin _ ?_,λ e3=>⟨λ e4=>⟨by have:=h3 e4; omega,λ _=>fin _ (by rw [hd,if_neg e,if_neg e2,if_neg e3,if_pos e4])⟩,λ e4=>fin _ (by rw [hd,if_neg e,if_neg e2,if_neg e3,if_neg e4])⟩⟩⟩⟩⟩;rw [hd,if_neg e,if_neg e2,if_pos e3];refine congrArg (List.set v i.toNat) ?_;show (if v.getD i.toNat 0<K7 n then K7 n else v.getD i.toNat 0:Int)=max (v.getD i.toNat 0) (K7 n);rw [Int.max_def]
  split<;>split<;>omega
def kindOf (s:vN):Int:=idxOf (λ y=>decide (s=y)) xi+1
def AH (l:List vN):Ah×Int :=
  if (l.length:Int)≠3 then ((0,0,0,()),12)
  else if kindOf (l.getD 0 [])=0 then ((0,0,0,()),12)
  else if (J7 (l.getD 1 [])).2=false then ((0,0,0,()),12)
  else if (J7 (l.getD 2 [])).2=false then ((0,0,0,()),12)
  else if Y1 (J7 (l.getD 1 [])).1 0 9=false then ((0,0,0,()),1)
  else if kindOf (l.getD 0 [])=4/\Y1 (J7 (l.getD 2 [])).1 0 9=false then ((0,0,0,()),1)
  else ((kindOf (l.getD 0 []),(J7 (l.getD 1 [])).1,(J7 (l.getD 2 [])).1,()),0)
def R7 (s:vN):Ah×Int:=AH (Lib.split s F6)
def Fe:o7:={ ps:=[.v .str],rs:=[Event,e8],pre:=λ x=>List.length (α:=UInt8) x.1<=4294967280,fn:=λ x=>((R7 x.1).1,(R7 x.1).2,()),out:=λ _=>() }
theorem RO (p:yY):∀ (k:Nat) (s:yY),∀ x∈Lib.splitK p 0 k s,x.length<=s.length
  | 0,s,x,hx=>by
    have hx:x∈[s]:=hx;rw [List.mem_singleton] at hx; rw [hx]; exact Nat.le_refl _
  | k+1,s,x,hx=>by
    unfold Lib.splitK at hx;split at hx
    . rw [List.mem_singleton] at hx; rw [hx]; exact Nat.le_refl _
    . rcases List.mem_cons.1 hx with rfl|hx
      . rw [List.length_take]; omega
      . have:=RO p k _ x hx;rw [List.length_drop] at this; omega
theorem Rm {s p:yY} {i:Nat}:((Lib.split s p).getD i []).length<=s.length:=by
  by_cases h:i<(Lib.split s p).length
  . refine RO p (Lib.count s p) s _ ?_;rw [List.getD_eq_getElem?_getD,List.getElem?_eq_getElem h];exact List.getElem_mem h
  . rw [List.getD_eq_getElem?_getD,List.getElem?_eq_none (by omega)]; simp
theorem LA {α:Type} {p:α->Bool}:∀ {l:List α} {i:Nat},-1<=U6 p l i/\U6 p l i<=(i+l.length:Nat)
  | [],i=>by simp only [U6]; omega
  | x::l,i=>by
    rw [U6]
    split
    . omega
    . have:=LA (p:=p) (l:=l) (i:=i+1);rw [List.length_cons]; omega
theorem Mv (s:vN):0<=kindOf s/\kindOf s<=5:=by
  have:=LA (p:=λ y=>decide (s=y)) (l:=xi) (i:=0);simp only [kindOf,idxOf];have e:xi.length=4:=rfl;rw [e] at this;omega
noncomputable def FT:Env:={ P:=Tryz.prog,tt:=tt,C5:=[(89,Mp),(90,GI),(91,MK),(92,Gt)],res:=[Go.ResultVar.cell 2 126,Go.ResultVar.tmp 3],rs:=[Ty.pair e8 LQ,Ty.int IntKind.i64],ps:=[PK.v Ty.str],y9:=[],nt:=66 }
theorem OA:w5 FT:=x6 p9 ⟨b50,b76,b4q,b8s,trivial⟩
theorem OM:B0 FT Tryz.f73:=⟨rfl,rfl⟩
theorem Wd (x0:yY):exec FT 1000 [.code (d8 Tryz.prog 73)] (s7 Fe.ps ((x0,()))) =
  .f7 (List.length x0<=4294967280/\1<=List.length F6) (cond (decide ((↑(List.length (Go.Lib.split x0 F6)):Int)≠(3:Int))) (.ret ((((0:Int),(0:Int),(0:Int),()),(12:Int),()))) (.f7 ((0:Int)<=(0:Int)/\(0:Int)<(↑(List.length (Go.Lib.split x0 F6)):Int)) (.f7 (True) (.f7 (r7 IntKind.i64 (idxOf (λ y=>decide (List.getD (Go.Lib.split x0 F6) (Int.toNat (0:Int)) []=y)) xi+(1:Int))) (.f7 ((0:Int)<=(1:Int)/\(1:Int)<(↑(List.length (Go.Lib.split x0 F6)):Int)) (.f7 (List.length (List.getD (Go.Lib.split x0 F6) (Int.toNat (1:Int)) [])<=4294967280) (.f7 ((0:Int)<=(2:Int)/\(2:Int)<(↑(List.length (Go.Lib.split x0 F6)):Int)) (.f7 (List.length (List.getD (Go.Lib.split x0 F6) (Int.toNat (2:Int)) [])<=4294967280) (cond (decide (idxOf (λ y=>decide (List.getD (Go.Lib.split x0 F6) (Int.toNat (0:Int)) []=y)) xi+(1:Int)=(0:Int))) (.ret ((((0:Int),(0:Int),(0:Int),()),(12:Int),()))) (cond (!Prod.snd (J7 (List.getD (Go.Lib.split x0 F6) (Int.toNat (1:Int)) []))) (.ret ((((0:Int),(0:Int),(0:Int),()),(12:Int),()))) (cond (!Prod.snd (J7 (List.getD (Go.Lib.split x0 F6) (Int.toNat (2:Int)) []))) (.ret ((((0:Int),(0:Int),(0:Int),()),(12:Int),()))) (.f7 (True) (cond (!Y1 (Prod.fst (J7 (List.getD (Go.Lib.split x0 F6) (Int.toNat (1:Int)) []))) (0:Int) (9:Int)) (.ret ((((0:Int),(0:Int),(0:Int),()),(1:Int),()))) (cond (decide (idxOf (λ y=>decide (List.getD (Go.Lib.split x0 F6) (Int.toNat (0:Int)) []=y)) xi+(1:Int)=(4:Int))) (.f7 (True) (cond (!Y1 (Prod.fst (J7 (List.getD (Go.Lib.split x0 F6) (Int.toNat (2:Int)) []))) (0:Int) (9:Int)) (.ret ((((0:Int),(0:Int),(0:Int),()),(1:Int),()))) (.ret (((idxOf (λ y=>decide (List.getD (Go.Lib.split x0 F6) (Int.toNat (0:Int)) []=y)) xi+(1:Int),Prod.fst (J7 (List.getD (Go.Lib.split x0 F6) (Int.toNat (1:Int)) [])),Prod.fst (J7 (List.getD (Go.Lib.split x0 F6) (Int.toNat (2:Int)) [])),()),(0:Int),()))))) (.ret (((idxOf (λ y=>decide (List.getD (Go.Lib.split x0 F6) (Int.toNat (0:Int)) []=y)) xi+(1:Int),Prod.fst (J7 (List.getD (Go.Lib.split x0 F6) (Int.toNat (1:Int)) [])),Prod.fst (J7 (List.getD (Go.Lib.split x0 F6) (Int.toNat (2:Int)) [])),()),(0:Int),()))))))))))))))))):=by kernel_rfl
theorem ZV:Fe.Valid Tryz.prog 73:=by
  refine o7.n8 OA rfl rfl Tryz.func73 (c:=d8 Tryz.prog 73) rfl rfl OM rfl ?_;rintro ⟨(s:yY),⟨⟩⟩ (hp:s.length<=4294967280) -
  refine j8 (n:=1000) OA OM ?_;refine i7 (Wd s) ?_;have hd:R7 s=AH (Lib.split s F6):=rfl;have e1:((Lib.split s F6).getD 1 []).length<=4294967280:=Nat.le_trans Rm hp;have e2:((Lib.split s F6).getD 2 []).length<=4294967280:=Nat.le_trans Rm hp;have hk:=Mv ((Lib.split s F6).getD 0 []);have eS:idxOf (λ y=>decide ((Lib.split s F6).getD 0 []=y)) xi+1=kindOf ((Lib.split s F6).getD 0 []):=rfl;generalize hl:Lib.split s F6=l at *
  have cZ:r7 .i64 (kindOf (l.getD 0 [])):=F0.2 (by omega);have fin:∀ {y:Ah×Int},AH l=y->((y.1,y.2,()):Ah×Int×Unit)=((R7 s).1,(R7 s).2,()):=λ e=>by rw [hd,e]
  have hr:AH l=if (l.length:Int)≠3 then ((0,0,0,()),12) else if kindOf (l.getD 0 [])=0 then ((0,0,0,()),12) else if (J7 (l.getD 1 [])).2=false then ((0,0,0,()),12) else if (J7 (l.getD 2 [])).2=false then ((0,0,0,()),12) else if Y1 (J7 (l.getD 1 [])).1 0 9=false then ((0,0,0,()),1) else if kindOf (l.getD 0 [])=4/\Y1 (J7 (l.getD 2 [])).1 0 9=false then ((0,0,0,()),1) else ((kindOf (l.getD 0 []),(J7 (l.getD 1 [])).1,(J7 (l.getD 2 [])).1,()),0):=rfl
  simp only [j6,Tree.holds,Int.reduceToNat,eS,sL];refine ⟨⟨hp,by decide⟩,λ _=>⟨λ h3=>?_,λ h3=>?_⟩⟩
  . exact fin (by rw [hr,if_pos h3])
  . rw [if_neg h3] at hr;have h3:(l.length:Int)=3:=by omega
    refine ⟨by omega,λ _=>⟨cZ,λ _=>⟨by omega,λ _=>⟨e1,λ _=>⟨by omega,λ _=>⟨e2,λ _=>⟨λ g1=>?_,λ g1=>?_⟩⟩⟩⟩⟩⟩⟩
    . exact fin (by rw [hr,if_pos g1])
    rw [if_neg g1] at hr;refine ⟨λ g2=>?_,λ g2=>?_⟩
    . exact fin (by rw [hr,if_pos (by simpa using g2)])
    rw [if_neg (by simpa using g2)] at hr;refine ⟨λ g3=>?_,λ g3=>?_⟩
    . exact fin (by rw [hr,if_pos (by simpa using g3)])
    rw [if_neg (by simpa using g3)] at hr;refine ⟨λ g4=>?_,λ g4=>?_⟩
    . exact fin (by rw [hr,if_pos (by simpa using g4)])
    rw [if_neg (by simpa using g4)] at hr;refine ⟨λ g5=>⟨λ g6=>?_,λ g6=>?_⟩,λ g5=>?_⟩
    . exact fin (by rw [hr,if_pos ⟨g5,by simpa using g6⟩])
    . exact fin (by rw [hr,if_neg (λ h=>by rw [h.2] at g6; cases g6)])
    . exact fin (by rw [hr,if_neg (λ h=>g5 h.1)])
theorem UF {s:vN} (h:(R7 s).2=0):(0<=(R7 s).1.2.1/\(R7 s).1.2.1<10)/\((R7 s).1.1=4->0<=(R7 s).1.2.2.1/\(R7 s).1.2.2.1<10)/\1<=(R7 s).1.1:=by
  unfold R7 AH at h ⊢;split at h
  . cases h
  rename_i h1;rw [if_neg h1];split at h
  . cases h
  rename_i h2;rw [if_neg h2];split at h
  . cases h
  rename_i h3;rw [if_neg h3];split at h
  . cases h
  rename_i h4;rw [if_neg h4];split at h
  . cases h
  rename_i h5;rw [if_neg h5];split at h
  . cases h
  rename_i h6;rw [if_neg h6];have h5:Y1 (J7 ((Lib.split s F6).getD 1 [])).1 0 9=true:=by
    cases e:Y1 (J7 ((Lib.split s F6).getD 1 [])).1 0 9 with
    | true=>rfl
    | false=>exact absurd e h5
  have h5:=wv.1 h5;refine ⟨⟨h5.1,Int.lt_of_le_of_lt h5.2 (by decide)⟩,λ h7=>?_,?_⟩
  . have h8:Y1 (J7 ((Lib.split s F6).getD 2 [])).1 0 9=true:=by
      cases e:Y1 (J7 ((Lib.split s F6).getD 2 [])).1 0 9 with
      | true=>rfl
      | false=>exact absurd ⟨h7,e⟩ h6
    have h8:=wv.1 h8;exact ⟨h8.1,Int.lt_of_le_of_lt h8.2 (by decide)⟩
  . have:=(Mv ((Lib.split s F6).getD 0 [])).1;show 1<=kindOf _;omega
def xI (a:List Int×Int) (s:vN):List Int×Int:=if (R7 s).2=0 then (zn a.1 (R7 s).1,a.2) else (a.1,a.2+1)
def V3 (v:List Int) (l:List vN):List Int×Int:=l.foldl xI (v,0)
def Fb:o7:={ ps:=[.v uU,.v (.d0 false .str)],rs:=[uU,e8],pre:=λ x=>∀ s∈(show List vN from x.2.1),s.length<=4294967280,fn:=λ x=>((V3 x.1 x.2.1).1,(V3 x.1 x.2.1).2,()),out:=λ _=>() }
noncomputable def Cu:Env:={ P:=Tryz.prog,tt:=tt,C5:=[(73,Fe),(74,Fh)],res:=[Go.ResultVar.cell 4 60,Go.ResultVar.tmp 5],rs:=[Ty.arr 10 e8,Ty.int IntKind.i64],ps:=[PK.v uU,PK.v (Ty.d0 false Ty.str)],y9:=[(3,[(2,none),(4,none),(6,none),(11,none),(12,none),(13,none)])],nt:=31 }
theorem HO:w5 Cu:=x6 p9 ⟨ZV,c09,trivial⟩
theorem HX:B0 Cu Tryz.f57:=⟨rfl,rfl⟩
theorem Ud (x0:List Int) (x1:List yY):exec Cu 1000 [.code (d8 Tryz.prog 57)] (s7 Fb.ps ((x0,x1,()))) =
  .ctL (g8 (d8 Tryz.prog 57) 3) (St.mk [(2,AV.ptr 2 []),(4,AV.ptr 4 []),(6,AV.val e8 (0:Int)),(11,AV.val (Ty.d0 false Ty.str) x1),(12,AV.val e8 (↑(List.length x1):Int)),(13,AV.val e8 (0:Int))] [(2,g9.var uU x0),(4,g9.var uU [(0:Int),(0:Int),(0:Int),(0:Int),(0:Int),(0:Int),(0:Int),(0:Int),(0:Int),(0:Int)])]):=by kernel_rfl
def NG (v6:Int) (v11:List yY) (v12:Int) (uF:Int) (o2:List Int) (o4:List Int):St:=St.mk [(2,AV.ptr 2 []),(4,AV.ptr 4 []),(6,AV.val e8 v6),(11,AV.val (Ty.d0 false Ty.str) v11),(12,AV.val e8 v12),(13,AV.val e8 uF)] [(2,g9.var uU o2),(4,g9.var uU o4)]
theorem VY (v6:Int) (v11:List yY) (v12:Int) (uF:Int) (o2:List Int) (o4:List Int):exec Cu 1000 (.code (g8 (d8 Tryz.prog 57) 3).1::.inLoop (g8 (d8 Tryz.prog 57) 3).1::(g8 (d8 Tryz.prog 57) 3).2) (NG v6 v11 v12 uF o2 o4) =
  cond (decide (uF<v12)) (.f7 ((0:Int)<=uF/\uF<(↑(List.length v11):Int)) (.f7 (List.length (List.getD v11 (Int.toNat uF) [])<=4294967280) (cond (decide (Prod.snd (R7 (List.getD v11 (Int.toNat uF) []))≠(0:Int))) (.f7 (r7 IntKind.i64 (v6+(1:Int))) (.f7 (r7 IntKind.i64 (uF+(1:Int))) (.ctL (g8 (d8 Tryz.prog 57) 3) (St.mk [(2,AV.ptr 2 []),(4,AV.ptr 4 []),(6,AV.val e8 (v6+(1:Int))),(11,AV.val (Ty.d0 false Ty.str) v11),(12,AV.val e8 v12),(13,AV.val e8 (uF+(1:Int)))] [(2,g9.var uU o2),(4,g9.var uU o4)])))) (.f7 (((0:Int)<=Prod.fst (Prod.snd (Prod.fst (R7 (List.getD v11 (Int.toNat uF) []))))/\Prod.fst (Prod.snd (Prod.fst (R7 (List.getD v11 (Int.toNat uF) []))))<(10:Int))/\(Prod.fst (Prod.fst (R7 (List.getD v11 (Int.toNat uF) [])))=(4:Int)->(0:Int)<=Prod.fst (Prod.snd (Prod.snd (Prod.fst (R7 (List.getD v11 (Int.toNat uF) [])))))/\Prod.fst (Prod.snd (Prod.snd (Prod.fst (R7 (List.getD v11 (Int.toNat uF) [])))))<(10:Int))) (.f7 (r7 IntKind.i64 (uF+(1:Int))) (.ctL (g8 (d8 Tryz.prog 57) 3) (St.mk [(2,AV.ptr 2 []),(4,AV.ptr 4 []),(6,AV.val e8 v6),(11,AV.val (Ty.d0 false Ty.str) v11),(12,AV.val e8 v12),(13,AV.val e8 (uF+(1:Int)))] [(2,g9.var uU (zn o2 (Prod.fst (R7 (List.getD v11 (Int.toNat uF) []))))),(4,g9.var uU o4)]))))))) (.ret ((o2,v6,()))):=by kernel_rfl
theorem c0i {l:List vN}:∀ {a:List Int×Int},a.2<=(l.foldl xI a).2/\(l.foldl xI a).2<=a.2+l.length:=by
  induction l with
  | nil=>intro a; simp
  | cons s l ih =>
    intro a;have:=ih (a:=xI a s);rw [List.foldl_cons,List.length_cons];unfold xI at this ⊢;split at this
    . rename_i h; rw [if_pos h]; have:=this; simp only at this; omega
    . rename_i h; rw [if_neg h]; have:=this; simp only at this; omega
theorem ZB {v:List Int} {l:List vN} {k:Nat} (hk:k<l.length):V3 v (l.take (k+1))=xI (V3 v (l.take k)) (l.getD k []):=by
  unfold V3;rw [List.take_add_one,List.foldl_append,List.getElem?_eq_getElem hk,List.getD_eq_getElem?_getD,List.getElem?_eq_getElem hk];rfl
theorem c1G:Fb.Valid Tryz.prog 57:=by
  refine o7.n8 HO rfl rfl Tryz.func57 (c:=d8 Tryz.prog 57) rfl rfl HX rfl ?_;rintro ⟨(v:List Int),(l:List vN),⟨⟩⟩ (hp:∀ s∈l,s.length<=4294967280) ⟨-,hr,-⟩;have hlen:l.length<=9223372036854775807:=hr.1;refine j8 (n:=1000) HO HX ?_;refine i7 (Ud v l) ?_;refine Reach.M0 HO HX (λ k:Nat=>NG (V3 v (l.take k)).2 l (l.length:Int) (k:Int) (V3 v (l.take k)).1 (List.replicate 10 0)) (λ k=>k<=l.length) (λ k=>l.length - k) 1000 (λ _=>⟨s6 rfl,s6 rfl⟩) ?_ 0 (by omega);rintro k hk - ih;have hk:k<=l.length:=hk;refine i7 (VY ..) ?_;have hb:=c0i (l:=l.take k) (a:=(v,0));have hb:0<=(V3 v (l.take k)).2/\(V3 v (l.take k)).2<=k:=by
    have e:(V3 v (l.take k)).2=((l.take k).foldl xI (v,0)).2:=rfl;rw [e]; rw [List.length_take] at hb;simp only at hb; omega
  simp only [j6,Tree.holds,sL];refine ⟨λ c=>⟨by omega,λ _=>?_⟩,λ c=>?_⟩
  . have pr:k<l.length:=by omega
    have hm:l.getD k []∈l:=by rw [List.getD_eq_getElem?_getD,List.getElem?_eq_getElem pr]; exact List.getElem_mem pr
    have ht:=ZB (v:=v) pr;have nx:=ih (k+1) (by omega) (by omega);rw [ht] at nx;unfold xI at nx;refine ⟨hp _ hm,λ _=>⟨λ e=>⟨by omega,λ _=>⟨by omega,λ _=>?_⟩⟩,λ e=>?_⟩⟩
    . rw [if_neg e] at nx;exact nx
    . have e:(R7 (l.getD k [])).2=0:=by omega
      obtain ⟨r1,r2,-⟩:=UF e;rw [if_pos e] at nx;exact ⟨⟨r1,r2⟩,λ _=>⟨by omega,λ _=>nx⟩⟩
  . have:k=l.length:=by omega
    subst this;rw [List.take_length]; rfl
def zeroV:List Int:=[0,0,0,0,0,0,0,0,0,0]
def Y3 (l:List D4):List yY:=l.map (λ s=>s.2.1)
def vS (w:f8) (p:Int):List Int×Int×Unit:=if known w p≠0 then (zeroV,known w p,()) else ((V3 zeroV (Y3 (R8 w p))).1,0,())
def Df:o7:={ ps:=[.rd K8,.v e8],rs:=[uU,e8],pre:=λ x=>List.length (α:=n7) (x.1:f8).2.1<=6/\List.length (α:=D4) (R8 x.1 x.2.1)<=5864062014805/\∀ s∈R8 x.1 x.2.1,s.2.1.length<=4294967280,fn:=λ x=>vS x.1 x.2.1,out:=λ _=>() }
noncomputable def AW:Env:={ P:=Tryz.prog,tt:=tt,C5:=[(19,As),(57,Fb)],res:=[Go.ResultVar.cell 4 60,Go.ResultVar.tmp 5],rs:=[Ty.arr 10 e8,Ty.int IntKind.i64],ps:=[PK.rd K8,PK.v e8],y9:=[(6,[(4,none),(8,some (Ty.d0 true Ty.str)),(23,some (Ty.d0 true r8)),(24,none),(25,none)])],nt:=42 }
theorem JH:w5 AW:=x6 p9 ⟨Kj,c1G,trivial⟩
theorem JL:B0 AW Tryz.f30:=⟨rfl,rfl⟩
theorem XE (ai:Int) (af:Int) (ab:List n7) (ae:List yY) (aa:List yY) (x1:Int):exec AW 1000 [.code (d8 Tryz.prog 30)] (s7 Df.ps ((((ai,af,()),ab,ae,aa,()),x1,()))) =
  .f7 (List.length ab<=6/\List.length (R8 ((ai,af,()),ab,ae,aa,()) x1)<=5864062014805) (cond (decide (Prod.fst (Prod.snd (V0 ((ai,af,()),ab,ae,aa,()) x1))≠(0:Int))) (.ret (([(0:Int),(0:Int),(0:Int),(0:Int),(0:Int),(0:Int),(0:Int),(0:Int),(0:Int),(0:Int)],Prod.fst (Prod.snd (V0 ((ai,af,()),ab,ae,aa,()) x1)),()))) (.ctL (g8 (d8 Tryz.prog 30) 6) (St.mk [(4,AV.ptr 4 []),(8,AV.at_ 1000008 []),(23,AV.at_ 1000023 []),(24,AV.val e8 (↑(List.length (Prod.fst (V0 ((ai,af,()),ab,ae,aa,()) x1))):Int)),(25,AV.val e8 (0:Int))] [(4,g9.var uU [(0:Int),(0:Int),(0:Int),(0:Int),(0:Int),(0:Int),(0:Int),(0:Int),(0:Int),(0:Int)]),(1000008,g9.own (Ty.d0 true Ty.str) []),(1000023,g9.own (Ty.d0 true r8) (Prod.fst (V0 ((ai,af,()),ab,ae,aa,()) x1)))]))):=by kernel_rfl
def JI (v24:Int) (vZ:Int) (o4:List Int) (ec:List yY) (dZ:List (Int×yY×Unit)):St:=St.mk [(4,AV.ptr 4 []),(8,AV.at_ 1000008 []),(23,AV.at_ 1000023 []),(24,AV.val e8 v24),(25,AV.val e8 vZ)] [(4,g9.var uU o4),(1000008,g9.own (Ty.d0 true Ty.str) ec),(1000023,g9.own (Ty.d0 true r8) dZ)]
theorem XN (v24:Int) (vZ:Int) (o4:List Int) (ec:List yY) (dZ:List (Int×yY×Unit)):exec AW 1000 (.code (g8 (d8 Tryz.prog 30) 6).1::.inLoop (g8 (d8 Tryz.prog 30) 6).1::(g8 (d8 Tryz.prog 30) 6).2) (JI v24 vZ o4 ec dZ) =
  cond (decide (vZ<v24)) (.f7 ((0:Int)<=vZ/\vZ<(↑(List.length dZ):Int)) (.f7 (List.length ec+List.length (List.set [[]] (Int.toNat (↑0:Int)) (Prod.fst (Prod.snd (List.getD dZ (Int.toNat vZ) ((0:Int),[],())))))<=140737488355328/\(List.length ec+List.length (List.set [[]] (Int.toNat (↑0:Int)) (Prod.fst (Prod.snd (List.getD dZ (Int.toNat vZ) ((0:Int),[],()))))))*Ty.wb Ty.str<=140737488355328) (.f7 (r7 IntKind.i64 (vZ+(1:Int))) (.ctL (g8 (d8 Tryz.prog 30) 6) (St.mk [(4,AV.ptr 4 []),(8,AV.at_ 1000008 []),(23,AV.at_ 1000023 []),(24,AV.val e8 v24),(25,AV.val e8 (vZ+(1:Int)))] [(4,g9.var uU o4),(1000008,g9.own (Ty.d0 true Ty.str) (ec++List.set [[]] (Int.toNat (↑0:Int)) (Prod.fst (Prod.snd (List.getD dZ (Int.toNat vZ) ((0:Int),[],())))))),(1000023,g9.own (Ty.d0 true r8) dZ)]))))) (.f7 (∀ (s:vN),s∈ec->List.length s<=4294967280) (.ret ((Prod.fst (V3 [(0:Int),(0:Int),(0:Int),(0:Int),(0:Int),(0:Int),(0:Int),(0:Int),(0:Int),(0:Int)] ec),(0:Int),())))):=by kernel_rfl
theorem Vq {w:f8} {p:Int} (h:¬ (V0 w p).2.1≠0):(V0 w p).1=R8 w p/\¬ known w p≠0:=by
  unfold V0 at h ⊢;split at h
  . rename_i h1; exact absurd h1 h
  . rename_i h1; rw [if_neg h1]; exact ⟨rfl,h1⟩
theorem Na {w:f8} {p:Int} (h:(V0 w p).2.1≠0):known w p≠0/\(V0 w p).2.1=known w p:=by
  unfold V0 at h ⊢;split at h
  . rename_i h1; rw [if_pos h1]; exact ⟨h1,rfl⟩
  . rename_i h1; exact absurd rfl h
attribute [local irreducible] V0 V3 vS in
theorem b75:Df.Valid Tryz.prog 30:=by
  refine o7.n8 JH rfl rfl Tryz.func30 (c:=d8 Tryz.prog 30) rfl rfl JL rfl ?_;rintro ⟨⟨⟨(v0:Int),(v1:Int),⟨⟩⟩,(al:List n7),(od:List yY),(wy:List yY),⟨⟩⟩,(p:Int),⟨⟩⟩ ⟨(hp:al.length<=6),(hl:(R8 ((v0,v1,()),al,od,wy,()) p).length<=5864062014805),(ht:∀ s∈R8 ((v0,v1,()),al,od,wy,()) p,s.2.1.length<=4294967280)⟩ -
  refine j8 (n:=1000) JH JL ?_;refine i7 (XE v0 v1 al od wy p) ?_;simp only [j6,Tree.holds,sL];have key:∀ r:List Int×Int×Unit,vS ((v0,v1,()),al,od,wy,()) p=r->r=vS ((v0,v1,()),al,od,wy,()) p:=by rintro r rfl; rfl
  have e1:=λ a=>(vS.eq_1 ((v0,v1,()),al,od,wy,()) p).trans (if_pos a);have e2:=λ a=>(vS.eq_1 ((v0,v1,()),al,od,wy,()) p).trans (if_neg a);refine ⟨⟨hp,hl⟩,λ _=>⟨λ a=>key _ ?_,λ a=>?_⟩⟩
  . rw [e1 (Na a).1,(Na a).2]; rfl
  obtain ⟨g1,g2⟩:=Vq a;rw [g1];have e3:=e2 g2;obtain ⟨l,jQ⟩:∃ l,l=R8 ((v0,v1,()),al,od,wy,()) p:=⟨_,rfl⟩;rw [<- jQ] at hl ht e3 ⊢;have key2:Df.fn (((v0,v1,()),al,od,wy,()),p,())=((V3 zeroV (Y3 l)).1,0,()):=e3;suffices go:Go.Ex.Reach AW Tryz.f30 ((V3 zeroV (Y3 l)).1,(0:Int),()) () (.code (g8 (d8 Tryz.prog 30) 6).1::.inLoop (g8 (d8 Tryz.prog 30) 6).1::(g8 (d8 Tryz.prog 30) 6).2) (JI (l.length:Int) ((0:Nat):Int) zeroV (Y3 (l.take 0)) l) by
    rw [e3]; exact go
  refine Reach.M0 JH JL (λ i:Nat=>JI (l.length:Int) (i:Int) zeroV (Y3 (l.take i)) l) (λ i=>i<=l.length) (λ i=>l.length - i) 1000 (λ _=>⟨s6 rfl,s6 rfl⟩) ?_ 0 (Nat.zero_le _);rintro i k1 - ih;have k1:i<=l.length:=k1;refine i7 (XN ..) ?_;have e4:((i:Nat):Int)+1=((i+1:Nat):Int):=by omega
  have ij:Ty.wb .str=16:=rfl;have hlen:(Y3 (l.take i)).length=i:=by unfold Y3; rw [List.length_map,List.length_take]; omega
  simp only [j6,Tree.holds,e4,hlen,ij,sL];refine ⟨λ c=>⟨by omega,λ _=>⟨by omega,λ _=>⟨F0.2 ⟨by omega,by omega⟩,λ _=>?_⟩⟩⟩,λ c=>⟨?_,λ _=>?_⟩⟩
  . have:=ih (i+1) (by show i+1<=l.length; omega) (by show l.length - (i+1)<l.length - i; omega);rw [show Y3 (l.take (i+1))=Y3 (l.take i)++[(l.getD i (0,[],())).2.1] by
      unfold Y3;rw [Ew (show i<l.length by omega) (0,[],()),List.map_append]; rfl] at this
    exact this
  . intro s hs;unfold Y3 at hs;obtain ⟨y,hy,rfl⟩:=List.mem_map.1 hs;exact ht y (List.mem_of_mem_take hy)
  . obtain rfl:i=l.length:=by omega
    rw [List.take_length]; rfl
end Go.Proofs.YtijlnmgondibnaaGreatDoor
namespace Go.Proofs.YtijlnmgondibnaaGreatDoor
open Go.Ex
set_option maxRecDepth 100000
structure Sz (c:Nat) (w:f8):Prop where
  log:∀ i:Nat,(w.2.1.getD i j7).2.1.length<=c
  ord:w.2.2.1.length<=c
  txt:∀ i:Nat,∀ s∈(w.2.1.getD i j7).2.1,s.2.1.length<=200
  late:∀ i:Nat,(w.2.1.getD i j7).2.2.1.2.1.length<=16
theorem Sz.mono {c d:Nat} {w:f8} (h:Sz c w) (hd:c<=d):Sz d w:=⟨λ i=>Nat.le_trans (h.log i) hd,Nat.le_trans h.ord hd,h.txt,h.late⟩
structure L8 (k:Nat) (w w':f8):Prop where
  view:w'.1=w.1
  len:w'.2.1.length=w.2.1.length
  log:∀ i:Nat,(w.2.1.getD i j7).2.1 <+: (w'.2.1.getD i j7).2.1
  fal:∀ i:Nat,(w'.2.1.getD i j7).1=(w.2.1.getD i j7).1
  sz:∀ c,Sz c w->Sz (c+k) w'
theorem L8.same {w w':f8} (h1:w'.1=w.1) (h2:w'.2.1=w.2.1) (h3:w'.2.2.1=w.2.2.1):L8 0 w w' :=
  ⟨h1,by rw [h2],λ i=>by rw [h2]; exact List.prefix_rfl,λ i=>by rw [h2],λ c h=>⟨by rw [h2]; exact h.log,by rw [h3]; exact h.ord,by rw [h2]; exact h.txt,by rw [h2]; exact h.late⟩⟩
theorem L8.more {k l:Nat} {w w':f8} (h:L8 k w w') (hl:k<=l):L8 l w w':=⟨h.view,h.len,h.log,h.fal,λ c hc=>(h.sz c hc).mono (by omega)⟩
theorem L8.trans {k l:Nat} {w w' w'':f8} (h:L8 k w w') (h':L8 l w' w''):L8 (k+l) w w'' :=
  ⟨h'.view.trans h.view,h'.len.trans h.len,λ i=>(h.log i).trans (h'.log i),λ i=>(h'.fal i).trans (h.fal i),λ c hc=>by rw [<- Nat.add_assoc]; exact h'.sz _ (h.sz c hc)⟩
theorem V9.CJ {P:B8->Prop} {w w':f8} (h:V9 P w w'):L8 0 w w':=.same h.view h.all h.ord
theorem L8.set {k:Nat} {w:f8} {p:Nat} {x:n7} (h1:(w.2.1.getD p j7).2.1 <+: x.2.1) (h2:x.1=(w.2.1.getD p j7).1) (h3:x.2.1.length<=(w.2.1.getD p j7).2.1.length+k)
    (h4:(∀ s∈(w.2.1.getD p j7).2.1,s.2.1.length<=200)->∀ s∈x.2.1,s.2.1.length<=200) (h5:(w.2.1.getD p j7).2.2.1.2.1.length<=16->x.2.2.1.2.1.length<=16):L8 k w (w.1,w.2.1.set p x,w.2.2):=by
  have hg:∀ i,(w.2.1.set p x).getD i j7=x/\p=i\/(w.2.1.set p x).getD i j7=w.2.1.getD i j7:=λ i=>by
    rw [Q0]
    split
    . rename_i e; exact .inl ⟨rfl,e.1⟩
    . exact .inr rfl
  refine ⟨rfl,List.length_set ..,λ i=>?_,λ i=>?_,λ c hc=>⟨λ i=>?_,Nat.le_trans hc.ord (Nat.le_add_right _ _),λ i=>?_,λ i=>?_⟩⟩
  . rcases hg i with ⟨e,rfl⟩|e
    . show _ <+: ((w.2.1.set p x).getD p j7).2.1; rw [e]; exact h1
    . show _ <+: ((w.2.1.set p x).getD i j7).2.1; rw [e]; exact List.prefix_rfl
  . rcases hg i with ⟨e,rfl⟩|e
    . show ((w.2.1.set p x).getD p j7).1=_; rw [e]; exact h2
    . show ((w.2.1.set p x).getD i j7).1=_; rw [e]
  . rcases hg i with ⟨e,rfl⟩|e
    . show ((w.2.1.set p x).getD p j7).2.1.length<=_; rw [e]; have:=hc.log p; omega
    . show ((w.2.1.set p x).getD i j7).2.1.length<=_; rw [e]; have:=hc.log i; omega
  . rcases hg i with ⟨e,rfl⟩|e
    . show ∀ s∈((w.2.1.set p x).getD p j7).2.1,_; rw [e]; exact h4 (hc.txt p)
    . show ∀ s∈((w.2.1.set p x).getD i j7).2.1,_; rw [e]; exact hc.txt i
  . rcases hg i with ⟨e,rfl⟩|e
    . show ((w.2.1.set p x).getD p j7).2.2.1.2.1.length<=_; rw [e]; exact h5 (hc.late p)
    . show ((w.2.1.set p x).getD i j7).2.2.1.2.1.length<=_; rw [e]; exact hc.late i
theorem QL {w:f8} {k f t q:Int} {x:C0}:L8 0 w (J5 w k f t q x):=by
  obtain ⟨h1,h2,h3⟩:=Ca (w:=w) (k:=k) (f:=f) (t:=t) (s:=q) (x:=x);exact .same h2 h1 h3
theorem Rk (w:f8) (p:Int) (t:C0):L8 0 w (Q4 w p t).1:=by
  rw [Q4]
  split
  . exact .same rfl rfl rfl
  split
  . exact .same rfl rfl rfl
  split
  . exact .same rfl rfl rfl
  split
  . exact .same rfl rfl rfl
  . rename_i hl;obtain ⟨g1,g2,g3⟩:=Ih hl;have aM:=Z7 g2;refine L8.trans (w':=setFrom w p (K3 (I5 w p) t).1) (k:=0) ?_ QL;refine L8.set (k:=0) List.prefix_rfl rfl (Nat.le_refl _) id (λ _=>?_);rw [g1]; exact aM.2.1
theorem So (w:f8) (p:Int):L8 0 w (V5 w p).1:=by
  rw [V5]
  split
  . exact .same rfl rfl rfl
  . obtain ⟨h1,h2,h3⟩:=KM (p:=p) (l:=xK w p) (w:=w) (xK w p).length;exact (L8.same h2 h1 h3).trans QL
theorem b7Q (w:f8) (n:B8):L8 16 w (X0 w n):=by
  rw [X0]
  split
  . exact (L8.same rfl rfl rfl).more (by omega)
  . rename_i he;obtain ⟨-,-,a3,-⟩:=yM (Decidable.not_not.1 he);have h0:L8 0 w (xZ w n.2.1 (xP (N6 w n.2.1) (Y5 w n).1)):=L8.set List.prefix_rfl rfl (Nat.le_refl _) id id;obtain ⟨h1,h2,h3⟩:=Kk (f:=n.2.1) (first:=(N6 w n.2.1).2.2.2.2.1.1) (l:=(Y5 w n).2.1) (w:=xZ w n.2.1 (xP (N6 w n.2.1) (Y5 w n).1)) (Y5 w n).2.1.length;refine (h0.trans (l:=16) ⟨h2,by rw [h1],λ i=>by rw [h1]; exact List.prefix_rfl,λ i=>by rw [h1],λ c hc=>⟨λ i=>?_,?_,by rw [h1]; exact hc.txt,by rw [h1]; exact hc.late⟩⟩).more (by omega)
    . rw [h1]; have:=hc.log i; omega
    . rw [h3];have:=hc.ord;have a3:(Y5 w n).2.1.length<=16:=a3;omega
theorem b7V {s:vy} {x:Int} (h:(Q8 s x).2.1=0):(Q8 s x).1.2.1.length<=s.2.1.length:=by
  unfold Q8 at h ⊢
  split
  . rename_i h1; rw [if_pos h1] at h; exact absurd h h1
  . rename_i h1;rw [if_neg h1] at h
    split
    . rename_i h2; rw [if_pos h2] at h; exact absurd h (by decide)
    . exact List.length_drop ..▸Nat.sub_le _ _
theorem b7Z (q:Int) (x:n7) (t:C0):(vF q x t).1=x.1/\(x.2.2.1.2.1.length<=16->(vF q x t).2.2.1.2.1.length<=16):=by
  by_cases h:who t=q/\(Q8 x.2.2.1 (nth t+1)).2.1=0
  . rw [Ju h.1 h.2];exact ⟨rfl,λ h2=>Nat.le_trans (b7V h.2) h2⟩
  . rw [DV h];exact ⟨rfl,id⟩
theorem XG (t:C0):(wF t).length<=t.length:=by
  unfold wF;exact Nat.le_trans (Bv _).2 (Bv _).2
theorem Tm {q:Int} {x:n7} {l:List C0} (hl:∀ t∈l,E2 t=false):∀ {i},i<=l.length->x.2.1 <+: (K0 q x l i).2.1/\(K0 q x l i).1=x.1/\(x.2.2.1.2.1.length<=16->(K0 q x l i).2.2.1.2.1.length<=16) /\
    ((∀ s∈x.2.1,s.2.1.length<=200)->∀ s∈(K0 q x l i).2.1,s.2.1.length<=200)
  | 0,_=>⟨List.prefix_rfl,rfl,id,id⟩
  | i+1,hi=>by
    obtain ⟨h1,h2,h3,h4⟩:=Tm (q:=q) (x:=x) hl (show i<=l.length by omega);obtain ⟨g1,g2⟩:=b7Z q (K0 q x l i) (l.getD i []);have g3:=Qj q (K0 q x l i) (l.getD i []);rw [K0];refine ⟨h1.trans (by rw [g3]; exact List.prefix_append ..),g1.trans h2,λ h=>g2 (h3 h),λ h s hs=>?_⟩;rw [g3] at hs;rcases List.mem_append.1 hs with hs|hs
    . exact h4 h s hs
    . rw [List.mem_singleton] at hs;rw [hs];have hm:l.getD i []∈l:=by rw [List.getD_eq_getElem?_getD,List.getElem?_eq_getElem (by omega)]; exact List.getElem_mem _
      exact Nat.le_trans (XG _) (Jw (hl _ hm))
theorem c0b (w:f8) (n:B8):L8 16 w (vg w n):=by
  rw [vg]
  split
  . exact (L8.same rfl rfl rfl).more (by omega)
  . rename_i he;obtain ⟨a1,-,a3,-⟩:=yM (Decidable.not_not.1 he);obtain ⟨h1,h2,h3,h4⟩:=Tm (q:=n.2.2.1) (x:=AJ (N6 w n.2.2.1) (Q6 w n).1) (λ t ht=>(a1 t ht).2) (Nat.le_refl (Q6 w n).2.1.length);have h5:=KF (q:=n.2.2.1) (x:=AJ (N6 w n.2.2.1) (Q6 w n).1) (l:=(Q6 w n).2.1) (Q6 w n).2.1.length;refine L8.set (k:=16) h1 h2 ?_ h4 h3;rw [h5];have a3:(Q6 w n).2.1.length<=16:=a3;exact Nat.add_le_add_left a3 _
theorem b4m (w:f8) (n:B8):L8 16 w (F9 w n):=by
  rw [F9]
  split
  . exact (L8.same rfl rfl rfl).more (by omega)
  split
  . exact b7Q w n
  split
  . obtain ⟨h1,h2,h3⟩:=zX (w:=w) (n:=n) 4;exact (L8.same h2 h1 h3).more (by omega)
  split
  . exact c0b w n
  . exact (L8.same rfl rfl rfl).more (by omega)
theorem Sa (w:f8) (k bu:Int):L8 16 w (C7 w k bu).1:=by
  have h0:L8 16 w w:=(L8.same rfl rfl rfl).more (by omega);rw [C7]
  split
  . exact h0
  split
  . exact h0
  split
  . exact h0
  split
  . exact (L8.same (w:=w) (w':=De w k.toNat) rfl rfl rfl).more (Nat.zero_le 16)
  . refine (L8.trans (k:=0) (l:=16) (w':=yp w k) (L8.same (w:=w) (w':=yp w k) rfl rfl rfl) ?_).more (Nat.le_refl 16);show L8 16 (yp w k) (wN (yp w k) bu (w.2.2.2.1.getD k.toNat []));rw [wN]
    split
    . exact b4m _ _
    . exact (L8.same rfl rfl rfl).more (by omega)
abbrev H9:=Int×Int×Int×yY×Unit
def R4 (w:f8) (d:H9):f8×Int :=
  if d.1=1 then Q4 w d.2.1 d.2.2.2.1 else if d.1=2 then V5 w d.2.1 else if d.1=3 then C7 w d.2.1 d.2.2.1 else if d.1=4 then vu w d.2.1 else if d.1=5 then S7 w else (w,1)
structure Ok (c:Nat) (said:Nat->List C0) (w:f8):Prop where
  mem:0<=w.1.2.1/\w.1.2.1<=255
  sz:Sz c w
  inv:∃ B S Q,Inv said B S Q w
structure Good (w:f8):Prop where
  move:zL w
  change:yI w
theorem Ok.M1 {c:Nat} {said:Nat->List C0} {w:f8} (h:Ok c said w):w.2.1.length<=6:=by
  obtain ⟨B,S,Q,hI⟩:=h.inv;exact hI.M1
theorem Inv.note {said:Nat->List C0} {B:List D4} {S:Nat->List C0} {Q:List V1} {w:f8} (h:Inv said B S Q w) {s:C0} (hs:s∈w.2.2.2.1) (h1:(w8 s).2.1=0) (h2:(w8 s).1.2.2.2.1=w.1.1) (h3:s5 w (w8 s).1.2.2.1=true) {c:Nat} (hc:Sz c w) (dH:c<=1000000000000):wO w (w8 s).1:=by
  obtain ⟨p,hp,bW,hv,-⟩:=BU.1 h3;obtain ⟨⟨m,hM⟩,-⟩:=h.mem p bW hv;have hm:=(h.msg s hs h1).2 h2;refine ⟨h.M1,by omega,Pu h1,?_,Nat.le_trans hc.ord dH,λ hk t ht=>?_⟩
  . rw [hp]; exact Nat.le_trans (hc.log p) dH
  . have cE:N6 w (w8 s).1.2.2.1=w.2.1.getD p j7:=by rw [hp]; rfl
    unfold Q6 at ht;rw [cE] at ht;have cZ:∃ i:Nat,(N9 Q)[i]?=some t:=by
      by_cases he:(D6 (w.2.1.getD p j7).2.2.2.1 ((w8 s).1.2.2.2.2.1,(w8 s).1.2.2.2.2.2.2.1,())).2.2.1=0
      . obtain ⟨a1,-⟩:=yM he;rcases (a1 t ht).1 with e|⟨q,hq,e⟩
        . refine ⟨(w8 s).1.2.2.2.2.1.toNat,?_⟩;rw [e,<- h.ord];exact hm.2 hk
        . exact ⟨_,by rw [e]; exact hM.wait q hq⟩
      . rw [YG he] at ht; cases ht
    obtain ⟨i,hi⟩:=cZ;rw [QQ] at hi;cases hQ:Q[i]? with
    | none=>rw [hQ] at hi; cases hi
    | some y =>
      rw [hQ] at hi;have e:I7 y.1 (C1 y.1 (Q.take i)).length y.2=t:=by simpa using hi
      have hy:=h.le5 y (List.mem_of_getElem? hQ);have h5:=((yP (p:=y.1) (Q:=Q) (i:=i)).trans (h.zl y.1)).length_le;have h6:=h.short y.1;exact ⟨y.1,_,y.2,hy,by omega,e.symm⟩
theorem Ok.zd {c:Nat} {said:Nat->List C0} {w:f8} (h:Ok c said w) (hc:c<=1000000000000):Good w:=by
  obtain ⟨B,S,Q,hI⟩:=h.inv;exact ⟨⟨hI.M1,hI.way,λ s hs h1 h2 h3=>hI.note hs h1 h2 h3 h.sz hc⟩,hI.M1,λ i=>Nat.le_trans (h.sz.log i) (by omega),λ i=>Nat.le_trans (h.sz.late i) (by omega)⟩
def vK (said:Nat->List C0) (d:H9) (e:Int):Nat->List C0:=if d.1=1/\e=0 then vf said d.2.1.toNat (said d.2.1.toNat++[d.2.2.2.1]) else said
structure yj (c:Nat) (said:Nat->List C0) (w:f8) (d:H9) (w':f8) (e:Int):Prop where
  ok:Ok (c+16) (vK said d e) w'
  len:w'.2.1.length=w.2.1.length
  log:∀ i:Nat,(w.2.1.getD i j7).2.1 <+: (w'.2.1.getD i j7).2.1
  fal:∀ i:Nat,i<w.2.1.length->(w'.2.1.getD i j7).1=((w.2.1.getD i j7).1 || decide (d.1=4/\e=0/\d.2.1=i))
  mem:∀ i:Nat,i<w.2.1.length->X1 w'.1.2.1 i=true->X1 w.1.2.1 i=true
theorem yj.CJ {c:Nat} {said:Nat->List C0} {w w':f8} {d:H9} {e:Int} (h:Ok c said w) (hm:L8 16 w w') (hi:∃ B S Q,Inv (vK said d e) B S Q w') (hf:d.1≠4):yj c said w d w' e :=
  ⟨⟨by rw [hm.view]; exact h.mem,hm.sz c h.sz,hi⟩,hm.len,hm.log,λ i _=>by rw [hm.fal i,show decide (d.1=4/\e=0/\d.2.1=i)=false from decide_eq_false (λ c=>hf c.1),Bool.or_false],λ i _ h=>by rw [hm.view] at h; exact h⟩
theorem SJ {w:f8} {p:Int} (h:¬ J9 w p≠0):s5 w p=true:=by
  unfold J9 at h;split at h
  . rename_i h1; exact absurd h1 h
  . split at h
    . rename_i h2; exact h2
    . exact absurd (by decide) h
theorem a28 {w:f8} {p:Int}:¬ known w p≠0↔0<=p/\p<(w.2.1.length:Int):=by
  unfold known
  split
  . rename_i h;have:=T8.1 h;constructor
    . intro _; omega
    . intro _ h2; exact h2 rfl
  . rename_i h;constructor
    . intro h2; exact absurd (by decide) h2
    . intro h2; exact absurd (T8.2 ⟨h2.1,by omega⟩) h
theorem Bw {c:Nat} {said:Nat->List C0} {w:f8} (h:Ok c said w) (d:H9):yj c said w d (R4 w d).1 (R4 w d).2:=by
  obtain ⟨B,S,Q,hI⟩:=h.inv;have stay:∀ e:Int,(d.1=1->e≠0)->(d.1=4->e≠0)->yj c said w d w e:=λ e he hf =>
    ⟨⟨h.mem,h.sz.mono (by omega),B,S,Q,by rw [vK,if_neg (λ c=>he c.1 c.2)]; exact hI⟩,rfl,λ _=>List.prefix_rfl,λ i _=>by rw [show decide (d.1=4/\e=0/\d.2.1=i)=false from decide_eq_false (λ c=>hf c.1 c.2.1),Bool.or_false],λ _ _ h=>h⟩
  unfold R4;by_cases c1:d.1=1
  . rw [if_pos c1];have iQ:=(Rk w d.2.1 d.2.2.2.1).more (Nat.zero_le 16);have hf:d.1=4->False:=λ e=>by omega
    rw [Q4] at iQ ⊢;by_cases a:J9 w d.2.1≠0
    . rw [if_pos a]; exact stay _ (λ _=>a) (λ e=>(hf e).elim)
    rw [if_neg a] at iQ ⊢;by_cases b:(150:Int)<d.2.2.2.1.length
    . rw [if_pos b]; exact stay 2 (λ _=>by decide) (λ e=>(hf e).elim)
    rw [if_neg b] at iQ ⊢;by_cases b2:(w.2.2.2.1.length:Int)=60
    . rw [if_pos b2]; exact stay 8 (λ _=>by decide) (λ e=>(hf e).elim)
    rw [if_neg b2] at iQ ⊢;by_cases b3:(K3 (I5 w d.2.1) d.2.2.2.1).2.1≠0
    . rw [if_pos b3]; exact stay _ (λ _=>b3) (λ e=>(hf e).elim)
    rw [if_neg b3] at iQ ⊢;obtain ⟨p,hp,bW,hv,-⟩:=BU.1 (SJ a);refine yj.CJ h iQ ?_ (λ e=>hf e);rw [vK,if_pos ⟨c1,rfl⟩,hp];rw [hp] at b3;exact ⟨_,_,_,hI.say bW hv b3⟩
  rw [if_neg c1];by_cases c2:d.1=2
  . rw [if_pos c2];have iQ:=(So w d.2.1).more (Nat.zero_le 16);rw [V5] at iQ ⊢;by_cases a:J9 w d.2.1≠0
    . rw [if_pos a]; exact stay _ (λ e=>absurd e c1) (λ e=>by omega)
    rw [if_neg a] at iQ ⊢;obtain ⟨p,hp,bW,hv,-⟩:=BU.1 (SJ a);refine yj.CJ h iQ ?_ (by omega);rw [vK,if_neg (λ c=>c1 c.1),hp];exact ⟨_,_,_,hI.again bW hv⟩
  rw [if_neg c2];by_cases c3:d.1=3
  . rw [if_pos c3];refine yj.CJ h (Sa _ _ _) ?_ (by omega);rw [vK,if_neg (λ c=>c1 c.1)];obtain ⟨Q',h'⟩:=hI.move d.2.1 d.2.2.1;exact ⟨_,_,_,h'⟩
  rw [if_neg c3];by_cases c4:d.1=4
  . rw [if_pos c4];unfold vu;by_cases a:known w d.2.1≠0
    . rw [if_pos a]; exact stay _ (λ e=>absurd e c1) (λ _=>a)
    rw [if_neg a];have hk:=a28.1 a;obtain ⟨p,hp⟩:∃ p:Nat,d.2.1=p:=⟨d.2.1.toNat,by omega⟩;rw [hp] at hk ⊢;have bW:p<w.2.1.length:=by omega
    have hg:∀ i,(w.2.1.set p (true,(w.2.1.getD p j7).2)).getD i j7=if p=i then (true,(w.2.1.getD p j7).2) else w.2.1.getD i j7:=λ i=>by
      rw [Q0];by_cases e:p=i
      . rw [if_pos ⟨e,bW⟩,if_pos e]
      . rw [if_neg (λ h=>e h.1),if_neg e]
    have gx:∀ i,((w.2.1.set p (true,(w.2.1.getD p j7).2)).getD i j7).2=(w.2.1.getD i j7).2:=λ i=>by
      rw [hg]; split
      . rename_i e; rw [e]
      . rfl
    refine ⟨⟨h.mem,⟨λ i=>?_,Nat.le_trans h.sz.ord (Nat.le_add_right _ _),λ i=>?_,λ i=>?_⟩,B,S,Q,?_⟩,List.length_set ..,λ i=>?_,λ i hi=>?_,λ _ _ h=>h⟩
    . show ((w.2.1.set p (true,(w.2.1.getD p j7).2)).getD i j7).2.1.length<=_;rw [gx]; exact Nat.le_trans (h.sz.log i) (Nat.le_add_right _ _)
    . show ∀ s∈((w.2.1.set p (true,(w.2.1.getD p j7).2)).getD i j7).2.1,_;rw [gx]; exact h.sz.txt i
    . show ((w.2.1.set p (true,(w.2.1.getD p j7).2)).getD i j7).2.2.1.2.1.length<=_;rw [gx]; exact h.sz.late i
    . rw [vK,if_neg (λ c=>c1 c.1)]; exact hI.TG p
    . show _ <+: ((w.2.1.set p (true,(w.2.1.getD p j7).2)).getD i j7).2.1;rw [gx]; exact List.prefix_rfl
    . show ((w.2.1.set p (true,(w.2.1.getD p j7).2)).getD i j7).1=_;rw [hg];by_cases e:p=i
      . rw [if_pos e,decide_eq_true ⟨c4,rfl,by rw [hp,e]⟩,Bool.or_true]
      . rw [if_neg e,decide_eq_false (λ c=>e (by have:=c.2.2; omega)),Bool.or_false]
  rw [if_neg c4];by_cases c5:d.1=5
  . rw [if_pos c5];by_cases a:(R0 w).2.1≠0
    . rw [Kh a]; exact stay _ (λ e=>absurd e c1) (λ e=>absurd e c4)
    rw [KC a];obtain ⟨B',S',tI,h1,h2⟩:=hI.change h.mem a;obtain ⟨eX,ln,lM⟩:=members hI.M1 h.mem a;have hlen:(F1 w).2.1.length=w.2.1.length:=List.length_mapIdx ..;have cB:∀ i:Nat,i<w.2.1.length->(F1 w).2.1.getD i j7=uK w (I2 w w.2.1.length) i (w.2.1.getD i j7):=λ i hi=>SG hi;have eI:∀ i:Nat,¬ i<w.2.1.length->(F1 w).2.1.getD i j7=j7:=λ i hi=>by
      rw [List.getD_eq_getElem?_getD,List.getElem?_eq_none (by rw [hlen]; omega)]; rfl
    have nV:(I2 w w.2.1.length).length<=c/\∀ s∈I2 w w.2.1.length,s.2.1.length<=200:=by
      rcases Jx (w:=w) (k:=w.2.1.length) with e|⟨i,-,-,e⟩
      . rw [e]; exact ⟨Nat.zero_le _,λ s hs=>by cases hs⟩
      . rw [e]; exact ⟨h.sz.log i,h.sz.txt i⟩
    have fa:∀ i x,(uK w (I2 w w.2.1.length) i x).2.1=I2 w w.2.1.length\/(uK w (I2 w w.2.1.length) i x).2.1=x.2.1:=λ i x=>by
      unfold uK; split
      . exact .inl rfl
      . exact .inr rfl
    have cD:∀ i x,(uK w (I2 w w.2.1.length) i x).2.2.1.2.1.length<=x.2.2.1.2.1.length:=λ i x=>by
      unfold uK; split
      . exact List.length_drop ..▸Nat.sub_le _ _
      . exact Nat.le_refl _
    refine ⟨⟨ln,⟨λ i=>?_,Nat.zero_le _,λ i=>?_,λ i=>?_⟩,B',S',[],?_⟩,hlen,λ i=>?_,λ i hi=>?_,λ i hi hm=>?_⟩
    . by_cases hi:i<w.2.1.length
      . rw [cB i hi];have:=h.sz.log i;rcases fa i (w.2.1.getD i j7) with e|e
        . rw [e]; omega
        . rw [e]; omega
      . rw [eI i hi]; exact Nat.zero_le _
    . by_cases hi:i<w.2.1.length
      . rw [cB i hi];rcases fa i (w.2.1.getD i j7) with e|e
        . rw [e]; exact nV.2
        . rw [e]; exact h.sz.txt i
      . rw [eI i hi]; exact λ s hs=>by cases hs
    . by_cases hi:i<w.2.1.length
      . rw [cB i hi]; exact Nat.le_trans (cD _ _) (h.sz.late i)
      . rw [eI i hi]; exact Nat.zero_le _
    . rw [vK,if_neg (λ c=>c1 c.1)]; exact tI
    . by_cases hi:i<w.2.1.length
      . exact h2 i hi
      . have e:w.2.1.getD i j7=j7:=by rw [List.getD_eq_getElem?_getD,List.getElem?_eq_none (by omega)]; rfl
        rw [e]; exact List.nil_prefix
    . rw [cB i hi,Mo,decide_eq_false (λ c=>c4 c.1),Bool.or_false]
    . rw [lM i hi] at hm; exact (yQ.1 hm).2.1
  . rw [if_neg c5]; exact stay _ (λ e=>absurd e c1) (λ e=>absurd e c4)
attribute [local irreducible] Go.Ex.exec
def M1 (n:Int):Int:=rest n 6+1
theorem Mu (n:Int):1<=M1 n/\M1 n<=6:=by have:=NL (a:=n) (n:=6) (by omega); unfold M1; omega
def Ff:o7:={ ps:=[.v e8],rs:=[e8],pre:=λ _=>True,fn:=λ x=>(M1 x.1,()),out:=λ _=>() }
noncomputable def Fa:Env:={ P:=Tryz.prog,tt:=tt,C5:=[(39,Gl)],res:=[Go.ResultVar.tmp 2],rs:=[Ty.int IntKind.i64],ps:=[PK.v e8],y9:=[],nt:=6 }
theorem Nf:w5 Fa:=x6 p9 ⟨b77,trivial⟩
theorem Nq:B0 Fa Tryz.f13:=⟨rfl,rfl⟩
theorem UJ (x0:Int):exec Fa 1000 [.code (d8 Tryz.prog 13)] (s7 Ff.ps ((x0,()))) =
  .f7 ((6:Int)<=(1000000000:Int)) (.f7 (r7 IntKind.i64 (rest x0 (6:Int)+(1:Int))) (.ret ((rest x0 (6:Int)+(1:Int),())))):=by kernel_rfl
theorem ZY:Ff.Valid Tryz.prog 13:=by
  refine o7.n8 Nf rfl rfl Tryz.func13 (c:=d8 Tryz.prog 13) rfl rfl Nq rfl ?_;rintro ⟨(n:Int),⟨⟩⟩ - -
  refine j8 (n:=1000) Nf Nq ?_;refine i7 (UJ n) ?_;have:=Mu n;have:=NL (a:=n) (n:=6) (by omega);simp only [j6,Tree.holds,sL];exact ⟨by decide,λ _=>⟨by omega,λ _=>rfl⟩⟩
def uS (n:Int):f8:=((0,zq n,()),List.replicate n.toNat j7,[],[],())
def Dd:o7:={ ps:=[.v e8],rs:=[.box true none r9,e8],pre:=λ x=>LE.le (α:=Int) 1 x.1/\LE.le (α:=Int) x.1 6,fn:=λ x=>(some (uS x.1),0,()),out:=λ _=>() }
theorem YJ {n:Int} (h:1<=n/\n<=6):CB n=(some (uS n),0,()):=if_pos (T8.2 h)
theorem SM:Dd.Valid Tryz.prog 14:=by
  refine ⟨Sd.ent,λ w S vs x L hS dG aZ hK gX fB dX=>?_,λ h=>by cases h⟩;obtain ⟨(n:Int),⟨⟩⟩:=x;have:=Sd.run w S vs (n,()) L hS dG trivial hK gX fB dX;rw [show Fg.fn (n,())=Dd.fn (n,()) from YJ aZ] at this;exact this
def FW:o7:={ ps:=[.rw r9,.v xx],rs:=[e8],pre:=λ x=>Good x.1,fn:=λ x=>((R4 x.1 x.2.1).2,()),out:=λ x=>((R4 x.1 x.2.1).1,()) }
noncomputable def GS:Env:={ P:=Tryz.prog,tt:=tt,C5:=[(15,CK),(26,Hh),(18,Ay),(37,FZ),(25,OJ)],res:=[Go.ResultVar.tmp 4],rs:=[Ty.int IntKind.i64],ps:=[PK.rw r9,PK.v xx],y9:=[],nt:=39 }
theorem QT:w5 GS:=x6 p9 ⟨Sh,b6k,KD,b8n,b2y,trivial⟩
theorem QC:B0 GS Tryz.f51:=⟨rfl,rfl⟩
theorem Xy (ai:Int) (af:Int) (ab:List n7) (ae:List yY) (aa:List yY) (bs:Int) (aF:Int) (aE:Int) (aX:yY):exec GS 1000 [.code (d8 Tryz.prog 51)] (s7 FW.ps ((((ai,af,()),ab,ae,aa,()),(bs,aF,aE,aX,()),()))) =
  cond (decide (bs=(1:Int))) (.f7 (List.length ab<=6) (.ret ((Prod.snd (Q4 ((ai,af,()),ab,ae,aa,()) aF aX),Prod.fst (Q4 ((ai,af,()),ab,ae,aa,()) aF aX),())))) (cond (decide (bs=(2:Int))) (.f7 (List.length ab<=6) (.ret ((Prod.snd (V5 ((ai,af,()),ab,ae,aa,()) aF),Prod.fst (V5 ((ai,af,()),ab,ae,aa,()) aF),())))) (cond (decide (bs=(3:Int))) (.f7 (zL ((ai,af,()),ab,ae,aa,())) (.ret ((Prod.snd (C7 ((ai,af,()),ab,ae,aa,()) aF aE),Prod.fst (C7 ((ai,af,()),ab,ae,aa,()) aF aE),())))) (cond (decide (bs=(4:Int))) (.f7 (List.length ab<=6) (.ret ((Prod.snd (vu ((ai,af,()),ab,ae,aa,()) aF),Prod.fst (vu ((ai,af,()),ab,ae,aa,()) aF),())))) (cond (decide (bs=(5:Int))) (.f7 (yI ((ai,af,()),ab,ae,aa,())) (.ret ((Prod.snd (S7 ((ai,af,()),ab,ae,aa,())),Prod.fst (S7 ((ai,af,()),ab,ae,aa,())),())))) (.ret (((1:Int),((ai,af,()),ab,ae,aa,()),()))))))):=by kernel_rfl
attribute [local irreducible] R4 Q4 V5 C7 vu S7 in
theorem b8r:FW.Valid Tryz.prog 51:=by
  refine o7.n8 QT rfl rfl Tryz.func51 (c:=d8 Tryz.prog 51) rfl rfl QC rfl ?_;rintro ⟨⟨⟨(v0:Int),(v1:Int),⟨⟩⟩,(al:List n7),(od:List yY),(wy:List yY),⟨⟩⟩,⟨(k:Int),(who:Int),(bu:Int),(t:yY),⟨⟩⟩,⟨⟩⟩ (hg:Good ((v0,v1,()),al,od,wy,())) -
  refine j8 (n:=1000) QT QC ?_;refine i7 (Xy v0 v1 al od wy k who bu t) ?_;simp only [j6,Tree.holds,sL];have key:∀ r:f8×Int,R4 ((v0,v1,()),al,od,wy,()) (k,who,bu,t,())=r->(((r.2,r.1,()):Int×f8×Unit)=((R4 ((v0,v1,()),al,od,wy,()) (k,who,bu,t,())).2,(R4 ((v0,v1,()),al,od,wy,()) (k,who,bu,t,())).1,())):=by rintro r rfl; rfl
  have e0:=R4.eq_1 ((v0,v1,()),al,od,wy,()) (k,who,bu,t,());refine ⟨λ c=>⟨hg.move.M1,λ _=>key _ (e0.trans (if_pos c))⟩,λ c1=>⟨λ c=>⟨hg.move.M1,λ _=>key _ (e0.trans ((if_neg c1).trans (if_pos c)))⟩,λ c2=>⟨λ c=>⟨hg.move,λ _=>key _ (e0.trans ((if_neg c1).trans ((if_neg c2).trans (if_pos c))))⟩,λ c3=>⟨λ c=>⟨hg.move.M1,λ _=>key _ (e0.trans ((if_neg c1).trans ((if_neg c2).trans ((if_neg c3).trans (if_pos c)))))⟩,
    λ c4=>⟨λ c=>⟨hg.change,λ _=>key _ (e0.trans ((if_neg c1).trans ((if_neg c2).trans ((if_neg c3).trans ((if_neg c4).trans (if_pos c))))))⟩,λ c5=>key (_,_) (e0.trans ((if_neg c1).trans ((if_neg c2).trans ((if_neg c3).trans ((if_neg c4).trans (if_neg c5))))))⟩⟩⟩⟩⟩
end Go.Proofs.YtijlnmgondibnaaGreatDoor
namespace Go.Proofs.YtijlnmgondibnaaGreatDoor
open Go.Ex
set_option maxRecDepth 100000
theorem IA {n i:Nat}:(List.replicate n j7).getD i j7=j7:=by
  rw [List.getD_eq_getElem?_getD,List.getElem?_replicate]
  split<;>rfl
theorem Mi {n:Int} (h:1<=n/\n<=6):Ok 0 (λ _=>[]) (uS n):=by
  have hr:∀ i,(uS n).2.1.getD i j7=j7:=λ i=>IA;have hl:(uS n).2.1.length=n.toNat:=List.length_replicate ..;refine ⟨T6 (k:=.u8) _,⟨λ i=>?_,Nat.zero_le _,λ i=>?_,λ i=>?_⟩,[],λ _=>[],[],?_⟩
  . rw [hr]; exact Nat.zero_le _
  . rw [hr]; exact λ s hs=>by cases hs
  . rw [hr]; exact Nat.zero_le _
  . refine ⟨by rw [hl]; omega,Nat.zero_le _,rfl,λ x hx=>(by cases hx),λ p=>List.nil_prefix,λ p=>Nat.zero_le _,λ s hs=>(by cases hs),λ p hp=>?_,λ p hp hv=>?_,λ p hp hv=>⟨rfl,List.prefix_rfl⟩,λ s hs=>(by cases hs)⟩
    . rw [hr]; exact ⟨rfl,λ q hq=>by cases hq⟩
    . rw [hr];exact ⟨⟨0,Nat.le_refl _,rfl,λ q hq=>(by cases hq),rfl,rfl,rfl⟩,rfl⟩
def Dh:H9:=(0,0,0,[],())
def GH (k bu:Int):H9:=(3,k,bu,[],())
theorem WT (w:f8) (k bu:Int):R4 w (GH k bu)=C7 w k bu:=by
  unfold R4 GH;rw [if_neg (show ¬ (3:Int)=1 by decide),if_neg (show ¬ (3:Int)=2 by decide),if_pos rfl]
theorem Ok.CP {c:Nat} {said:Nat->List C0} {w:f8} (h:Ok c said w) (k bu:Int):Ok (c+16) said (C7 w k bu).1:=by
  have:=(Bw h (GH k bu)).ok;rw [WT] at this;exact this
def Ao (p:Int) (t:C0):H9:=(1,p,0,t,())
theorem MQ (w:f8) (p:Int) (t:C0):R4 w (Ao p t)=Q4 w p t:=by
  unfold R4 Ao;exact if_pos rfl
theorem Ok.c9F {c:Nat} {said:Nat->List C0} {w:f8} (h:Ok c said w) (p:Int) (t:C0):∃ said',Ok (c+16) said' (Q4 w p t).1:=by
  have:=(Bw h (Ao p t)).ok;rw [MQ] at this;exact ⟨_,this⟩
attribute [local irreducible] Go.Ex.exec
abbrev CG:yY:=[115,101,116,32]
abbrev spT:yY:=[32]
def Dv (i:Nat) (d:H9):H9:=if d.1=1 then (d.1,d.2.1,d.2.2.1,CG++C9 (Int.tmod i 10)++spT++C9 i,()) else d
abbrev vD:=f8×List (List C0)×List Int
def yf (n:Int) (s:vD) (d:H9):vD :=
  if (R4 s.1 d).2≠0\/d.2.1<0\/n<=d.2.1 then ((R4 s.1 d).1,s.2) else
  ((R4 s.1 d).1,if d.1=1 then s.2.1.set d.2.1.toNat (s.2.1.getD d.2.1.toNat []++[d.2.2.2.1]) else s.2.1,if d.1=4 then s.2.2++[d.2.1] else s.2.2)
def H7 (n:Int) (l:List H9):Nat->vD
  | 0=>(uS n,List.replicate n.toNat [],[])
  | i+1=>yf n (H7 n l i) (Dv i (l.getD i Dh))
def HG:o7:={ ps:=[.v e8,.v (.d0 false xx)],rs:=[.box true none r9,.d0 true (.d0 true .str),.d0 true e8,.bool],pre:=λ x=>(LE.le (α:=Int) 1 x.1/\LE.le (α:=Int) x.1 6)/\List.length (α:=H9) x.2.1<=1048576,fn:=λ x=>(some (H7 x.1 x.2.1 (List.length (α:=H9) x.2.1)).1,(H7 x.1 x.2.1 (List.length (α:=H9) x.2.1)).2.1,(H7 x.1 x.2.1 (List.length (α:=H9) x.2.1)).2.2,true,()),out:=λ _=>() }
noncomputable def Bs:Env:={ P:=Tryz.prog,tt:=tt,C5:=[(14,Dd),(50,Hy),(51,FW)],res:=[Go.ResultVar.tmp 4,Go.ResultVar.tmp 5,Go.ResultVar.tmp 6,Go.ResultVar.tmp 7],rs:=[Ty.box true none r9,Ty.d0 true (Ty.d0 true Ty.str),Ty.d0 true e8,Ty.bool],ps:=[PK.v e8,PK.v (Ty.d0 false xx)],y9:=[(7,[(0,none),(8,none),(10,some (Ty.d0 true (Ty.d0 true Ty.str))),(11,some Is),(28,none),(29,none),(30,none)])],nt:=91 }
theorem Ku:w5 Bs:=x6 p9 ⟨SM,Tf,b8r,trivial⟩
theorem Kz:B0 Bs Tryz.f23:=⟨rfl,rfl⟩
theorem Zu (x0:Int) (x1:List (Int×Int×Int×yY×Unit)):exec Bs 1000 [.code (d8 Tryz.prog 23)] (s7 HG.ps ((x0,x1,()))) =
  .f7 ((1:Int)<=x0/\x0<=(6:Int)) (.f7 ((0:Int)<=x0/\x0<=x0/\x0<=(140737488355328:Int)/\x0*(↑(Ty.wb (Ty.d0 true Ty.str)):Int)<=(140737488355328:Int)) (.ctL (g8 (d8 Tryz.prog 23) 7) (St.mk [(0,AV.val e8 x0),(8,AV.ptr 1017 []),(10,AV.at_ 1000010 []),(11,AV.at_ 1000011 []),(28,AV.val (Ty.d0 false xx) x1),(29,AV.val e8 (↑(List.length x1):Int)),(30,AV.val e8 (0:Int))] [(1017,g9.var r9 (((0:Int),zq x0,()),List.replicate (Int.toNat x0) j7,[],[],())),(1000010,g9.own (Ty.d0 true (Ty.d0 true Ty.str)) (List.replicate (Int.toNat x0) [])),(1000011,g9.own Is [])]))):=by kernel_rfl
def Kv (v0:Int) (v28:List (Int×Int×Int×yY×Unit)) (vY:Int) (v30:Int) (dy:Int) (cI:Int) (dx:List n7) (cH:List yY) (ca:List yY) (ch:List (List yY)) (bp:List Int):St:=St.mk [(0,AV.val e8 v0),(8,AV.ptr 1017 []),(10,AV.at_ 1000010 []),(11,AV.at_ 1000011 []),(28,AV.val (Ty.d0 false xx) v28),(29,AV.val e8 vY),(30,AV.val e8 v30)] [(1017,g9.var r9 ((dy,cI,()),dx,cH,ca,())),(1000010,g9.own (Ty.d0 true (Ty.d0 true Ty.str)) ch),(1000011,g9.own Is bp)]
theorem b8D (v0:Int) (v28:List (Int×Int×Int×yY×Unit)) (vY:Int) (v30:Int) (dy:Int) (cI:Int) (dx:List n7) (cH:List yY) (ca:List yY) (ch:List (List yY)) (bp:List Int):exec Bs 1000 (.code (g8 (d8 Tryz.prog 23) 7).1::.inLoop (g8 (d8 Tryz.prog 23) 7).1::(g8 (d8 Tryz.prog 23) 7).2) (Kv v0 v28 vY v30 dy cI dx cH ca ch bp) =
  let q2:=(List.getD v28 (Int.toNat v30) ((0:Int),(0:Int),(0:Int),[],())); let q4:=(ByteArray.data (ByteArray.mk #[115,101,116,32])); let q6:=(30,AV.val e8 (v30+(1:Int))); let q7:=(1000010,g9.own (Ty.d0 true (Ty.d0 true Ty.str)) ch); let q8:=(List.set [(0:Int)] (Int.toNat (↑0:Int)) (Prod.fst (Prod.snd q2))); let q9:=(29,AV.val e8 vY); let yV:=((dy,cI,()),dx,cH,ca,()); let vl:=(r7 IntKind.i64 (v30+(1:Int))); let vk:=(0,AV.val e8 v0); let xu:=(Int.toNat (Prod.fst (Prod.snd q2))); let Cs:=(1000011,g9.own Is (bp++List.set [(0:Int)] (Int.toNat (↑0:Int)) (Prod.fst (Prod.snd q2)))); let Cr:=r8; let q3:=(28,AV.val (Ty.d0 false (Ty.pair e8 (Ty.pair e8 Cr))) v28); let q5:=(Ty.pair View (Ty.pair (Ty.d0 true (Ty.pair Ty.bool (Ty.pair (Ty.d0 true Cr) (Ty.pair P7 (Ty.pair (Ty.pair e8 (Ty.pair (Ty.d0 false Cr) Ty.unit)) (Ty.pair (Ty.pair e8 (Ty.pair (Ty.d0 false Cr) Ty.unit)) Ty.unit)))))) (Ty.pair (Ty.d0 true Ty.str) (Ty.pair (Ty.d0 true Ty.str) Ty.unit)))); let q1:=(1017,g9.var q5 (Prod.fst (R4 yV q2))); let Cq:=(ByteArray.data (ByteArray.mk #[32])); let EZ:=(Array.toList q4++C9 (Int.tmod v30 (10:Int))++Array.toList Cq++C9 v30); let Lj:=(1000010,g9.own (Ty.d0 true (Ty.d0 true Ty.str)) (List.set ch xu (List.getD ch xu []++List.set [[]] (Int.toNat (↑0:Int)) EZ))); let Cp:=(List.length bp+List.length q8); let Co:=(Prod.snd (Prod.snd (Prod.snd q2))); let Ll:=(R4 yV (Prod.fst q2,Prod.fst (Prod.snd q2),Prod.fst (Prod.snd (Prod.snd q2)),Array.toList q4++C9 (Int.tmod v30 (10:Int))++Array.toList Cq++C9 v30,Prod.snd Co)); let q0:=(1017,g9.var q5 (Prod.fst Ll)); let Lk:=(1000010,g9.own (Ty.d0 true (Ty.d0 true Ty.str)) (List.set ch xu (List.getD ch xu []++List.set [[]] (Int.toNat (↑0:Int)) (Prod.fst Co)))); cond (decide (v30<vY)) (.f7 ((0:Int)<=v30/\v30<(↑(List.length v28):Int)) (cond (decide (Prod.fst q2=(1:Int))) (.f7 ((0:Int)<(10:Int)) (.f7 (True) (.f7 (List.length (Array.toList q4)+List.length (C9 (Int.tmod v30 (10:Int)))<=Go.maxLen) (.f7 (List.length (Array.toList q4++C9 (Int.tmod v30 (10:Int)))+List.length (Array.toList Cq)<=Go.maxLen) (.f7 (True) (.f7 (List.length (Array.toList q4++C9 (Int.tmod v30 (10:Int))++Array.toList Cq)+List.length (C9 v30)<=Go.maxLen) (.f7 (Good yV) (cond (decide (Prod.snd Ll≠(0:Int))) (.f7 vl (.ctL (g8 (d8 Tryz.prog 23) 7) (St.mk [vk,(8,AV.ptr 1017 []),(10,AV.at_ 1000010 []),(11,AV.at_ 1000011 []),q3,q9,q6] [q0,q7,(1000011,g9.own Is bp)]))) (cond (decide (Prod.fst (Prod.snd q2)<(0:Int))) (.f7 vl (.ctL (g8 (d8 Tryz.prog 23) 7) (St.mk [vk,(8,AV.ptr 1017 []),(10,AV.at_ 1000010 []),(11,AV.at_ 1000011 []),q3,q9,q6] [q0,q7,(1000011,g9.own Is bp)]))) (cond (decide (v0<=Prod.fst (Prod.snd q2))) (.f7 vl (.ctL (g8 (d8 Tryz.prog 23) 7) (St.mk [vk,(8,AV.ptr 1017 []),(10,AV.at_ 1000010 []),(11,AV.at_ 1000011 []),q3,q9,q6] [q0,q7,(1000011,g9.own Is bp)]))) (cond (decide (Prod.fst q2=(1:Int))) (.f7 ((0:Int)<=Prod.fst (Prod.snd q2)/\Prod.fst (Prod.snd q2)<(↑(List.length ch):Int)) (.f7 ((0:Int)<=Prod.fst (Prod.snd q2)/\Prod.fst (Prod.snd q2)<(↑(List.length ch):Int)) (.f7 ([]++[Step.idx (Prod.fst (Prod.snd q2))]=[]++[Step.idx (Prod.fst (Prod.snd q2))]/\List.length (List.getD ch xu [])+List.length (List.set [[]] (Int.toNat (↑0:Int)) EZ)<=140737488355328/\(List.length (List.getD ch xu [])+List.length (List.set [[]] (Int.toNat (↑0:Int)) EZ))*Ty.wb Ty.str<=140737488355328) (cond (decide (Prod.fst q2=(4:Int))) (.f7 (List.length bp+List.length q8<=140737488355328/\Cp*Ty.wb e8<=140737488355328) (.f7 vl (.ctL (g8 (d8 Tryz.prog 23) 7) (St.mk [vk,(8,AV.ptr 1017 []),(10,AV.at_ 1000010 []),(11,AV.at_ 1000011 []),q3,q9,q6] [q0,Lj,Cs])))) (.f7 vl (.ctL (g8 (d8 Tryz.prog 23) 7) (St.mk [vk,(8,AV.ptr 1017 []),(10,AV.at_ 1000010 []),(11,AV.at_ 1000011 []),q3,q9,q6] [q0,Lj,(1000011,g9.own Is bp)]))))))) (cond (decide (Prod.fst q2=(4:Int))) (.f7 (List.length bp+List.length q8<=140737488355328/\Cp*Ty.wb e8<=140737488355328) (.f7 vl (.ctL (g8 (d8 Tryz.prog 23) 7) (St.mk [vk,(8,AV.ptr 1017 []),(10,AV.at_ 1000010 []),(11,AV.at_ 1000011 []),q3,q9,q6] [q0,q7,Cs])))) (.f7 vl (.ctL (g8 (d8 Tryz.prog 23) 7) (St.mk [vk,(8,AV.ptr 1017 []),(10,AV.at_ 1000010 []),(11,AV.at_ 1000011 []),q3,q9,q6] [q0,q7,(1000011,g9.own Is bp)]))))))))))))))) (.f7 (Good yV) (cond (decide (Prod.snd (R4 yV q2)≠(0:Int))) (.f7 vl (.ctL (g8 (d8 Tryz.prog 23) 7) (St.mk [vk,(8,AV.ptr 1017 []),(10,AV.at_ 1000010 []),(11,AV.at_ 1000011 []),q3,q9,q6] [q1,q7,(1000011,g9.own Is bp)]))) (cond (decide (Prod.fst (Prod.snd q2)<(0:Int))) (.f7 vl (.ctL (g8 (d8 Tryz.prog 23) 7) (St.mk [vk,(8,AV.ptr 1017 []),(10,AV.at_ 1000010 []),(11,AV.at_ 1000011 []),q3,q9,q6] [q1,q7,(1000011,g9.own Is bp)]))) (cond (decide (v0<=Prod.fst (Prod.snd q2))) (.f7 vl (.ctL (g8 (d8 Tryz.prog 23) 7) (St.mk [vk,(8,AV.ptr 1017 []),(10,AV.at_ 1000010 []),(11,AV.at_ 1000011 []),q3,q9,q6] [q1,q7,(1000011,g9.own Is bp)]))) (cond (decide (Prod.fst q2=(1:Int))) (.f7 ((0:Int)<=Prod.fst (Prod.snd q2)/\Prod.fst (Prod.snd q2)<(↑(List.length ch):Int)) (.f7 ((0:Int)<=Prod.fst (Prod.snd q2)/\Prod.fst (Prod.snd q2)<(↑(List.length ch):Int)) (.f7 ([]++[Step.idx (Prod.fst (Prod.snd q2))]=[]++[Step.idx (Prod.fst (Prod.snd q2))]/\List.length (List.getD ch xu [])+List.length (List.set [[]] (Int.toNat (↑0:Int)) (Prod.fst Co))<=140737488355328/\(List.length (List.getD ch xu [])+List.length (List.set [[]] (Int.toNat (↑0:Int)) (Prod.fst Co)))*Ty.wb Ty.str<=140737488355328) (cond (decide (Prod.fst q2=(4:Int))) (.f7 (List.length bp+List.length q8<=140737488355328/\Cp*Ty.wb e8<=140737488355328) (.f7 vl (.ctL (g8 (d8 Tryz.prog 23) 7) (St.mk [vk,(8,AV.ptr 1017 []),(10,AV.at_ 1000010 []),(11,AV.at_ 1000011 []),q3,q9,q6] [q1,Lk,Cs])))) (.f7 vl (.ctL (g8 (d8 Tryz.prog 23) 7) (St.mk [vk,(8,AV.ptr 1017 []),(10,AV.at_ 1000010 []),(11,AV.at_ 1000011 []),q3,q9,q6] [q1,Lk,(1000011,g9.own Is bp)]))))))) (cond (decide (Prod.fst q2=(4:Int))) (.f7 (List.length bp+List.length q8<=140737488355328/\Cp*Ty.wb e8<=140737488355328) (.f7 vl (.ctL (g8 (d8 Tryz.prog 23) 7) (St.mk [vk,(8,AV.ptr 1017 []),(10,AV.at_ 1000010 []),(11,AV.at_ 1000011 []),q3,q9,q6] [q1,q7,Cs])))) (.f7 vl (.ctL (g8 (d8 Tryz.prog 23) 7) (St.mk [vk,(8,AV.ptr 1017 []),(10,AV.at_ 1000010 []),(11,AV.at_ 1000011 []),q3,q9,q6] [q1,q7,(1000011,g9.own Is bp)]))))))))))) (.ret ((some yV,ch,bp,true,()))):=by kernel_rfl
def I9:Nat->f8->f8×Bool
  | 0,w=>(w,decide ((w.2.2.2.1.length:Int)=0))
  | k+1,w=>if (w.2.2.2.1.length:Int)=0 then (w,true) else if (C7 w 0 1).2≠0 then ((C7 w 0 1).1,false) else I9 k (C7 w 0 1).1
structure Fit (most:Int) (w:f8):Prop where
  nn:0<=most/\most<=1000000
  ok:∃ c said,Ok c said w/\c<=100000000000
def IX:o7:={ ps:=[.rw r9,.v e8],rs:=[.bool],pre:=λ x=>Fit x.2.1 x.1,fn:=λ x=>((I9 (Int.toNat x.2.1) x.1).2,()),out:=λ x=>((I9 (Int.toNat x.2.1) x.1).1,()) }
noncomputable def BF:Env:={ P:=Tryz.prog,tt:=tt,C5:=[(17,CO),(18,Ay)],res:=[Go.ResultVar.tmp 4],rs:=[Ty.bool],ps:=[PK.rw r9,PK.v e8],y9:=[(2,[(0,none),(5,none),(6,none)])],nt:=18 }
theorem KO:w5 BF:=x6 p9 ⟨Sl,KD,trivial⟩
theorem KR:B0 BF Tryz.f16:=⟨rfl,rfl⟩
theorem b8G (ai:Int) (af:Int) (ab:List n7) (ae:List yY) (aa:List yY) (x1:Int):exec BF 1000 [.code (d8 Tryz.prog 16)] (s7 IX.ps ((((ai,af,()),ab,ae,aa,()),x1,()))) =
  .ctL (g8 (d8 Tryz.prog 16) 2) (St.mk [(0,AV.ptr 2000000 []),(5,AV.val e8 x1),(6,AV.val e8 (0:Int))] [(2000000,g9.var r9 ((ai,af,()),ab,ae,aa,()))]):=by kernel_rfl
def KP (v5:Int) (v6:Int) (au:Int) (an:Int) (aj:List n7) (ak:List yY) (ah:List yY):St:=St.mk [(0,AV.ptr 2000000 []),(5,AV.val e8 v5),(6,AV.val e8 v6)] [(2000000,g9.var r9 ((au,an,()),aj,ak,ah,()))]
theorem b7n (v5:Int) (v6:Int) (au:Int) (an:Int) (aj:List n7) (ak:List yY) (ah:List yY):exec BF 1000 (.code (g8 (d8 Tryz.prog 16) 2).1::.inLoop (g8 (d8 Tryz.prog 16) 2).1::(g8 (d8 Tryz.prog 16) 2).2) (KP v5 v6 au an aj ak ah) =
  cond (decide (v6<v5)) (.f7 (True) (cond (decide ((↑(List.length ah):Int)=(0:Int))) (.ret ((true,((au,an,()),aj,ak,ah,()),()))) (.f7 (zL ((au,an,()),aj,ak,ah,())) (cond (decide (Prod.snd (C7 ((au,an,()),aj,ak,ah,()) (0:Int) (1:Int))≠(0:Int))) (.ret ((false,Prod.fst (C7 ((au,an,()),aj,ak,ah,()) (0:Int) (1:Int)),()))) (.f7 (r7 IntKind.i64 (v6+(1:Int))) (.ctL (g8 (d8 Tryz.prog 16) 2) (St.mk [(0,AV.ptr 2000000 []),(5,AV.val e8 v5),(6,AV.val e8 (v6+(1:Int)))] [(2000000,g9.var r9 (Prod.fst (C7 ((au,an,()),aj,ak,ah,()) (0:Int) (1:Int))))]))))))) (.f7 (True) (.ret ((decide ((↑(List.length ah):Int)=(0:Int)),((au,an,()),aj,ak,ah,()),())))):=by kernel_rfl
attribute [local irreducible] C7 in
theorem b2w:IX.Valid Tryz.prog 16:=by
  refine o7.n8 KO rfl rfl Tryz.func16 (c:=d8 Tryz.prog 16) rfl rfl KR rfl ?_;rintro ⟨⟨⟨(v0:Int),(v1:Int),⟨⟩⟩,(al:List n7),(od:List yY),(wy:List yY),⟨⟩⟩,(most:Int),⟨⟩⟩ (hf:Fit most ((v0,v1,()),al,od,wy,())) -
  refine j8 (n:=1000) KO KR ?_;refine i7 (b8G v0 v1 al od wy most) ?_;obtain ⟨c0,said,aM,eL⟩:=hf.ok;have hm:=hf.nn;obtain ⟨w0,qw⟩:∃ w:f8,w=((v0,v1,()),al,od,wy,()):=⟨_,rfl⟩;rw [<- qw] at aM;have key:∀ (w:f8) (i:Nat),I9 most.toNat w0=I9 (most.toNat - i) w->∀ r:f8×Bool,I9 (most.toNat - i) w=r->(((r.2,r.1,()):Bool×f8×Unit)=((I9 most.toNat w0).2,(I9 most.toNat w0).1,())):=by
    rintro w i e r rfl; rw [e]
  suffices go:Go.Ex.Reach BF Tryz.f16 ((I9 most.toNat w0).2,()) ((I9 most.toNat w0).1,()) (.code (g8 (d8 Tryz.prog 16) 2).1::.inLoop (g8 (d8 Tryz.prog 16) 2).1::(g8 (d8 Tryz.prog 16) 2).2) (KP most ((0:Nat):Int) w0.1.1 w0.1.2.1 w0.2.1 w0.2.2.1 w0.2.2.2.1) by
    subst qw; exact go
  refine Reach.M0 KO KR (λ i:Nat×f8=>KP most (i.1:Int) i.2.1.1 i.2.1.2.1 i.2.2.1 i.2.2.2.1 i.2.2.2.2.1) (λ i=>i.1<=most.toNat/\I9 most.toNat w0=I9 (most.toNat - i.1) i.2/\Ok (c0+16*i.1) said i.2)
    (λ i=>most.toNat - i.1) 1000 (λ _=>⟨s6 rfl,s6 rfl⟩) ?_ (0,w0) ⟨Nat.zero_le _,rfl,aM⟩
  rintro ⟨i,w⟩ ⟨k1,k2,k3⟩ - ih;have k1:i<=most.toNat:=k1;have k2:I9 most.toNat w0=I9 (most.toNat - i) w:=k2;have k3:Ok (c0+16*i) said w:=k3;have ih1:i<most.toNat->I9 most.toNat w0=I9 (most.toNat - (i+1)) (C7 w 0 1).1->_:=λ h e=>ih (i+1,(C7 w 0 1).1) ⟨by show i+1<=most.toNat; omega,e,by rw [show c0+16*(i+1)=c0+16*i+16 by omega]; exact k3.CP 0 1⟩ (by show most.toNat - (i+1)<most.toNat - i; omega);refine i7 (b7n ..) ?_;have e1:((i:Nat):Int)+1=((i+1:Nat):Int):=by omega
  obtain ⟨⟨u0,u1,⟨⟩⟩,ual,uod,uwy,⟨⟩⟩:=w;simp only [j6,Tree.holds,e1,sL];have e2:i<most.toNat->I9 (most.toNat - i) ((u0,u1,()),ual,uod,uwy,())=if (uwy.length:Int)=0 then (((u0,u1,()),ual,uod,uwy,()),true) else if (C7 ((u0,u1,()),ual,uod,uwy,()) 0 1).2≠0 then ((C7 ((u0,u1,()),ual,uod,uwy,()) 0 1).1,false) else I9 (most.toNat - (i+1)) (C7 ((u0,u1,()),ual,uod,uwy,()) 0 1).1:=λ h=>by
    rw [show most.toNat - i=(most.toNat - (i+1))+1 by omega,I9]
  refine ⟨λ c=>⟨λ d=>?_,λ d=>⟨(k3.zd (by omega)).move,λ _=>⟨λ e=>?_,λ e=>⟨F0.2 ⟨by omega,by omega⟩,λ _=>?_⟩⟩⟩⟩,λ c=>?_⟩
  . exact key _ i k2 (_,_) ((e2 (by omega)).trans (if_pos d))
  . exact key _ i k2 (_,_) ((e2 (by omega)).trans ((if_neg d).trans (if_pos e)))
  . exact ih1 (by omega) (k2.trans ((e2 (by omega)).trans ((if_neg d).trans (if_neg (by simpa using e)))))
  . obtain rfl:i=most.toNat:=by omega
    exact key _ _ k2 (_,_) (by rw [Nat.sub_self]; rfl)
def GB (w:f8) (za:List Int):Nat->List Int
  | 0=>[]
  | p+1=>if X1 w.1.2.1 p=true/\¬ (p:Int)∈za then GB w za p++[(p:Int)] else GB w za p
theorem Qa {w:f8} {d:H9} (he:(R4 w d).2=0) (hd:d.1=1\/d.1=4):0<=d.2.1/\d.2.1<(w.2.1.length:Int):=by
  have hk:¬ known w d.2.1≠0:=by
    unfold R4 at he;rcases hd with hd|hd
    . rw [if_pos hd,Q4] at he;by_cases a:J9 w d.2.1≠0
      . rw [if_pos a] at he; exact absurd he a
      . unfold J9 at a;split at a
        . rename_i h; exact absurd h a
        . rename_i h; exact h
    . rw [if_neg (by omega),if_neg (by omega),if_neg (by omega),if_pos hd,vu] at he;split at he
      . rename_i h; exact absurd he h
      . rename_i h; exact h
  exact a28.1 hk
def yB (s:vD) (p:Nat):List C0:=s.2.1.getD p []
structure Hd (n:Int) (i:Nat) (s:vD):Prop where
  ok:Ok (16*i) (yB s) s.1
  len:s.1.2.1.length=n.toNat
  said:s.2.1.length=n.toNat
  M1:s.2.2.length<=i
  each:∀ p,(yB s p).length<=i
  za:∀ p:Nat,p<n.toNat->(s.1.2.1.getD p j7).1=decide ((p:Int)∈s.2.2)
theorem ZI {n:Int} (hn:1<=n/\n<=6) {i:Nat} {s:vD} (h:Hd n i s) (d:H9):Hd n (i+1) (yf n s d):=by
  have hd:=Bw h.ok d;have nZ:16*i+16=16*(i+1):=by omega
  have hlen:=h.len;rw [yf];by_cases c:(R4 s.1 d).2≠0\/d.2.1<0\/n<=d.2.1
  . rw [if_pos c];have h1:¬ (d.1=1/\(R4 s.1 d).2=0):=λ e=>by
      have:=Qa e.2 (.inl e.1);rcases c with c|c|c
      . exact c e.2
      . omega
      . omega
    have h4:¬ (d.1=4/\(R4 s.1 d).2=0):=λ e=>by
      have:=Qa e.2 (.inr e.1);rcases c with c|c|c
      . exact c e.2
      . omega
      . omega
    refine ⟨?_,hd.len.trans h.len,h.said,Nat.le_succ_of_le h.M1,λ p=>Nat.le_succ_of_le (h.each p),λ p hp=>?_⟩
    . have:=hd.ok;rw [vK,if_neg h1,nZ] at this;exact this
    . rw [hd.fal p (by omega),h.za p hp,decide_eq_false (λ e:d.1=4/\_/\_=>h4 ⟨e.1,e.2.1⟩),Bool.or_false]
  . rw [if_neg c];have he:(R4 s.1 d).2=0:=Decidable.not_not.1 (λ e=>c (.inl e));have hw:0<=d.2.1/\d.2.1<n:=⟨Int.not_lt.1 (λ e=>c (.inr (.inl e))),Int.not_le.1 (λ e=>c (.inr (.inr e)))⟩;obtain ⟨q,hq⟩:∃ q:Nat,d.2.1=q:=⟨d.2.1.toNat,by omega⟩;have rP:q<s.2.1.length:=by rw [h.said]; omega
    have eG:∀ x:List C0,yB (((R4 s.1 d).1,s.2.1.set q x,s.2.2):vD)=vf (yB s) q x:=λ x=>by
      funext p
      show (s.2.1.set q x).getD p []=_;unfold vf;rw [List.getD_eq_getElem?_getD,List.getElem?_set];by_cases e:p=q
      . subst e; rw [if_pos rfl,if_pos rfl,if_pos rP]; rfl
      . rw [if_neg (Ne.symm e),if_neg e];show _=s.2.1.getD p [];rw [List.getD_eq_getElem?_getD]
    rw [hq];refine ⟨?_,hd.len.trans h.len,?_,?_,λ p=>?_,λ p hp=>?_⟩
    . have:=hd.ok;rw [nZ] at this;by_cases e:d.1=1
      . rw [vK,if_pos ⟨e,he⟩,hq] at this;rw [if_pos e];have h2:=eG (s.2.1.getD q []++[d.2.2.2.1]);show Ok _ (yB (((R4 s.1 d).1,s.2.1.set q (s.2.1.getD q []++[d.2.2.2.1]),s.2.2):vD)) _;rw [h2];exact this
      . rw [vK,if_neg (λ c=>e c.1)] at this;rw [if_neg e];exact this
    . show (if d.1=1 then _ else _:List (List C0)).length=_
      split
      . rw [List.length_set]; exact h.said
      . exact h.said
    . show (if d.1=4 then _ else _:List Int).length<=_;have:=h.M1
      split
      . rw [List.length_append]; simp only [List.length_singleton]; omega
      . omega
    . show ((if d.1=1 then s.2.1.set q (s.2.1.getD q []++[d.2.2.2.1]) else s.2.1).getD p []).length<=_;have h3:=h.each p;have h4:=h.each q
      split
      . have h2:=congrFun (eG (s.2.1.getD q []++[d.2.2.2.1])) p;have h2:(s.2.1.set q (s.2.1.getD q []++[d.2.2.2.1])).getD p []=vf (yB s) q (s.2.1.getD q []++[d.2.2.2.1]) p:=h2;rw [h2];unfold vf
        split
        . rw [List.length_append]; simp only [List.length_singleton];have h4:(s.2.1.getD q []).length<=i:=h4;omega
        . omega
      . have h3:(s.2.1.getD p []).length<=i:=h3;omega
    . show ((R4 s.1 d).1.2.1.getD p j7).1=decide ((p:Int)∈(if d.1=4 then s.2.2++[(q:Int)] else s.2.2));rw [hd.fal p (by omega),h.za p hp];by_cases e:d.1=4
      . rw [if_pos e];by_cases e2:q=p
        . subst e2;rw [decide_eq_true (p:=d.1=4/\(R4 s.1 d).2=0/\d.2.1=(q:Int)) ⟨e,he,hq⟩,Bool.or_true,decide_eq_true (List.mem_append_right _ (List.mem_singleton.2 rfl))]
        . rw [decide_eq_false (λ c:d.1=4/\_/\_=>e2 (by have:=c.2.2; omega)),Bool.or_false];apply decide_eq_decide.2;rw [List.mem_append,List.mem_singleton];constructor
          . exact .inl
          . rintro (h|h)
            . exact h
            . exact absurd h (by omega)
      . rw [if_neg e,decide_eq_false (λ c:d.1=4/\_/\_=>e c.1),Bool.or_false]
theorem It {n:Int} (hn:1<=n/\n<=6) (l:List H9):∀ i,Hd n i (H7 n l i)
  | 0=>by
    have hl:(uS n).2.1.length=n.toNat:=List.length_replicate ..;have hs:yB (H7 n l 0)=λ _=>[]:=by
      funext p
      show (List.replicate n.toNat ([]:List C0)).getD p []=[];rw [List.getD_eq_getElem?_getD,List.getElem?_replicate]
      split<;>rfl
    refine ⟨by rw [hs]; exact Mi hn,hl,List.length_replicate ..,Nat.le_refl _,λ p=>(by rw [hs]; exact Nat.le_refl _),λ p hp=>?_⟩;show ((List.replicate n.toNat j7).getD p j7).1=_;rw [IA]; rfl
  | i+1=>ZI hn (It hn l i) _
theorem Ri {n:Int} {s:vD} {d:H9} (h:(R4 s.1 d).2≠0\/d.2.1<0\/n<=d.2.1):yf n s d=((R4 s.1 d).1,s.2):=by rw [yf]; exact if_pos h
theorem PW {n:Int} {s:vD} {d:H9} (h1:(R4 s.1 d).2=0) (h2:¬ d.2.1<0) (h3:¬ n<=d.2.1):yf n s d=((R4 s.1 d).1,if d.1=1 then s.2.1.set d.2.1.toNat (s.2.1.getD d.2.1.toNat []++[d.2.2.2.1]) else s.2.1,if d.1=4 then s.2.2++[d.2.1] else s.2.2):=by
  rw [yf]; exact if_neg (λ h=>h.elim (λ e=>e h1) (λ h=>h.elim h2 h3))
attribute [local irreducible] R4 in
set_option maxHeartbeats 4000000 in
theorem b4n:HG.Valid Tryz.prog 23:=by
  refine o7.n8 Ku rfl rfl Tryz.func23 (c:=d8 Tryz.prog 23) rfl rfl Kz rfl ?_;rintro ⟨(n:Int),(l:List H9),⟨⟩⟩ ⟨(hn:1<=n/\n<=6),(hl:l.length<=1048576)⟩ -
  refine j8 (n:=1000) Ku Kz ?_;refine i7 (Zu n l) ?_;have ij:Ty.wb (.d0 true .str)=24:=rfl;simp only [j6,Tree.holds,ij,sL];refine ⟨hn,λ _=>⟨⟨by omega,by omega,by omega,by omega⟩,λ _=>?_⟩⟩;have hW:=It hn l;show Go.Ex.Reach Bs Tryz.f23 (some (H7 n l l.length).1,(H7 n l l.length).2.1,(H7 n l l.length).2.2,true,()) () (.code (g8 (d8 Tryz.prog 23) 7).1::.inLoop (g8 (d8 Tryz.prog 23) 7).1::(g8 (d8 Tryz.prog 23) 7).2) (Kv n l (l.length:Int) ((0:Nat):Int) (H7 n l 0).1.1.1 (H7 n l 0).1.1.2.1 (H7 n l 0).1.2.1 (H7 n l 0).1.2.2.1 (H7 n l 0).1.2.2.2.1 (H7 n l 0).2.1 (H7 n l 0).2.2);refine Reach.M0 Ku Kz (λ i:Nat=>Kv n l (l.length:Int) (i:Int) (H7 n l i).1.1.1 (H7 n l i).1.1.2.1 (H7 n l i).1.2.1 (H7 n l i).1.2.2.1 (H7 n l i).1.2.2.2.1 (H7 n l i).2.1 (H7 n l i).2.2) (λ i=>i<=l.length) (λ i=>l.length - i) 1000 (λ _=>⟨s6 rfl,s6 rfl⟩) ?_ 0 (Nat.zero_le _);rintro i k1 - ih;have k1:i<=l.length:=k1;have hS:=hW i;have ih1:∀ s':vD,i<l.length->s'=yf n (H7 n l i) (Dv i (l.getD i Dh))->_:=λ s' h e=>by
    have:=ih (i+1) (by show i+1<=l.length; omega) (by show l.length - (i+1)<l.length - i; omega);rw [show H7 n l (i+1)=s' from e.symm] at this;exact this
  generalize hs:H7 n l i=s at hS ih1 ⊢;have hg:=(hS.ok.zd (by omega));have hle:s.2.1.length=n.toNat:=hS.said;have gL:s.2.2.length<=i:=hS.M1;have sV:∀ p,(s.2.1.getD p []).length<=i:=hS.each;refine i7 (b8D ..) ?_;have e1:((i:Nat):Int)+1=((i+1:Nat):Int):=by omega
  have om:Ty.wb .str=16:=rfl;have rz:Ty.wb (.int .i64)=8:=rfl;have iC:maxLen=9223372036854775807:=by decide
  have fe:(C9 (Int.tmod (i:Int) 10)).length<=20:=Ce (by have:=Int.tmod_nonneg (a:=(i:Int)) 10 (by omega); omega) (by have:=Int.tmod_lt_of_pos (i:Int) (show (0:Int)<10 by decide); omega);have lC:(C9 (i:Int)).length<=20:=Ce (by omega) (by omega);obtain ⟨d,hd⟩:∃ d,d=l.getD i Dh:=⟨_,rfl⟩;rw [<- hd] at ih1;simp only [Dh] at hd;simp only [j6,Tree.holds,e1,om,rz,sL];rw [<- hd];clear hd;obtain ⟨dk,dw,dh,dt,⟨⟩⟩:=d;obtain ⟨w,sd,fl⟩:=s;have cZ:-9223372036854775808<=((i+1:Nat):Int)/\((i+1:Nat):Int)<=9223372036854775807:=⟨by omega,by omega⟩;have pF:=sV dw.toNat;simp only at hle gL pF;dsimp only at hg ⊢;refine ⟨λ c=>⟨by omega,λ _=>⟨λ c1=>?_,λ c1=>?_⟩⟩,λ c=>?_⟩
  . have jY:Dv i (dk,dw,dh,dt,())=(dk,dw,dh,CG++C9 (Int.tmod i 10)++spT++C9 i,()):=if_pos c1;have ih1:=λ s' h e=>ih1 s' h (by rw [jY]; exact e);have wy:=Ri (n:=n) (s:=(w,sd,fl)) (d:=(dk,dw,dh,CG++C9 (Int.tmod i 10)++spT++C9 i,()));have wn:=PW (n:=n) (s:=(w,sd,fl)) (d:=(dk,dw,dh,CG++C9 (Int.tmod i 10)++spT++C9 i,()));refine ⟨by decide,λ _=>⟨?_,λ _=>⟨?_,λ _=>⟨?_,λ _=>⟨hg,λ _=>?_⟩⟩⟩⟩⟩
    . rw [iC]; omega
    . simp only [List.length_append,List.length_cons,List.length_nil,iC]; omega
    . simp only [List.length_append,List.length_cons,List.length_nil,iC]; omega
    refine ⟨λ e=>⟨cZ,λ _=>?_⟩,λ e=>⟨λ b=>⟨cZ,λ _=>?_⟩,λ b=>⟨λ b2=>⟨cZ,λ _=>?_⟩,λ b2=>⟨λ k1=>⟨by omega,λ _=>⟨by omega,λ _=>⟨⟨by omega,by omega⟩,λ _=>⟨λ k4=>by omega,λ k4=>⟨cZ,λ _=>?_⟩⟩⟩⟩⟩,λ k1=>absurd c1 k1⟩⟩⟩⟩
    . exact ih1 (_,_,_) (by omega) (wy (.inl e)).symm
    . exact ih1 (_,_,_) (by omega) (wy (.inr (.inl b))).symm
    . exact ih1 (_,_,_) (by omega) (wy (.inr (.inr b2))).symm
    . exact ih1 (_,_,_) (by omega) (by
        rw [wn (by simpa using e) b b2];simp only;rw [if_pos c1,if_neg k4]; rfl)
  . have jY:Dv i (dk,dw,dh,dt,())=(dk,dw,dh,dt,()):=if_neg c1;have ih1:=λ s' h e=>ih1 s' h (by rw [jY]; exact e);have wy:=Ri (n:=n) (s:=(w,sd,fl)) (d:=(dk,dw,dh,dt,()));have wn:=PW (n:=n) (s:=(w,sd,fl)) (d:=(dk,dw,dh,dt,()));refine ⟨hg,λ _=>?_⟩;refine ⟨λ e=>⟨cZ,λ _=>?_⟩,λ e=>⟨λ b=>⟨cZ,λ _=>?_⟩,λ b=>⟨λ b2=>⟨cZ,λ _=>?_⟩,λ b2=>⟨λ k1=>absurd k1 c1,λ k1=>⟨λ k4=>⟨⟨by omega,by omega⟩,λ _=>⟨cZ,λ _=>?_⟩⟩,λ k4=>⟨cZ,λ _=>?_⟩⟩⟩⟩⟩⟩
    . exact ih1 (_,_,_) (by omega) (wy (.inl e)).symm
    . exact ih1 (_,_,_) (by omega) (wy (.inr (.inl b))).symm
    . exact ih1 (_,_,_) (by omega) (wy (.inr (.inr b2))).symm
    . exact ih1 (_,_,_) (by omega) (by
        rw [wn (by simpa using e) b b2];simp only;rw [if_neg c1,if_pos k4]; rfl)
    . exact ih1 (_,_,_) (by omega) (by
        rw [wn (by simpa using e) b b2];simp only;rw [if_neg c1,if_neg k4])
  . obtain rfl:i=l.length:=by omega
    rw [hs]; rfl
def FY:o7:={ ps:=[.v (.d0 false r8),.v (.d0 false r8)],rs:=[.bool],pre:=λ _=>True,fn:=λ x=>(decide ((show List (u5) from x.1)=(show List (u5) from x.2.1)),()),out:=λ _=>() }
noncomputable def CT:Env:={ P:=Tryz.prog,tt:=tt,C5:=[],res:=[Go.ResultVar.tmp 4],rs:=[Ty.bool],ps:=[PK.v L9,PK.v L9],y9:=[(4,[(0,none),(1,none),(12,none),(13,none)])],nt:=26 }
theorem Iv:w5 CT:=x6 p9 trivial
theorem a91:B0 CT Tryz.f21:=⟨rfl,rfl⟩
theorem Vs (x0:List (Int×yY×Unit)) (x1:List (Int×yY×Unit)):exec CT 1000 [.code (d8 Tryz.prog 21)] (s7 FY.ps ((x0,x1,()))) =
  cond (decide ((↑(List.length x0):Int)≠(↑(List.length x1):Int))) (.ret ((false,()))) (.ctL (g8 (d8 Tryz.prog 21) 4) (St.mk [(0,AV.val L9 x0),(1,AV.val L9 x1),(12,AV.val e8 (↑(List.length x0):Int)),(13,AV.val e8 (0:Int))] [])):=by kernel_rfl
def Oi (v0:List (Int×yY×Unit)) (v1:List (Int×yY×Unit)) (v12:Int) (uF:Int):St:=St.mk [(0,AV.val L9 v0),(1,AV.val L9 v1),(12,AV.val e8 v12),(13,AV.val e8 uF)] []
theorem Wi (v0:List (Int×yY×Unit)) (v1:List (Int×yY×Unit)) (v12:Int) (uF:Int):exec CT 1000 (.code (g8 (d8 Tryz.prog 21) 4).1::.inLoop (g8 (d8 Tryz.prog 21) 4).1::(g8 (d8 Tryz.prog 21) 4).2) (Oi v0 v1 v12 uF) =
  cond (decide (uF<v12)) (.f7 ((0:Int)<=uF/\uF<(↑(List.length v0):Int)) (.f7 ((0:Int)<=uF/\uF<(↑(List.length v1):Int)) (cond (!Y2 r8 (List.getD v0 (Int.toNat uF) ((0:Int),[],())) (List.getD v1 (Int.toNat uF) ((0:Int),[],()))) (.ret ((false,()))) (.f7 (r7 IntKind.i64 (uF+(1:Int))) (.ctL (g8 (d8 Tryz.prog 21) 4) (St.mk [(0,AV.val L9 v0),(1,AV.val L9 v1),(12,AV.val e8 v12),(13,AV.val e8 (uF+(1:Int)))] [])))))) (.ret ((true,()))):=by kernel_rfl
theorem b8o:FY.Valid Tryz.prog 21:=by
  refine o7.n8 Iv rfl rfl Tryz.func21 (c:=d8 Tryz.prog 21) rfl rfl a91 rfl ?_;rintro ⟨(l:List (u5)),(m:List (u5)),⟨⟩⟩ - ⟨⟨hl,-⟩,-⟩;have hl:l.length<=9223372036854775807:=hl;refine j8 (n:=1000) Iv a91 ?_;refine i7 (Vs l m) ?_;have fin:∀ {b:Bool},(b=true↔l=m)->((b,()):Bool×Unit)=(decide (l=m),()):=λ {b} h=>by
    cases b with
    | true=>rw [decide_eq_true (h.1 rfl)]
    | false=>rw [decide_eq_false (λ e=>by cases h.2 e)]
  simp only [j6,Tree.holds,sL];refine ⟨λ c=>fin ⟨λ h=>(by cases h),λ h=>absurd (congrArg (λ q:List (u5)=>(q.length:Int)) h) c⟩,λ c=>?_⟩;refine Reach.M0 Iv a91 (λ i:Nat=>Oi l m (l.length:Int) (i:Int)) (λ i=>i<=l.length/\∀ j,j<i->l.getD j (0,[],())=m.getD j (0,[],()))
    (λ i=>l.length - i) 1000 (λ _=>⟨s6 rfl,s6 rfl⟩) ?_ 0 ⟨Nat.zero_le _,λ j hj=>by omega⟩
  rintro i ⟨k1,k2⟩ - ih;refine i7 (Wi ..) ?_;have c:l.length=m.length:=by omega
  simp only [j6,Tree.holds,sL];refine ⟨λ d1=>⟨by omega,λ _=>⟨by omega,λ _=>⟨λ d2=>fin ⟨λ h=>(by cases h),λ h=>absurd (congrArg (λ q:List (u5)=>q.getD i (0,[],())) h) (Za d2)⟩,λ d2=>⟨by omega,λ _=>ih (i+1) ⟨by omega,λ j hj=>?_⟩ (by omega)⟩⟩⟩⟩,λ d1=>fin ⟨λ _=>eq_of_getD c (λ j hj=>k2 j (by omega)),λ _=>rfl⟩⟩;rcases Nat.lt_or_ge j i with h|h
  . exact k2 j h
  . obtain rfl:j=i:=by omega
    exact PB.1 d2
noncomputable def vG:{ f:Int->List H9->Nat->vD // f=H7 }:=Classical.choice ⟨⟨H7,rfl⟩⟩
noncomputable def xO:{ f:Nat->f8->f8×Bool // f=I9 }:=Classical.choice ⟨⟨I9,rfl⟩⟩
def Ub (g:Int->List H9->Nat->vD):o7:={ ps:=[.v e8,.v (.d0 false xx)],rs:=[.box true none r9,.d0 true (.d0 true .str),.d0 true e8,.bool],pre:=λ x=>(LE.le (α:=Int) 1 x.1/\LE.le (α:=Int) x.1 6)/\List.length (α:=H9) x.2.1<=1048576,fn:=λ x=>(some (g x.1 x.2.1 (List.length (α:=H9) x.2.1)).1,(g x.1 x.2.1 (List.length (α:=H9) x.2.1)).2.1,(g x.1 x.2.1 (List.length (α:=H9) x.2.1)).2.2,true,()),out:=λ _=>() }
noncomputable def Du:o7:={ ps:=[.v e8,.v (.d0 false xx)],rs:=[.box true none r9,.d0 true (.d0 true .str),.d0 true e8,.bool],pre:=λ x=>(LE.le (α:=Int) 1 x.1/\LE.le (α:=Int) x.1 6)/\List.length (α:=H9) x.2.1<=1048576,fn:=λ x=>(some (vG.1 x.1 x.2.1 (List.length (α:=H9) x.2.1)).1,(vG.1 x.1 x.2.1 (List.length (α:=H9) x.2.1)).2.1,(vG.1 x.1 x.2.1 (List.length (α:=H9) x.2.1)).2.2,true,()),out:=λ _=>() }
theorem b5X:Du.Valid Tryz.prog 23:=by
  have e:Du=HG:=(show Du=Ub vG.1 from rfl).trans (by rw [vG.2]; rfl);rw [e]; exact b4n
def UG (g:Nat->f8->f8×Bool):o7:={ ps:=[.rw r9,.v e8],rs:=[.bool],pre:=λ x=>Fit x.2.1 x.1,fn:=λ x=>((g (Int.toNat x.2.1) x.1).2,()),out:=λ x=>((g (Int.toNat x.2.1) x.1).1,()) }
noncomputable def DS:o7:={ ps:=[.rw r9,.v e8],rs:=[.bool],pre:=λ x=>Fit x.2.1 x.1,fn:=λ x=>((xO.1 (Int.toNat x.2.1) x.1).2,()),out:=λ x=>((xO.1 (Int.toNat x.2.1) x.1).1,()) }
theorem b4u:DS.Valid Tryz.prog 16:=by
  have e:DS=IX:=(show DS=UG xO.1 from rfl).trans (by rw [xO.2]; rfl);rw [e]; exact b2w
abbrev X5:List H9:=List.set [((0:Int),(0:Int),(0:Int),([]:yY),())] (Int.toNat ((0:Nat):Int)) (1,1,0,[],())
def HE:o7:={ ps:=[],rs:=[.bool],pre:=λ _=>True,fn:=λ _=>(true,()),out:=λ _=>() }
noncomputable def Br:Env:={ P:=Tryz.prog,tt:=tt,C5:=[(23,Du),(16,DS),(19,As),(21,FY)],res:=[Go.ResultVar.tmp 0],rs:=[Ty.bool],ps:=[],y9:=[(5,[(1,none),(2,some (Ty.d0 true (Ty.d0 true Ty.str))),(30,none)])],nt:=54 }
theorem Ks:w5 Br:=x6 p9 ⟨b5X,b4u,Kj,b8o,trivial⟩
theorem Ky:B0 Br Tryz.f12:=⟨rfl,rfl⟩
theorem Zt:exec Br 1000 [.code (d8 Tryz.prog 12)] (s7 HE.ps (())) =
  .f7 (((1:Int)<=(3:Int)/\(3:Int)<=(6:Int))/\List.length X5<=1048576) (.f7 ((0:Int)<=(1:Int)/\(1:Int)<(↑(List.length (Prod.fst (Prod.snd (Subtype.val vG (3:Int) X5 (List.length X5))))):Int)) (cond (decide ((↑(List.length (List.getD (Prod.fst (Prod.snd (Subtype.val vG (3:Int) X5 (List.length X5)))) (Int.toNat (1:Int)) [])):Int)≠(1:Int))) (.ret ((false,()))) (.f7 (Fit (50:Int) (Prod.fst (Subtype.val vG (3:Int) X5 (List.length X5)))) (cond (!Prod.snd (Subtype.val xO (Int.toNat (50:Int)) (Prod.fst (Subtype.val vG (3:Int) X5 (List.length X5))))) (.ret ((false,()))) (.ctL (g8 (d8 Tryz.prog 12) 5) (St.mk [(1,AV.ptr 1011 []),(2,AV.at_ 1000002 []),(30,AV.val e8 (0:Int))] [(1011,g9.var r9 (Prod.fst (Subtype.val xO (Int.toNat (50:Int)) (Prod.fst (Subtype.val vG (3:Int) X5 (List.length X5)))))),(1000002,g9.own (Ty.d0 true (Ty.d0 true Ty.str)) (Prod.fst (Prod.snd (Subtype.val vG (3:Int) X5 (List.length X5)))))])))))):=by kernel_rfl
def Kt (v30:Int) (bY:Int) (bI:Int) (bR:List n7) (bH:List yY) (br:List yY) (eC:List (List yY)):St:=St.mk [(1,AV.ptr 1011 []),(2,AV.at_ 1000002 []),(30,AV.val e8 v30)] [(1011,g9.var r9 ((bY,bI,()),bR,bH,br,())),(1000002,g9.own (Ty.d0 true (Ty.d0 true Ty.str)) eC)]
theorem b8E (v30:Int) (bY:Int) (bI:Int) (bR:List n7) (bH:List yY) (br:List yY) (eC:List (List yY)):exec Br 1000 (.code (g8 (d8 Tryz.prog 12) 5).1::.inLoop (g8 (d8 Tryz.prog 12) 5).1::(g8 (d8 Tryz.prog 12) 5).2) (Kt v30 bY bI bR bH br eC) =
  cond (decide (v30<(3:Int))) (.f7 (List.length bR<=6/\List.length (R8 ((bY,bI,()),bR,bH,br,()) v30)<=5864062014805) (cond (decide (Prod.fst (Prod.snd (V0 ((bY,bI,()),bR,bH,br,()) v30))≠(0:Int))) (.ret ((false,()))) (.f7 ((0:Int)<=(1:Int)/\(1:Int)<(↑(List.length eC):Int)) (.f7 ((0:Int)<=(0:Int)/\(0:Int)<(↑(List.length (List.getD eC (Int.toNat (1:Int)) [])):Int)) (.f7 (True) (cond (!decide (Prod.fst (V0 ((bY,bI,()),bR,bH,br,()) v30)=List.set [((0:Int),[],())] (Int.toNat (↑0:Int)) ((1:Int),List.getD (List.getD eC (Int.toNat (1:Int)) []) (Int.toNat (0:Int)) [],()))) (.ret ((false,()))) (.f7 (r7 IntKind.i64 (v30+(1:Int))) (.ctL (g8 (d8 Tryz.prog 12) 5) (St.mk [(1,AV.ptr 1011 []),(2,AV.at_ 1000002 []),(30,AV.val e8 (v30+(1:Int)))] [(1011,g9.var r9 ((bY,bI,()),bR,bH,br,())),(1000002,g9.own (Ty.d0 true (Ty.d0 true Ty.str)) eC)]))))))))) (.ret ((true,()))):=by kernel_rfl
def xG:H9:=(1,1,0,[],())
theorem TU:(H7 3 [xG] 1).2.1.length=3/\((H7 3 [xG] 1).2.1.getD 1 []).length=1/\(I9 50 (H7 3 [xG] 1).1).2=true:=by decide +kernel
theorem TV:(List.range 3).all (λ p=>decide (V0 (I9 50 (H7 3 [xG] 1).1).1 (p:Int)=([(1,((H7 3 [xG] 1).2.1.getD 1 []).getD 0 [],())],0,())))=true:=by decide +kernel
theorem PA {said:Nat->List C0}:∀ (k:Nat) {c:Nat} {w:f8},Ok c said w->Ok (c+16*k) said (I9 k w).1
  | 0,_,_,h=>h
  | k+1,c,w,h=>by
    rw [I9]
    split
    . exact ⟨h.mem,h.sz.mono (by omega),h.inv⟩
    split
    . have:=h.CP 0 1;exact ⟨this.mem,this.sz.mono (by omega),this.inv⟩
    . have:=PA k (h.CP 0 1);rw [show c+16*(k+1)=c+16+16*k by omega];exact this
attribute [local irreducible] H7 I9 V0 in
theorem b4o:HE.Valid Tryz.prog 12:=by
  refine o7.n8 Ks rfl rfl Tryz.func12 (c:=d8 Tryz.prog 12) rfl rfl Ky rfl ?_;rintro ⟨⟩ - -
  refine j8 (n:=1000) Ks Ky ?_;refine i7 (Zt ) ?_;have hw:vG.1 3 X5 (List.length X5)=H7 3 [xG] 1:=by rw [vG.2]; rfl
  obtain ⟨s,hs⟩:∃ s,s=H7 3 [xG] 1:=⟨_,rfl⟩;obtain ⟨ha,hb,hc⟩:=TU;have hd:=TV;have aM:=(It (n:=3) (by decide) [xG] 1).ok;rw [hw];rw [<- hs] at ha hb hc hd aM ⊢;obtain ⟨u,hu⟩:∃ u,u=(I9 50 s.1).1:=⟨_,rfl⟩;have sX:xO.1 (Int.toNat 50) s.1=I9 50 s.1:=by rw [xO.2]; rfl
  have kz:=PA 50 aM;rw [sX];rw [<- hu] at kz hd;rw [<- hu];have mB:(s.2.1.length:Int)=3:=by omega
  have cQ:((s.2.1.getD (Int.toNat 1) []).length:Int)=1:=by show ((s.2.1.getD 1 []).length:Int)=1; omega
  simp only [j6,Tree.holds,mB,cQ,hc,sL];refine ⟨⟨by omega,by decide⟩,λ _=>⟨by omega,λ _=>⟨λ c=>absurd rfl c,λ _=>⟨⟨by decide,⟨_,_,aM,by decide⟩⟩,λ _=>⟨λ c=>absurd c (by decide),?_⟩⟩⟩⟩⟩;suffices go:Go.Ex.Reach Br Tryz.f12 (true,()) () (.code (g8 (d8 Tryz.prog 12) 5).1::.inLoop (g8 (d8 Tryz.prog 12) 5).1::(g8 (d8 Tryz.prog 12) 5).2) (Kt ((0:Nat):Int) u.1.1 u.1.2.1 u.2.1 u.2.2.1 u.2.2.2.1 s.2.1) by exact go
  refine Reach.M0 Ks Ky (λ p:Nat=>Kt (p:Int) u.1.1 u.1.2.1 u.2.1 u.2.2.1 u.2.2.2.1 s.2.1) (λ p=>p<=3) (λ p=>3 - p) 1000 (λ _=>⟨s6 rfl,s6 rfl⟩) ?_ 0 (Nat.zero_le _);rintro p k1 - ih;have k1:p<=3:=k1;refine i7 (b8E ..) ?_;have e1:((p:Nat):Int)+1=((p+1:Nat):Int):=by omega
  have ih1:p<3->_:=λ h=>ih (p+1) (by show p+1<=3; omega) (by show 3 - (p+1)<3 - p; omega);have hv:p<3->V0 ((u.1.1,u.1.2.1,()),u.2.1,u.2.2.1,u.2.2.2.1,()) (p:Int)=([(1,(s.2.1.getD 1 []).getD 0 [],())],0,()):=λ h=>of_decide_eq_true (List.all_eq_true.1 hd p (List.mem_range.2 h));simp only [j6,Tree.holds,e1,sL];refine ⟨λ c=>⟨⟨kz.M1,Nat.le_trans (kz.sz.log p) (by omega)⟩,λ _=>⟨λ d=>?_,λ _=>⟨by omega,λ _=>⟨by omega,λ _=>⟨λ e=>?_,λ _=>⟨F0.2 ⟨by omega,by omega⟩,λ _=>ih1 (by omega)⟩⟩⟩⟩⟩⟩,λ c=>rfl⟩
  . rw [hv (by omega)] at d; exact absurd rfl d
  . rw [hv (by omega)] at e; exact absurd rfl e
theorem Vp {w:f8} {p:Nat} (h:p<w.2.1.length):V0 w p=(R8 w p,0,()):=by
  unfold V0;exact if_neg (λ c=>a28.2 ⟨by omega,by omega⟩ c)
end Go.Proofs.YtijlnmgondibnaaGreatDoor
namespace Go.Proofs.YtijlnmgondibnaaGreatDoor
open Go.Ex
set_option maxRecDepth 100000
structure VOk (w:f8):Prop where
  I6:R5 w.1=0
  mem:∀ i:Nat,i<8->X1 w.1.2.1 i=true->i<w.2.1.length
theorem ZF {v:vr} (h:(0<=v.1/\v.1<=16777215)/\v.2.1≠0/\v.2.1<64):R5 v=0:=by
  unfold R5; rw [if_neg (by omega)]
theorem VOk.new {n:Int} (h:1<=n/\n<=6):VOk (uS n):=by
  have key:∀ k:Fin 7,1<=k.val->R5 (0,zq ((k.val:Nat):Int),())=0/\∀ i:Fin 8,X1 (zq ((k.val:Nat):Int)) i.val=true->i.val<k.val:=by decide +kernel
  obtain ⟨h1,h2⟩:=key ⟨n.toNat,by omega⟩ (by show 1<=n.toNat; omega);have e:((n.toNat:Nat):Int)=n:=by omega
  simp only [e] at h1 h2;refine ⟨h1,λ i hi hm=>?_⟩;have:=h2 ⟨i,hi⟩ hm;rw [show (uS n).2.1.length=n.toNat from List.length_replicate ..];exact this
theorem Us {x:Int} (h:r7 .u8 x):bOr .u8 x 0=x:=by
  have key:∀ n:Fin 256,bOr .u8 ((n.val:Nat):Int) 0=((n.val:Nat):Int):=by decide +kernel
  have h:=u8_in.1 h;have:=key ⟨x.toNat,by omega⟩
  rwa [show ((x.toNat:Nat):Int)=x by omega] at this
theorem Wz {x:Int} (h:r7 .u8 x):T1 .u8 x 0=0/\T1 .u8 0 x=0:=by
  have key:∀ n:Fin 256,T1 .u8 ((n.val:Nat):Int) 0=0/\T1 .u8 0 ((n.val:Nat):Int)=0:=by decide +kernel
  have h:=u8_in.1 h;have:=key ⟨x.toNat,by omega⟩
  rwa [show ((x.toNat:Nat):Int)=x by omega] at this
theorem Ys {x:Int} (h:r7 .u8 x) (h6:bit x 6=false) (h7:bit x 7=false):x<64:=by
  have key:∀ n:Fin 256,bit ((n.val:Nat):Int) 6=false->bit ((n.val:Nat):Int) 7=false->((n.val:Nat):Int)<64:=by decide +kernel
  have h:=u8_in.1 h;have:=key ⟨x.toNat,by omega⟩;rw [show ((x.toNat:Nat):Int)=x by omega] at this;exact this h6 h7
section
variable {c:Nat} {said:Nat->List C0} {w:f8}
theorem b8l (h:Ok c said w) (hv:VOk w) (hn:¬ (R0 w).2.1≠0):(∃ p:Nat,p<w.2.1.length/\s5 w p=true)/\VOk (F1 w):=by
  have hf:=h.M1;obtain ⟨g1,g2⟩:=Jb h.mem (show w.2.1.length<=8 by omega);obtain ⟨e1,e2,e3⟩:=PO hn;have bm:r7 .u8 w.1.2.1:=u8_in.2 h.mem;have gK:half (Q9 .u8 w.1.2.1 (D5 w w.2.1.length)) w.1.2.1=true:=by
    unfold R0 R2 at hn;split at hn
    . rename_i c; exact absurd c hn
    split at hn
    . exact absurd (by decide) hn
    split at hn
    . exact absurd (by decide) hn
    split at hn
    . exact absurd (by decide) hn
    split at hn
    . exact absurd (by decide) hn
    . rename_i c; simpa using c
  have bE:Q9 .u8 w.1.2.1 (D5 w w.2.1.length)≠0:=by
    intro e0;rw [e0] at gK;unfold half at gK;rw [(Wz bm).2] at gK;have h1:=of_decide_eq_true gK;have h2:=(NX w.1.2.1).1;have h3:vo 0=0:=by decide
    omega
  have fa:(F1 w).1=(w.1.1+1,bOr .u8 (Q9 .u8 w.1.2.1 (D5 w w.2.1.length)) 0,()):=e1;rw [Us zW] at fa;have hlen:(F1 w).2.1.length=w.2.1.length:=List.length_mapIdx ..;have jy:∀ i,bit (Q9 .u8 w.1.2.1 (D5 w w.2.1.length)) i=(bit w.1.2.1 i && !bit (D5 w w.2.1.length) i):=λ i=>Rz u8s bm g1 i;have km:∀ i,i<8->bit w.1.2.1 i=true->i<w.2.1.length:=λ i hi hb=>hv.mem i hi (by rw [zR h.mem hi]; exact hb);constructor
  . by_cases hex:∃ p:Nat,p<w.2.1.length/\s5 w p=true
    . exact hex
    . exfalso;apply bE;refine (ZJ (u8_in.1 zW).1).2 (λ i=>?_);by_cases hi:i<8
      . rw [jy i];cases hb:bit w.1.2.1 i with
        | false=>rfl
        | true =>
          have jV:=km i hi hb;have ha:s5 w i=false:=by
            cases ha:s5 w i with
            | false=>rfl
            | true=>exact absurd ⟨i,jV,ha⟩ hex
          rw [g2 i hi,decide_eq_true jV,zR h.mem hi,hb,ha]; rfl
      . exact MH u8s zW (by show 8<=i; omega)
  . refine ⟨?_,λ i hi hm=>?_⟩
    . rw [fa];refine ZF ⟨by show 0<=w.1.1+1/\w.1.1+1<=16777215; omega,bE,Ys zW ?_ ?_⟩
      . rw [jy];cases hb:bit w.1.2.1 6 with
        | false=>rfl
        | true=>have:=km 6 (by decide) hb; omega
      . rw [jy];cases hb:bit w.1.2.1 7 with
        | false=>rfl
        | true=>have:=km 7 (by decide) hb; omega
    . rw [hlen];rw [fa] at hm;rw [zR (u8_in.1 zW) hi,jy,Bool.and_eq_true] at hm;exact km i hi hm.1
theorem WU (w:f8) (d:H9):(R4 w d).1.1=w.1\/(¬ (R0 w).2.1≠0/\(R4 w d).1=F1 w):=by
  unfold R4
  split
  . exact .inl (Rk _ _ _).view
  split
  . exact .inl (So _ _).view
  split
  . exact .inl (Sa _ _ _).view
  split
  . left; unfold vu; split<;>rfl
  split
  . by_cases c:(R0 w).2.1≠0
    . rw [Kh c]; exact .inl rfl
    . rw [KC c]; exact .inr ⟨c,rfl⟩
  . exact .inl rfl
theorem VOk.R4 (h:Ok c said w) (hv:VOk w) (d:H9):VOk (R4 w d).1:=by
  have hl:=(Bw h d).len;rcases WU w d with e|⟨c,e⟩
  . exact ⟨by rw [e]; exact hv.I6,λ i hi hm=>by rw [hl]; rw [e] at hm; exact hv.mem i hi hm⟩
  . rw [e]; exact (b8l h hv c).2
end
end Go.Proofs.YtijlnmgondibnaaGreatDoor
namespace Go.Proofs.YtijlnmgondibnaaGreatDoor
open Go.Ex
set_option maxRecDepth 100000
attribute [local irreducible] Go.Ex.exec
theorem Yt {w:f8} {p:Nat} (h:p<w.2.1.length):vS w p=((V3 zeroV (Y3 (R8 w p))).1,0,()):=by
  unfold vS;exact if_neg (λ c=>a28.2 ⟨by omega,by omega⟩ c)
structure c9E (n:Int) (w u:f8) (fl:List Int) (B:List D4):Prop where
  num:u.1.1=w.1.1+1
  len:u.2.1.length=n.toNat
  some_:GB u fl n.toNat≠[]
  log:∀ j:Nat,j<n.toNat->X1 u.1.2.1 j=true->¬ (j:Int)∈fl->R8 u j=B
  grow:∀ j:Nat,j<n.toNat->X1 u.1.2.1 j=true->¬ (j:Int)∈fl->(R8 w j).length<=B.length
def FX:o7:={ ps:=[.v (.d0 false .str),.v (.d0 false .str)],rs:=[.bool],pre:=λ _=>True,fn:=λ x=>(decide ((show List yY from x.1)=(show List yY from x.2.1)),()),out:=λ _=>() }
noncomputable def CS:Env:={ P:=Tryz.prog,tt:=tt,C5:=[],res:=[Go.ResultVar.tmp 4],rs:=[Ty.bool],ps:=[PK.v (Ty.d0 false Ty.str),PK.v (Ty.d0 false Ty.str)],y9:=[(4,[(0,none),(1,none),(12,none),(13,none)])],nt:=26 }
theorem Iu:w5 CS:=x6 p9 trivial
theorem Jm:B0 CS Tryz.f22:=⟨rfl,rfl⟩
theorem Vr (x0:List yY) (x1:List yY):exec CS 1000 [.code (d8 Tryz.prog 22)] (s7 FX.ps ((x0,x1,()))) =
  cond (decide ((↑(List.length x0):Int)≠(↑(List.length x1):Int))) (.ret ((false,()))) (.ctL (g8 (d8 Tryz.prog 22) 4) (St.mk [(0,AV.val (Ty.d0 false Ty.str) x0),(1,AV.val (Ty.d0 false Ty.str) x1),(12,AV.val e8 (↑(List.length x0):Int)),(13,AV.val e8 (0:Int))] [])):=by kernel_rfl
def Oh (v0:List yY) (v1:List yY) (v12:Int) (uF:Int):St:=St.mk [(0,AV.val (Ty.d0 false Ty.str) v0),(1,AV.val (Ty.d0 false Ty.str) v1),(12,AV.val e8 v12),(13,AV.val e8 uF)] []
theorem Wh (v0:List yY) (v1:List yY) (v12:Int) (uF:Int):exec CS 1000 (.code (g8 (d8 Tryz.prog 22) 4).1::.inLoop (g8 (d8 Tryz.prog 22) 4).1::(g8 (d8 Tryz.prog 22) 4).2) (Oh v0 v1 v12 uF) =
  cond (decide (uF<v12)) (.f7 ((0:Int)<=uF/\uF<(↑(List.length v0):Int)) (.f7 ((0:Int)<=uF/\uF<(↑(List.length v1):Int)) (cond (decide (List.getD v0 (Int.toNat uF) []≠List.getD v1 (Int.toNat uF) [])) (.ret ((false,()))) (.f7 (r7 IntKind.i64 (uF+(1:Int))) (.ctL (g8 (d8 Tryz.prog 22) 4) (St.mk [(0,AV.val (Ty.d0 false Ty.str) v0),(1,AV.val (Ty.d0 false Ty.str) v1),(12,AV.val e8 v12),(13,AV.val e8 (uF+(1:Int)))] [])))))) (.ret ((true,()))):=by kernel_rfl
theorem b8p:FX.Valid Tryz.prog 22:=by
  refine o7.n8 Iu rfl rfl Tryz.func22 (c:=d8 Tryz.prog 22) rfl rfl Jm rfl ?_;rintro ⟨(l:List yY),(m:List yY),⟨⟩⟩ - ⟨⟨hl,-⟩,-⟩;have hl:l.length<=9223372036854775807:=hl;refine j8 (n:=1000) Iu Jm ?_;refine i7 (Vr l m) ?_;have fin:∀ {b:Bool},(b=true↔l=m)->((b,()):Bool×Unit)=(decide (l=m),()):=λ {b} h=>by
    cases b with
    | true=>rw [decide_eq_true (h.1 rfl)]
    | false=>rw [decide_eq_false (λ e=>by cases h.2 e)]
  simp only [j6,Tree.holds,sL];refine ⟨λ c=>fin ⟨λ h=>(by cases h),λ h=>absurd (congrArg (λ q:List yY=>(q.length:Int)) h) c⟩,λ c=>?_⟩;refine Reach.M0 Iu Jm (λ i:Nat=>Oh l m (l.length:Int) (i:Int)) (λ i=>i<=l.length/\∀ j,j<i->l.getD j []=m.getD j [])
    (λ i=>l.length - i) 1000 (λ _=>⟨s6 rfl,s6 rfl⟩) ?_ 0 ⟨Nat.zero_le _,λ j hj=>by omega⟩
  rintro i ⟨k1,k2⟩ - ih;refine i7 (Wh ..) ?_;have c:l.length=m.length:=by omega
  simp only [j6,Tree.holds,sL];refine ⟨λ d1=>⟨by omega,λ _=>⟨by omega,λ _=>⟨λ d2=>fin ⟨λ h=>(by cases h),λ h=>absurd (congrArg (λ q:List yY=>q.getD i []) h) (d2)⟩,λ d2=>⟨by omega,λ _=>ih (i+1) ⟨by omega,λ j hj=>?_⟩ (by omega)⟩⟩⟩⟩,λ d1=>fin ⟨λ _=>eq_of_getD c (λ j hj=>k2 j (by omega)),λ _=>rfl⟩⟩;rcases Nat.lt_or_ge j i with h|h
  . exact k2 j h
  . obtain rfl:j=i:=by omega
    exact Decidable.not_not.1 d2
theorem Yv {w:f8} {p:Nat} (h:p<w.2.1.length):xd w p=((I5 w p).2.1,0,()):=by
  unfold xd;exact if_neg (λ c=>a28.2 ⟨by omega,by omega⟩ c)
structure Qt (n:Int) (sd:List (List C0)) (w:f8):Prop where
  ok:Ok 0 (λ p=>sd.getD p []) w
  view:w.1=(uS n).1
  len:w.2.1.length=n.toNat
  said:sd.length=n.toNat
  all:∀ p:Nat,p<n.toNat->w.2.1.getD p j7=(false,[],(0,sd.getD p [],()),(0,[],()),(0,[],()),())
  ord:w.2.2.1=[]
theorem Qt.new {n:Int} (hn:1<=n/\n<=6):Qt n (List.replicate n.toNat []) (uS n):=by
  have hs:(λ p=>(List.replicate n.toNat ([]:List C0)).getD p [])=λ _=>[]:=by
    funext p
    rw [List.getD_eq_getElem?_getD,List.getElem?_replicate]
    split<;>rfl
  refine ⟨by rw [hs]; exact Mi hn,rfl,List.length_replicate ..,List.length_replicate ..,λ p hp=>?_,rfl⟩;have:(uS n).2.1.getD p j7=j7:=IA;rw [this,show (List.replicate n.toNat ([]:List C0)).getD p []=[] from congrFun hs p]; rfl
theorem Qt.sz {n:Int} {sd:List (List C0)} {w:f8} (hl:w.2.1.length=n.toNat) (ha:∀ p:Nat,p<n.toNat->w.2.1.getD p j7=(false,[],(0,sd.getD p [],()),(0,[],()),(0,[],()),())) (ho:w.2.2.1=[])
    (hs:∀ p:Nat,(sd.getD p []).length<=16):Sz 0 w:=by
  have hx:∀ i:Nat,(w.2.1.getD i j7).2.1=[]/\(w.2.1.getD i j7).2.2.1.2.1.length<=16:=λ i=>by
    by_cases h:i<n.toNat
    . rw [ha i h]; exact ⟨rfl,hs i⟩
    . rw [List.getD_eq_getElem?_getD,List.getElem?_eq_none (by omega)]; exact ⟨rfl,Nat.zero_le _⟩
  exact ⟨λ i=>by rw [(hx i).1]; exact Nat.le_refl _,by rw [ho]; exact Nat.le_refl _,λ i s h=>(by rw [(hx i).1] at h; cases h),λ i=>(hx i).2⟩
theorem Qt.short {n:Int} {sd:List (List C0)} {w:f8} (h:Qt n sd w) (p:Nat):(sd.getD p []).length<=16:=by
  by_cases hp:p<n.toNat
  . have:=h.ok.sz.late p;rw [h.all p hp] at this;exact this
  . have:=h.said;rw [List.getD_eq_getElem?_getD,List.getElem?_eq_none (by omega)]; exact Nat.zero_le _
theorem b7I (w:f8) (k f t s:Int) (x:C0):((J5 w k f t s x).2.2.2.1.length:Int)<=w.2.2.2.1.length+1:=by
  by_cases h:(T3 (k,f,t,w.1.1,s,[0,0,0,0,0,0],x,())).2.1=0/\(w.2.2.2.1.length:Int)<60
  . rw [Es h.1 h.2];show ((w.2.2.2.1++[_]).length:Int)<=_;rw [List.length_append]; simp
  . rw [Cb h]; omega
theorem Qt.say {n:Int} {sd:List (List C0)} {w:f8} (h:Qt n sd w) {p:Nat} (hp:p<n.toNat) (t:C0) :
    ((Q4 w p t).2≠0->Qt n sd (Q4 w p t).1)/\((Q4 w p t).2=0->Qt n (sd.set p (sd.getD p []++[t])) (Q4 w p t).1)/\((Q4 w p t).1.2.2.2.1.length:Int)<=w.2.2.2.1.length+1:=by
  have hd:=Bw h.ok (Ao p t);rw [MQ] at hd;have ga:=hd.ok;rw [Q4] at ga ⊢;by_cases a:J9 w p≠0
  . rw [if_pos a]; exact ⟨λ _=>h,λ e=>absurd e a,by show (w.2.2.2.1.length:Int)<=_; omega⟩
  rw [if_neg a] at ga ⊢;by_cases b:(150:Int)<t.length
  . rw [if_pos b]; exact ⟨λ _=>h,λ e=>absurd e (show ¬ (2:Int)=0 by decide),by show (w.2.2.2.1.length:Int)<=_; omega⟩
  rw [if_neg b] at ga ⊢;by_cases b2:(w.2.2.2.1.length:Int)=60
  . rw [if_pos b2]; exact ⟨λ _=>h,λ e=>absurd e (show ¬ (8:Int)=0 by decide),by show (w.2.2.2.1.length:Int)<=_; omega⟩
  rw [if_neg b2] at ga ⊢;by_cases b3:(K3 (I5 w p) t).2.1≠0
  . rw [if_pos b3]; exact ⟨λ _=>h,λ e=>absurd e b3,by show (w.2.2.2.1.length:Int)<=_; omega⟩
  rw [if_neg b3] at ga ⊢;refine ⟨λ e=>absurd rfl e,λ _=>?_,?_⟩
  . obtain ⟨g1,g2,g3⟩:=Ih b3;have aM:=Z7 g2;have hf:I5 w p=(0,sd.getD p [],()):=by
      show (w.2.1.getD p j7).2.2.1=_;rw [h.all p hp]
    rw [hf] at g1 aM;have hw:=Ca (w:=setFrom w p (K3 (I5 w p) t).1) (k:=1) (f:=p) (t:=J8 (setFrom w p (K3 (I5 w p) t).1)) (s:=((K3 (I5 w p) t).1.1+(K3 (I5 w p) t).1.2.1.length - 1)) (x:=t);obtain ⟨e1,e2,e3⟩:=hw;have bW:p<w.2.1.length:=by rw [h.len]; exact hp
    have ez:p<sd.length:=by rw [h.said]; exact hp
    have hl:(AI w p t (K3 (I5 w p) t).1).2.1.length=n.toNat:=by
      show (J5 _ _ _ _ _ _).2.1.length=_;rw [e1];show (w.2.1.set _ _).length=_;rw [List.length_set]; exact h.len
    have ho:(AI w p t (K3 (I5 w p) t).1).2.2.1=[]:=e3.trans h.ord;have ha:∀ q:Nat,q<n.toNat->(AI w p t (K3 (I5 w p) t).1).2.1.getD q j7=(false,[],(0,(sd.set p (sd.getD p []++[t])).getD q [],()),(0,[],()),(0,[],()),()):=λ q hq=>by
      show (J5 _ _ _ _ _ _).2.1.getD q j7=_;rw [e1];show (w.2.1.set (Int.toNat (p:Int)) _).getD q j7=_;rw [Int.toNat_natCast,Q0,Q0,hf,g1,h.all p hp];by_cases e:p=q
      . rw [if_pos ⟨e,bW⟩,if_pos ⟨e,ez⟩]
      . rw [if_neg (λ c=>e c.1),if_neg (λ c=>e c.1),h.all q hq]
    have rK:(λ q=>(sd.set p (sd.getD p []++[t])).getD q [])=vK (λ q=>sd.getD q []) (Ao p t) 0:=by
      rw [vK,if_pos ⟨rfl,rfl⟩]
      funext q
      show _=vf _ (Int.toNat (p:Int)) _ q;unfold vf;rw [Q0,Int.toNat_natCast];by_cases e:q=p
      . rw [if_pos ⟨e.symm,ez⟩,if_pos e]; rfl
      . rw [if_neg (λ c=>e c.1.symm),if_neg e]
    refine ⟨⟨ga.mem,?_,by rw [rK]; exact ga.inv⟩,?_,hl,by rw [List.length_set]; exact h.said,ha,ho⟩
    . refine Qt.sz hl ha ho (λ q=>?_);rw [Q0]
      split
      . exact aM.2.1
      . exact h.short q
    . exact e2.trans h.view
  . exact b7I _ _ _ _ _ _
theorem Qt.TK {n:Int} {sd:List (List C0)} {w:f8} (h:Qt n sd w):Qt n sd (C7 w 0 2).1:=by
  have hm:=h.ok.CP 0 2;have key:(C7 w 0 2).1.1=w.1/\(C7 w 0 2).1.2.1=w.2.1/\(C7 w 0 2).1.2.2.1=w.2.2.1:=by
    by_cases c:H5 0 0 ((w.2.2.2.1.length:Int) - 1)=false
    . rw [JT (by decide) c]; exact ⟨rfl,rfl,rfl⟩
    . rw [BB (by decide) c (by decide),Eo (λ c=>absurd c.1 (by decide))]; exact ⟨rfl,rfl,rfl⟩
  obtain ⟨e1,e2,e3⟩:=key;have hl:(C7 w 0 2).1.2.1.length=n.toNat:=by rw [e2]; exact h.len
  have ha:∀ p:Nat,p<n.toNat->(C7 w 0 2).1.2.1.getD p j7=(false,[],(0,sd.getD p [],()),(0,[],()),(0,[],()),()):=by rw [e2]; exact h.all
  have ho:(C7 w 0 2).1.2.2.1=[]:=e3.trans h.ord;exact ⟨⟨hm.mem,Qt.sz hl ha ho h.short,hm.inv⟩,e1.trans h.view,hl,h.said,ha,ho⟩
theorem YB {w:f8} (h:0<w.2.2.2.1.length):(C7 w 0 2).2=0/\(C7 w 0 2).1.2.2.2.1.length+1=w.2.2.2.1.length:=by
  have c:¬ H5 0 0 ((w.2.2.2.1.length:Int) - 1)=false:=by
    have:H5 0 0 ((w.2.2.2.1.length:Int) - 1)=true:=T8.2 ⟨by omega,by omega⟩;rw [this]; decide
  rw [BB (by decide) c (by decide),Eo (λ c=>absurd c.1 (by decide))];refine ⟨rfl,?_⟩;show (w.2.2.2.1.take (Int.toNat 0)++w.2.2.2.1.drop (Int.toNat (0+1))).length+1=_;rw [List.length_append,List.length_take,List.length_drop,show Int.toNat 0=0 from rfl,show Int.toNat (0+1)=1 from rfl];omega
def Sw:o7:={ ps:=[.v e8,.v (.d0 false .str)],rs:=[.bool],pre:=λ _=>True,fn:=λ _=>(true,()),out:=λ _=>() }
noncomputable def xj:Env:={ P:=Tryz.prog,tt:=tt,C5:=[(12,HE),(13,Ff),(14,Dd),(15,CK),(17,CO),(18,Ay),(19,As),(20,Gd),(30,Df),(22,FX)],res:=[Go.ResultVar.tmp 4],rs:=[Ty.bool],ps:=[PK.v e8,PK.v (Ty.d0 false Ty.str)],y9:=[(9,[(0,none),(5,none),(7,some (Ty.d0 true (Ty.d0 true Ty.str))),(30,none),(31,none),(32,none)]),(14,[(0,none),(5,none),(7,some (Ty.d0 true (Ty.d0 true Ty.str))),(30,none),(31,none),(32,none),(58,none)]),(20,[(5,none),(7,some (Ty.d0 true (Ty.d0 true Ty.str))),(70,none),(71,none)])],nt:=125 }
theorem BQ:w5 xj:=x6 p9 ⟨b4o,ZY,SM,Sh,Sl,KD,Kj,b8h,b75,b8p,trivial⟩
theorem BR:B0 xj Tryz.f9:=⟨rfl,rfl⟩
theorem XI (x0:Int) (x1:List yY):exec xj 1000 [.code (d8 Tryz.prog 9)] (s7 Sw.ps ((x0,x1,()))) =
  .f7 (True) (.f7 (True) (.f7 ((1:Int)<=M1 x0/\M1 x0<=(6:Int)) (.f7 ((0:Int)<=M1 x0/\M1 x0<=M1 x0/\M1 x0<=(140737488355328:Int)/\M1 x0*(↑(Ty.wb (Ty.d0 true Ty.str)):Int)<=(140737488355328:Int)) (.ctL (g8 (d8 Tryz.prog 9) 9) (St.mk [(0,AV.val e8 (M1 x0)),(5,AV.ptr 1023 []),(7,AV.at_ 1000007 []),(30,AV.val (Ty.d0 false Ty.str) x1),(31,AV.val e8 (↑(List.length x1):Int)),(32,AV.val e8 (0:Int))] [(1023,g9.var r9 (((0:Int),zq (M1 x0),()),List.replicate (Int.toNat (M1 x0)) j7,[],[],())),(1000007,g9.own (Ty.d0 true (Ty.d0 true Ty.str)) (List.replicate (Int.toNat (M1 x0)) []))]))))):=by kernel_rfl
def JX (v0:Int) (v30:List yY) (v31:Int) (uE:Int) (aG:Int) (aA:Int) (aD:List n7) (az:List yY) (ao:List yY) (bg:List (List yY)):St:=St.mk [(0,AV.val e8 v0),(5,AV.ptr 1023 []),(7,AV.at_ 1000007 []),(30,AV.val (Ty.d0 false Ty.str) v30),(31,AV.val e8 v31),(32,AV.val e8 uE)] [(1023,g9.var r9 ((aG,aA,()),aD,az,ao,())),(1000007,g9.own (Ty.d0 true (Ty.d0 true Ty.str)) bg)]
theorem Zo (v0:Int) (v30:List yY) (v31:Int) (uE:Int) (aG:Int) (aA:Int) (aD:List n7) (az:List yY) (ao:List yY) (bg:List (List yY)):exec xj 1000 (.code (g8 (d8 Tryz.prog 9) 9).1::.inLoop (g8 (d8 Tryz.prog 9) 9).1::(g8 (d8 Tryz.prog 9) 9).2) (JX v0 v30 v31 uE aG aA aD az ao bg) =
  cond (decide (uE<v31)) (.f7 ((0:Int)<=uE/\uE<(↑(List.length v30):Int)) (.f7 ((0:Int)<v0) (.f7 (List.length aD<=6) (cond (decide (Prod.snd (Q4 ((aG,aA,()),aD,az,ao,()) (Int.tmod uE v0) (List.getD v30 (Int.toNat uE) []))=(0:Int))) (.f7 ((0:Int)<v0) (.f7 ((0:Int)<v0) (.f7 ((0:Int)<=Int.tmod uE v0/\Int.tmod uE v0<(↑(List.length bg):Int)) (.f7 ((0:Int)<=Int.tmod uE v0/\Int.tmod uE v0<(↑(List.length bg):Int)) (.f7 ([]++[Step.idx (Int.tmod uE v0)]=[]++[Step.idx (Int.tmod uE v0)]/\List.length (List.getD bg (Int.toNat (Int.tmod uE v0)) [])+List.length (List.set [[]] (Int.toNat (↑0:Int)) (List.getD v30 (Int.toNat uE) []))<=140737488355328/\(List.length (List.getD bg (Int.toNat (Int.tmod uE v0)) [])+List.length (List.set [[]] (Int.toNat (↑0:Int)) (List.getD v30 (Int.toNat uE) [])))*Ty.wb Ty.str<=140737488355328) (.ctL (g8 (d8 Tryz.prog 9) 14) (St.mk [(0,AV.val e8 v0),(5,AV.ptr 1023 []),(7,AV.at_ 1000007 []),(30,AV.val (Ty.d0 false Ty.str) v30),(31,AV.val e8 v31),(32,AV.val e8 uE),(58,AV.val e8 (0:Int))] [(1023,g9.var r9 (Prod.fst (Q4 ((aG,aA,()),aD,az,ao,()) (Int.tmod uE v0) (List.getD v30 (Int.toNat uE) [])))),(1000007,g9.own (Ty.d0 true (Ty.d0 true Ty.str)) (List.set bg (Int.toNat (Int.tmod uE v0)) (List.getD bg (Int.toNat (Int.tmod uE v0)) []++List.set [[]] (Int.toNat (↑0:Int)) (List.getD v30 (Int.toNat uE) []))))]))))))) (.ctL (g8 (d8 Tryz.prog 9) 14) (St.mk [(0,AV.val e8 v0),(5,AV.ptr 1023 []),(7,AV.at_ 1000007 []),(30,AV.val (Ty.d0 false Ty.str) v30),(31,AV.val e8 v31),(32,AV.val e8 uE),(58,AV.val e8 (0:Int))] [(1023,g9.var r9 (Prod.fst (Q4 ((aG,aA,()),aD,az,ao,()) (Int.tmod uE v0) (List.getD v30 (Int.toNat uE) [])))),(1000007,g9.own (Ty.d0 true (Ty.d0 true Ty.str)) bg)])))))) (.ctL (g8 (d8 Tryz.prog 9) 20) (St.mk [(5,AV.ptr 1023 []),(7,AV.at_ 1000007 []),(70,AV.val e8 v0),(71,AV.val e8 (0:Int))] [(1023,g9.var r9 ((aG,aA,()),aD,az,ao,())),(1000007,g9.own (Ty.d0 true (Ty.d0 true Ty.str)) bg)])):=by kernel_rfl
def Km (v0:Int) (v30:List yY) (v31:Int) (uE:Int) (xt:Int) (aG:Int) (aA:Int) (aD:List n7) (az:List yY) (ao:List yY) (bg:List (List yY)):St:=St.mk [(0,AV.val e8 v0),(5,AV.ptr 1023 []),(7,AV.at_ 1000007 []),(30,AV.val (Ty.d0 false Ty.str) v30),(31,AV.val e8 v31),(32,AV.val e8 uE),(58,AV.val e8 xt)] [(1023,g9.var r9 ((aG,aA,()),aD,az,ao,())),(1000007,g9.own (Ty.d0 true (Ty.d0 true Ty.str)) bg)]
theorem b8L (v0:Int) (v30:List yY) (v31:Int) (uE:Int) (xt:Int) (aG:Int) (aA:Int) (aD:List n7) (az:List yY) (ao:List yY) (bg:List (List yY)):exec xj 1000 (.code (g8 (d8 Tryz.prog 9) 14).1::.inLoop (g8 (d8 Tryz.prog 9) 14).1::(g8 (d8 Tryz.prog 9) 14).2) (Km v0 v30 v31 uE xt aG aA aD az ao bg) =
  cond (decide (xt<(60:Int))) (.f7 (True) (cond (decide ((0:Int)<(↑(List.length ao):Int))) (.f7 (zL ((aG,aA,()),aD,az,ao,())) (cond (decide (Prod.snd (C7 ((aG,aA,()),aD,az,ao,()) (0:Int) (2:Int))≠(0:Int))) (.ret ((false,()))) (.f7 (r7 IntKind.i64 (xt+(1:Int))) (.ctL (g8 (d8 Tryz.prog 9) 14) (St.mk [(0,AV.val e8 v0),(5,AV.ptr 1023 []),(7,AV.at_ 1000007 []),(30,AV.val (Ty.d0 false Ty.str) v30),(31,AV.val e8 v31),(32,AV.val e8 uE),(58,AV.val e8 (xt+(1:Int)))] [(1023,g9.var r9 (Prod.fst (C7 ((aG,aA,()),aD,az,ao,()) (0:Int) (2:Int)))),(1000007,g9.own (Ty.d0 true (Ty.d0 true Ty.str)) bg)]))))) (.f7 (r7 IntKind.i64 (xt+(1:Int))) (.ctL (g8 (d8 Tryz.prog 9) 14) (St.mk [(0,AV.val e8 v0),(5,AV.ptr 1023 []),(7,AV.at_ 1000007 []),(30,AV.val (Ty.d0 false Ty.str) v30),(31,AV.val e8 v31),(32,AV.val e8 uE),(58,AV.val e8 (xt+(1:Int)))] [(1023,g9.var r9 ((aG,aA,()),aD,az,ao,())),(1000007,g9.own (Ty.d0 true (Ty.d0 true Ty.str)) bg)]))))) (.f7 (r7 IntKind.i64 (uE+(1:Int))) (.ctL (g8 (d8 Tryz.prog 9) 9) (St.mk [(0,AV.val e8 v0),(5,AV.ptr 1023 []),(7,AV.at_ 1000007 []),(30,AV.val (Ty.d0 false Ty.str) v30),(31,AV.val e8 v31),(32,AV.val e8 (uE+(1:Int)))] [(1023,g9.var r9 ((aG,aA,()),aD,az,ao,())),(1000007,g9.own (Ty.d0 true (Ty.d0 true Ty.str)) bg)]))):=by kernel_rfl
def Kn (v70:Int) (uN:Int) (aG:Int) (aA:Int) (aD:List n7) (az:List yY) (ao:List yY) (bg:List (List yY)):St:=St.mk [(5,AV.ptr 1023 []),(7,AV.at_ 1000007 []),(70,AV.val e8 v70),(71,AV.val e8 uN)] [(1023,g9.var r9 ((aG,aA,()),aD,az,ao,())),(1000007,g9.own (Ty.d0 true (Ty.d0 true Ty.str)) bg)]
theorem b8K (v70:Int) (uN:Int) (aG:Int) (aA:Int) (aD:List n7) (az:List yY) (ao:List yY) (bg:List (List yY)):exec xj 1000 (.code (g8 (d8 Tryz.prog 9) 20).1::.inLoop (g8 (d8 Tryz.prog 9) 20).1::(g8 (d8 Tryz.prog 9) 20).2) (Kn v70 uN aG aA aD az ao bg) =
  cond (decide (uN<v70)) (.f7 (List.length aD<=6/\List.length (R8 ((aG,aA,()),aD,az,ao,()) uN)<=5864062014805) (.f7 (List.length aD<=6/\List.length (Prod.fst (Prod.snd (I5 ((aG,aA,()),aD,az,ao,()) uN)))<=1048576) (.f7 (List.length aD<=6/\List.length (R8 ((aG,aA,()),aD,az,ao,()) uN)<=5864062014805/\∀ (s:D4),s∈R8 ((aG,aA,()),aD,az,ao,()) uN->List.length (Prod.fst (Prod.snd s))<=4294967280) (cond (decide (Prod.fst (Prod.snd (V0 ((aG,aA,()),aD,az,ao,()) uN))≠(0:Int))) (.ret ((false,()))) (cond (decide (Prod.fst (Prod.snd (xd ((aG,aA,()),aD,az,ao,()) uN))≠(0:Int))) (.ret ((false,()))) (cond (decide (Prod.fst (Prod.snd (vS ((aG,aA,()),aD,az,ao,()) uN))≠(0:Int))) (.ret ((false,()))) (cond (decide ((↑(List.length (Prod.fst (V0 ((aG,aA,()),aD,az,ao,()) uN))):Int)≠(0:Int))) (.ret ((false,()))) (.f7 ((0:Int)<=uN/\uN<(↑(List.length bg):Int)) (.f7 (True) (cond (!decide (Prod.fst (xd ((aG,aA,()),aD,az,ao,()) uN)=List.getD bg (Int.toNat uN) [])) (.ret ((false,()))) (cond (!Y2 (Ty.arr 10 e8) (Prod.fst (vS ((aG,aA,()),aD,az,ao,()) uN)) [(0:Int),(0:Int),(0:Int),(0:Int),(0:Int),(0:Int),(0:Int),(0:Int),(0:Int),(0:Int)]) (.ret ((false,()))) (.f7 (r7 IntKind.i64 (uN+(1:Int))) (.ctL (g8 (d8 Tryz.prog 9) 20) (St.mk [(5,AV.ptr 1023 []),(7,AV.at_ 1000007 []),(70,AV.val e8 v70),(71,AV.val e8 (uN+(1:Int)))] [(1023,g9.var r9 ((aG,aA,()),aD,az,ao,())),(1000007,g9.own (Ty.d0 true (Ty.d0 true Ty.str)) bg)])))))))))))))) (.f7 (True) (.ret ((decide ((↑(List.length ao):Int)=(0:Int)),())))):=by kernel_rfl
attribute [local irreducible] Q4 C7 V0 xd vS in
theorem a8K:Sw.Valid Tryz.prog 9:=by
  refine o7.n8 BQ rfl rfl Tryz.func9 (c:=d8 Tryz.prog 9) rfl rfl BR rfl ?_;rintro ⟨(n0:Int),(l:List C0),⟨⟩⟩ - hr;have hl:l.length<=maxLen:=hr.2.1.1;have iC:maxLen=9223372036854775807:=by decide
  rw [iC] at hl;refine j8 (n:=1000) BQ BR ?_;refine i7 (XI n0 l) ?_;have hn:=Mu n0;obtain ⟨n,mj⟩:∃ n,n=M1 n0:=⟨_,rfl⟩;rw [<- mj] at hn ⊢;have ij:Ty.wb (.d0 true .str)=24:=rfl;have rq:Ty.wb .str=16:=rfl;simp only [j6,Tree.holds,ij,sL];refine ⟨hn,λ _=>⟨⟨by omega,Int.le_refl _,by omega,by omega⟩,λ _=>?_⟩⟩;have h0:=Qt.new hn;suffices go:Go.Ex.Reach xj Tryz.f9 (true,()) () (.code (g8 (d8 Tryz.prog 9) 9).1::.inLoop (g8 (d8 Tryz.prog 9) 9).1::(g8 (d8 Tryz.prog 9) 9).2) (JX n l (l.length:Int) ((0:Nat):Int) (uS n).1.1 (uS n).1.2.1 (uS n).2.1 (uS n).2.2.1 (uS n).2.2.2.1 (List.replicate n.toNat [])) by exact go
  refine Reach.M0 BQ BR (λ i:Nat×f8×List (List C0)=>JX n l (l.length:Int) (i.1:Int) i.2.1.1.1 i.2.1.1.2.1 i.2.1.2.1 i.2.1.2.2.1 i.2.1.2.2.2.1 i.2.2) (λ i=>i.1<=l.length/\Qt n i.2.2 i.2.1/\i.2.1.2.2.2.1.length=0) (λ i=>l.length - i.1) 1000 (λ _=>⟨s6 rfl,s6 rfl⟩) ?_ (0,uS n,List.replicate n.toNat []) ⟨Nat.zero_le _,h0,rfl⟩;rintro ⟨i,w,sd⟩ ⟨k1,k2,k3⟩ - ih;have k1:i<=l.length:=k1;have k2:Qt n sd w:=k2;have k3:w.2.2.2.1.length=0:=k3;refine i7 (Zo ..) ?_;have e1:((i:Nat):Int)+1=((i+1:Nat):Int):=by omega
  by_cases hi:i<l.length
  . obtain ⟨p,hp⟩:∃ p:Nat,Int.tmod (i:Int) n=p:=⟨(Int.tmod (i:Int) n).toNat,by have:=Int.tmod_nonneg n (show (0:Int)<=i by omega); omega⟩;have rS:p<n.toNat:=by have:=Int.tmod_lt_of_pos (i:Int) (show 0<n by omega); omega
    obtain ⟨t,ht⟩:∃ t,t=l.getD i []:=⟨_,rfl⟩;obtain ⟨q1,q2,q3⟩:=k2.say rS t;have inner:∀ (u:f8) (se:List (List C0)),Qt n se u->(u.2.2.2.1.length:Int)<=w.2.2.2.1.length+1 ->
        Go.Ex.Reach xj Tryz.f9 (true,()) () (.code (g8 (d8 Tryz.prog 9) 14).1::.inLoop (g8 (d8 Tryz.prog 9) 14).1::(g8 (d8 Tryz.prog 9) 14).2) (Km n l (l.length:Int) (i:Int) ((0:Nat):Int) u.1.1 u.1.2.1 u.2.1 u.2.2.1 u.2.2.2.1 se):=by
      intro u se hu ou;refine Reach.M0 BQ BR (λ k:Nat×f8=>Km n l (l.length:Int) (i:Int) (k.1:Int) k.2.1.1 k.2.1.2.1 k.2.2.1 k.2.2.2.1 k.2.2.2.2.1 se) (λ k=>k.1<=60/\Qt n se k.2/\k.2.2.2.2.1.length<=1/\(0<k.1->k.2.2.2.2.1.length=0)) (λ k=>60 - k.1) 1000 (λ _=>⟨s6 rfl,s6 rfl⟩) ?_ (0,u) ⟨Nat.zero_le _,hu,by show u.2.2.2.1.length<=1; omega,λ c=>absurd c (Nat.lt_irrefl 0)⟩;rintro ⟨k,v⟩ ⟨m1,m2,m3,m4⟩ - ih2;have m1:k<=60:=m1;have m2:Qt n se v:=m2;have m3:v.2.2.2.1.length<=1:=m3;have m4:0<k->v.2.2.2.1.length=0:=m4;refine i7 (b8L ..) ?_;have e2:((k:Nat):Int)+1=((k+1:Nat):Int):=by omega
      by_cases hk:k<60
      . by_cases hv:0<v.2.2.2.1.length
        . obtain ⟨g1,g2⟩:=YB hv;have g1:(C7 ((v.1.1,v.1.2.1,()),v.2.1,v.2.2.1,v.2.2.2.1,()) 0 2).2=0:=g1;have ih3:=ih2 (k+1,(C7 v 0 2).1) ⟨by show k+1<=60; omega,m2.TK,by show (C7 v 0 2).1.2.2.2.1.length<=1; omega,λ _=>by show (C7 v 0 2).1.2.2.2.1.length=0; omega⟩ (by show 60 - (k+1)<60 - k; omega);simp only [j6,Tree.holds,e2,g1,sL];refine ⟨λ _=>⟨λ _=>⟨(m2.ok.zd (by omega)).move,λ _=>⟨λ c=>absurd rfl c,λ _=>⟨F0.2 ⟨by omega,by omega⟩,λ _=>ih3⟩⟩⟩,λ c=>absurd (by omega) c⟩,λ c=>absurd (by omega) c⟩
        . have ih3:=ih2 (k+1,v) ⟨by show k+1<=60; omega,m2,m3,λ _=>by show v.2.2.2.1.length=0; omega⟩ (by show 60 - (k+1)<60 - k; omega);simp only [j6,Tree.holds,e2,sL];refine ⟨λ _=>⟨λ c=>absurd c (by omega),λ _=>⟨F0.2 ⟨by omega,by omega⟩,λ _=>ih3⟩⟩,λ c=>absurd (by omega) c⟩
      . have ih3:=ih (i+1,v,se) ⟨by show i+1<=l.length; omega,m2,by show v.2.2.2.1.length=0; omega⟩ (by show l.length - (i+1)<l.length - i; omega);simp only [j6,Tree.holds,e1,sL];refine ⟨λ c=>absurd c (by omega),λ _=>⟨F0.2 ⟨by omega,by omega⟩,λ _=>ih3⟩⟩
    have bZ:=k2.short p;have lr:=k2.said;by_cases he:(Q4 w p t).2=0
    . have go:=inner _ _ (q2 he) q3;have he:(Q4 ((w.1.1,w.1.2.1,()),w.2.1,w.2.2.1,w.2.2.2.1,()) (p:Int) t).2=0:=he;simp only [j6,Tree.holds,hp,<- ht,he,rq,sL];refine ⟨λ _=>⟨⟨by omega,by omega⟩,λ _=>⟨by omega,λ _=>⟨k2.ok.M1,λ _=>⟨⟨by omega,λ _=>⟨by omega,λ _=>⟨⟨by omega,by omega⟩,λ _=>⟨⟨by omega,by omega⟩,λ _=>⟨⟨by omega,by omega⟩,λ _=>go⟩⟩⟩⟩⟩,λ c=>absurd trivial c⟩⟩⟩⟩,λ c=>absurd (by omega) c⟩
    . have go:=inner _ _ (q1 he) q3;have he:¬ (Q4 ((w.1.1,w.1.2.1,()),w.2.1,w.2.2.1,w.2.2.2.1,()) (p:Int) t).2=0:=he;simp only [j6,Tree.holds,hp,<- ht,he,sL];refine ⟨λ _=>⟨⟨by omega,by omega⟩,λ _=>⟨by omega,λ _=>⟨k2.ok.M1,λ _=>⟨λ c=>absurd c id,λ _=>go⟩⟩⟩⟩,λ c=>absurd (by omega) c⟩
  obtain rfl:i=l.length:=by omega
  clear ih;simp only [j6,Tree.holds,sL];refine ⟨λ c=>absurd c (by omega),λ _=>?_⟩;suffices go:Go.Ex.Reach xj Tryz.f9 (true,()) () (.code (g8 (d8 Tryz.prog 9) 20).1::.inLoop (g8 (d8 Tryz.prog 9) 20).1::(g8 (d8 Tryz.prog 9) 20).2) (Kn n ((0:Nat):Int) w.1.1 w.1.2.1 w.2.1 w.2.2.1 w.2.2.2.1 sd) by exact go
  refine Reach.M0 BQ BR (λ p:Nat=>Kn n (p:Int) w.1.1 w.1.2.1 w.2.1 w.2.2.1 w.2.2.2.1 sd) (λ p=>p<=n.toNat) (λ p=>n.toNat - p) 1000 (λ _=>⟨s6 rfl,s6 rfl⟩) ?_ 0 (Nat.zero_le _);rintro p m1 - ih;have m1:p<=n.toNat:=m1;refine i7 (b8K ..) ?_;have e1:((p:Nat):Int)+1=((p+1:Nat):Int):=by omega
  have hlen:w.2.1.length=n.toNat:=k2.len;have lr:sd.length=n.toNat:=k2.said;by_cases hp:p<n.toNat
  . have bt:=k2.all p hp;have lg:R8 w p=[]:=by show (w.2.1.getD p j7).2.1=[]; rw [bt]
    have lt:(I5 w p).2.1=sd.getD p []:=by show (w.2.1.getD p j7).2.2.1.2.1=_; rw [bt]
    have lp:V0 ((w.1.1,w.1.2.1,()),w.2.1,w.2.2.1,w.2.2.2.1,()) (p:Int)=([],0,()):=by rw [<- lg]; exact Vp (w:=w) (by omega)
    have ap:xd ((w.1.1,w.1.2.1,()),w.2.1,w.2.2.1,w.2.2.2.1,()) (p:Int)=(sd.getD p [],0,()):=by rw [<- lt]; exact Yv (w:=w) (by omega)
    have vp:vS ((w.1.1,w.1.2.1,()),w.2.1,w.2.2.1,w.2.2.2.1,()) (p:Int)=(zeroV,0,()):=by
      have:=Yt (w:=w) (p:=p) (by omega);rw [lg] at this;exact this
    have hz:Y2 (Ty.arr 10 e8) zeroV [0,0,0,0,0,0,0,0,0,0]=true:=by decide
    have aM:=k2.ok;have h1:w.2.1.length<=6/\(R8 w (p:Int)).length<=5864062014805:=⟨aM.M1,Nat.le_trans (aM.sz.log p) (by omega)⟩;have h2:w.2.1.length<=6/\(I5 w (p:Int)).2.1.length<=1048576:=⟨aM.M1,Nat.le_trans (aM.sz.late p) (by omega)⟩;have h3:w.2.1.length<=6/\(R8 w (p:Int)).length<=5864062014805/\∀ s∈R8 w (p:Int),s.2.1.length<=4294967280:=⟨h1.1,h1.2,λ s hs=>Nat.le_trans (aM.sz.txt p s hs) (by omega)⟩;simp only [j6,Tree.holds,e1,lp,ap,vp,hz,sL];refine ⟨λ _=>⟨h1,λ _=>⟨h2,λ _=>⟨h3,λ _=>⟨λ c=>absurd rfl c,λ _=>⟨λ c=>absurd rfl c,λ _=>⟨λ c=>absurd rfl c,λ _=>⟨λ c=>absurd rfl c,λ _=>⟨⟨by omega,by omega⟩,λ _=>⟨λ c=>absurd trivial c,λ c=>absurd c (by decide),⟨by omega,by omega⟩,λ _=>ih (p+1) (by show p+1<=n.toNat; omega) (by show n.toNat - (p+1)<n.toNat - p; omega)⟩⟩⟩⟩⟩⟩⟩⟩⟩,λ c=>absurd (by omega) c⟩
  . simp only [j6,Tree.holds,k3,sL];exact ⟨λ c=>absurd c (by omega),λ _=>rfl⟩
end Go.Proofs.YtijlnmgondibnaaGreatDoor
