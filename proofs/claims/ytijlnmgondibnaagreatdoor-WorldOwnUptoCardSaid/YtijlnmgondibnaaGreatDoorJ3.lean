import Derived.Test.YtijlnmgondibnaaGreatDoorJ2
import Derived.Test.YtijlnmgondibnaaGreatDoorJ1
set_option linter.unusedVariables false
set_option linter.unusedSimpArgs false
set_option linter.unusedSectionVars false
namespace Go.Proofs.YtijlnmgondibnaaGreatDoor
open Go.Ex
set_option maxRecDepth 100000
def yg (S:Nat->List D6) (O:List D6) (n:C1):Prop :=
  (n.1=1->(S n.2.1.toNat)[n.2.2.2.2.1.toNat]?=some n.2.2.2.2.2.2.1)/\(n.1=2->O[n.2.2.2.2.1.toNat]?=some n.2.2.2.2.2.2.1)
def zV (S:Nat->List D6) (O:List D6) (V:Int) (s:D6):Prop:=(x6 s).2.1=0->(x6 s).1.2.2.2.1<=V/\((x6 s).1.2.2.2.1=V->yg S O (x6 s).1)
structure Dm (said:Nat->List D6) (B:List D5) (S:Nat->List D6) (Q:List V8) (p:Nat) (x:o8) (m:Nat):Prop where
  le:m<=Q.length
  next:x.2.2.2.1.1=m
  wait:∀ q∈x.2.2.2.1.2.1,(O7 Q)[q.1.toNat]?=some q.2.1
  log:x.2.1=B++(Q.take m).map xg
  from_:x.2.2.1=(((C3 p (Q.take m)).length:Int),(S p).drop (C3 p (Q.take m)).length,())
  ok:I1 x.2.2.1=0
structure Inv (said:Nat->List D6) (B:List D5) (S:Nat->List D6) (Q:List V8) (w:f9):Prop where
  R5:w.2.1.length<=6
  way:w.2.2.2.1.length<=60
  ord:w.2.2.1=O7 Q
  inQ:∀ x∈Q,x.1<w.2.1.length
  zN:∀ p,C3 p Q <+: S p
  short:∀ p,(S p).length<=16777215
  msg:∀ s∈w.2.2.2.1,zV S w.2.2.1 w.1.1 s
  rcv:∀ p:Nat,p<w.2.1.length->(w.2.1.getD p j9).2.2.2.2.1.1=(C3 p Q).length/\∀ q∈(w.2.1.getD p j9).2.2.2.2.1.2.1,(S p)[q.1.toNat]?=some q.2.1
  mem:∀ p:Nat,p<w.2.1.length->X9 w.1.2.1 p=true->(∃ m,Dm said B S Q p (w.2.1.getD p j9) m)/\said p=ofP p B++S p
  out:∀ p:Nat,p<w.2.1.length->X9 w.1.2.1 p=false->S p=[]/\ofP p B <+: said p
  Md:∀ s∈B,0<=s.1/\s.1<(w.2.1.length:Int)
structure W7 (P:C1->Prop) (w w':f9):Prop where
  view:w'.1=w.1
  all:w'.2.1=w.2.1
  ord:w'.2.2.1=w.2.2.1
  len:w.2.2.2.1.length<=60->w'.2.2.2.1.length<=60
  way:∀ s∈w'.2.2.2.1,s∈w.2.2.2.1\/∃ n:C1,x6 s=(n,0,())/\n.2.2.2.1=w.1.1/\P n
theorem W7.refl {P:C1->Prop} (w:f9):W7 P w w:=⟨rfl,rfl,rfl,id,λ _ h=>.inl h⟩
theorem W7.trans {P:C1->Prop} {w w' w'':f9} (h:W7 P w w') (h':W7 P w' w''):W7 P w w'' :=
  ⟨h'.view.trans h.view,h'.all.trans h.all,h'.ord.trans h.ord,λ e=>h'.len (h.len e),λ s hs=>by
    rcases h'.way s hs with h1|⟨n,h1,h2,h3⟩
    . exact h.way s h1
    . exact .inr ⟨n,h1,by rw [h2,h.view],h3⟩⟩
theorem W7.one {P:C1->Prop} {w:f9} {k f t q:Int} {x:D6} (h:P (k,f,t,w.1.1,q,[0,0,0,0,0,0],x,())):W7 P w (M3 w k f t q x):=by
  by_cases c:(U5 (k,f,t,w.1.1,q,[0,0,0,0,0,0],x,())).2.1=0/\(w.2.2.2.1.length:Int)<60
  . rw [Kn c.1 c.2];refine ⟨rfl,rfl,rfl,λ _=>?_,λ s hs=>?_⟩
    . show (w.2.2.2.1++[_]).length<=60;rw [List.length_append];have:=c.2;simp only [List.length_singleton]; omega
    . rcases List.mem_append.1 hs with hs|hs
      . exact .inl hs
      . rw [List.mem_singleton] at hs;have hc:I0 (k,f,t,w.1.1,q,[0,0,0,0,0,0],x,())=0:=by
          by_cases hc:I0 (k,f,t,w.1.1,q,[0,0,0,0,0,0],x,())=0
          . exact hc
          . have:=c.1;rw [Yy hc] at this;exact absurd this hc
        rw [ZE hc] at hs;exact .inr ⟨_,by rw [hs]; exact ZR hc rfl,rfl,h⟩
  . rw [EP c]; exact .refl w
theorem Inv.Hg {said:Nat->List D6} {B:List D5} {S:Nat->List D6} {Q:List V8} {w w':f9} (h:Inv said B S Q w) (hs:W7 (yg S w.2.2.1) w w'):Inv said B S Q w':=by
  obtain ⟨h1,h2,h3,h4,h5,h6,h7,h8,h9,fW,gk⟩:=h;refine ⟨by rw [hs.all]; exact h1,hs.len h2,by rw [hs.ord]; exact h3,by rw [hs.all]; exact h4,h5,h6,?_,by rw [hs.all]; exact h8,by rw [hs.all,hs.view]; exact h9,by rw [hs.all,hs.view]; exact fW,by rw [hs.all]; exact gk⟩;intro s hm;rw [hs.view,hs.ord];rcases hs.way s hm with h|⟨n,e1,e2,e3⟩
  . exact h7 s h
  . intro _;rw [e1];exact ⟨by show n.2.2.2.1<=w.1.1; omega,λ _=>e3⟩
theorem Inv.E1 {said:Nat->List D6} {B:List D5} {S:Nat->List D6} {Q:List V8} {w:f9} (h:Inv said B S Q w) {p:Nat} {x:o8}
    (hr:p<w.2.1.length->x.2.2.2.2.1.1=(C3 p Q).length/\∀ q∈x.2.2.2.2.1.2.1,(S p)[q.1.toNat]?=some q.2.1)
    (hm:p<w.2.1.length->X9 w.1.2.1 p=true->∃ m,Dm said B S Q p x m):Inv said B S Q (w.1,w.2.1.set p x,w.2.2):=by
  obtain ⟨h1,h2,h3,h4,h5,h6,h7,h8,h9,fW,gk⟩:=h;have hl:(w.2.1.set p x).length=w.2.1.length:=List.length_set ..;refine ⟨by rw [hl]; exact h1,h2,h3,by rw [hl]; exact h4,h5,h6,h7,λ q hq=>?_,λ q hq hv=>?_,λ q hq hv=>?_,by show ∀ s∈B,0<=s.1/\s.1<((w.2.1.set p x).length:Int); rw [hl]; exact gk⟩
  . rw [hl] at hq;rw [X4]
    split
    . rename_i e; rw [<- e.1]; exact hr e.2
    . exact h8 q hq
  . rw [hl] at hq;rw [X4];refine ⟨?_,(h9 q hq hv).2⟩
    split
    . rename_i e; rw [<- e.1]; rw [<- e.1] at hv; exact hm e.2 hv
    . exact (h9 q hq hv).1
  . rw [hl] at hq;exact fW q hq hv
theorem yg.mono {S S':Nat->List D6} {O O':List D6} {n:C1} (h:yg S O n) (hS:∀ p,S p <+: S' p) (hO:O <+: O'):yg S' O' n :=
  ⟨λ e=>An (hS _) (h.1 e),λ e=>An hO (h.2 e)⟩
theorem zV.mono {S S':Nat->List D6} {O O':List D6} {V:Int} {s:D6} (h:zV S O V s) (hS:∀ p,S p <+: S' p) (hO:O <+: O'):zV S' O' V s :=
  λ e=>⟨(h e).1,λ e2=>((h e).2 e2).mono hS hO⟩
def vZ (f:Nat->List D6) (p:Nat) (x:List D6):Nat->List D6:=λ q=>if q=p then x else f q
theorem AD {f:Nat->List D6} {p:Nat} {x:List D6}:vZ f p x p=x:=if_pos rfl
theorem ze {f:Nat->List D6} {p q:Nat} {x:List D6} (h:q≠p):vZ f p x q=f q:=if_neg h
theorem NO {s:vP} {x:D6} (h:¬ (Q7 s x).2.1≠0):(Q7 s x).1=(s.1,s.2.1++[x],())/\I1 (s.1,s.2.1++[x],())=0/\s.1+s.2.1.length<16777215:=by
  unfold Q7 at h ⊢;by_cases h1:I1 s≠0
  . rw [if_pos h1] at h; exact absurd h1 h
  rw [if_neg h1] at h ⊢;have aM:=xS (Decidable.not_not.1 h1);by_cases h2:E4 x=true
  . rw [if_pos h2] at h; exact absurd (by decide) h
  rw [if_neg h2] at h ⊢;by_cases h3:(s.2.1.length:Int)=16\/16777215<=s.1+s.2.1.length
  . rw [if_pos h3] at h; exact absurd (by decide) h
  rw [if_neg h3];have h4:¬ (s.2.1.length:Int)=16:=λ e=>h3 (.inl e);have h5:¬ 16777215<=s.1+s.2.1.length:=λ e=>h3 (.inr e);refine ⟨rfl,?_,by omega⟩;unfold I1;rw [if_neg (by rw [wX.2 aM.1]; decide),if_neg,if_neg]
  . rw [List.any_append,aM.2.2];simpa using h2
  . show ¬ (16:Int)<((s.2.1++[x]).length:Int);rw [List.length_append]; simp only [List.length_singleton];have:=aM.2.1;omega
theorem Inv.say {said:Nat->List D6} {B:List D5} {S:Nat->List D6} {Q:List V8} {w:f9} (h:Inv said B S Q w) {p:Nat} {t:D6} (hp:p<w.2.1.length) (hv:X9 w.1.2.1 p=true)
    (hl:¬ (Q7 (P6 w p) t).2.1≠0):Inv (vZ said p (said p++[t])) B (vZ S p (S p++[t])) Q (Mz w p t (Q7 (P6 w p) t).1):=by
  obtain ⟨h1,h2,h3,h4,h5,h6,h7,h8,h9,fW,gk⟩:=h;obtain ⟨g1,g2,g3⟩:=NO hl;obtain ⟨⟨m,hm⟩,eI⟩:=h9 p hp hv;have hf:P6 w p=(((C3 p (Q.take m)).length:Int),(S p).drop (C3 p (Q.take m)).length,()):=hm.from_;have hle:(C3 p (Q.take m)).length<=(S p).length:=((zv (p:=p) (Q:=Q) (i:=m)).trans (h5 p)).length_le;rw [g1];rw [hf] at g2 g3 ⊢;simp only [List.length_drop] at g3;have nc:(S p).drop (C3 p (Q.take m)).length++[t]=(S p++[t]).drop (C3 p (Q.take m)).length:=(List.drop_append_of_le_length hle).symm;simp only [nc] at g2 ⊢;have hS:∀ q,S q <+: vZ S p (S p++[t]) q:=λ q=>by
    by_cases e:q=p
    . subst e; rw [AD]; exact List.prefix_append ..
    . rw [ze e]; exact List.prefix_rfl
  have hlen:(setFrom w p (((C3 p (Q.take m)).length:Int),(S p++[t]).drop (C3 p (Q.take m)).length,())).2.1.length=w.2.1.length:=List.length_set ..;have cD:∀ q,(setFrom w p (((C3 p (Q.take m)).length:Int),(S p++[t]).drop (C3 p (Q.take m)).length,())).2.1.getD q j9=if p=q then ((w.2.1.getD p j9).1,(w.2.1.getD p j9).2.1,(((C3 p (Q.take m)).length:Int),(S p++[t]).drop (C3 p (Q.take m)).length,()),(w.2.1.getD p j9).2.2.2) else w.2.1.getD q j9:=λ q=>by
    show (w.2.1.set p _).getD q j9=_;rw [X4];by_cases e:p=q
    . rw [if_pos ⟨e,hp⟩,if_pos e]; rfl
    . rw [if_neg (λ h=>e h.1),if_neg e]
  have base:Inv (vZ said p (said p++[t])) B (vZ S p (S p++[t])) Q (setFrom w p (((C3 p (Q.take m)).length:Int),(S p++[t]).drop (C3 p (Q.take m)).length,())):=by
    refine ⟨by rw [hlen]; exact h1,h2,h3,by rw [hlen]; exact h4,λ q=>(h5 q).trans (hS q),λ q=>?_,λ s hs=>(h7 s hs).mono hS List.prefix_rfl,λ q hq=>?_,λ q hq hv=>?_,λ q hq hv=>?_,by rw [hlen]; exact gk⟩
    . by_cases e:q=p
      . subst e; rw [AD,List.length_append]; simp only [List.length_singleton]; omega
      . rw [ze e]; exact h6 q
    . rw [hlen] at hq;rw [cD];by_cases e:p=q
      . subst e;rw [if_pos rfl];exact ⟨(h8 p hq).1,λ x hx=>An (hS p) ((h8 p hq).2 x hx)⟩
      . rw [if_neg e];exact ⟨(h8 q hq).1,λ x hx=>An (hS q) ((h8 q hq).2 x hx)⟩
    . rw [hlen] at hq;rw [cD];by_cases e:p=q
      . subst e;rw [if_pos rfl,AD,AD];refine ⟨⟨m,hm.le,hm.next,hm.wait,hm.log,?_,g2⟩,by rw [eI,List.append_assoc]⟩;rw [AD]
      . rw [if_neg e,ze (Ne.symm e),ze (Ne.symm e)];obtain ⟨⟨m',gw⟩,lG⟩:=h9 q hq hv;refine ⟨⟨m',gw.le,gw.next,gw.wait,gw.log,?_,gw.ok⟩,lG⟩;rw [ze (Ne.symm e)];exact gw.from_
    . rw [hlen] at hq;have e:q≠p:=by
        rintro rfl;have fI:X9 w.1.2.1 q=false:=hv;rename_i fa;rw [fa] at fI; cases fI
      rw [ze e,ze e];exact fW q hq hv
  refine base.Hg (W7.one ⟨λ _=>?_,λ h=>by cases h⟩);show (vZ S p (S p++[t]) ((p:Int)).toNat)[(((C3 p (Q.take m)).length:Int)+(((S p++[t]).drop (C3 p (Q.take m)).length).length:Int) - 1).toNat]?=some t;rw [show ((p:Int)).toNat=p from rfl,AD];rw [List.length_drop,List.length_append];simp only [List.length_singleton];rw [show (((C3 p (Q.take m)).length:Int)+(((S p).length+1 - (C3 p (Q.take m)).length:Nat):Int) - 1).toNat=(S p).length by omega];rw [List.getElem?_append_right (Nat.le_refl _),Nat.sub_self]; rfl
section
variable {said:Nat->List D6} {B:List D5} {S:Nat->List D6} {Q:List V8} {w:f9}
theorem Te {b most:Int} {l:List D6}:∀ {k:Nat},k<=l.length->∀ x∈xQ b most l k,∃ i,i<l.length/\x=(b+i,l.getD i [],())
  | 0,_,x,h=>by cases h
  | k+1,hk,x,h=>by
    rw [xQ] at h;rcases List.mem_append.1 h with h|h
    . exact Te (by omega) x h
    . split at h
      . rw [List.mem_singleton] at h; exact ⟨k,by omega,h⟩
      . cases h
theorem TS {P:C1->Prop} {p:Int} {l:List D5} {w:f9} (h:∀ x∈l,∀ f v,P (1,p,f,v,x.1,[0,0,0,0,0,0],x.2.1,())):∀ {k},k<=l.length->W7 P w (M9 p l w k)
  | 0,_=>.refl w
  | k+1,hk=>by
    rw [M9];refine (TS h (by omega)).trans (W7.one (h _ ?_ _ _));rw [List.getD_eq_getElem?_getD,List.getElem?_eq_getElem (by omega)]; exact List.getElem_mem _
theorem Inv.again (h:Inv said B S Q w) {p:Nat} (hp:p<w.2.1.length) (hv:X9 w.1.2.1 p=true) :
    Inv said B S Q (CU (M9 p (yi w p) w (yi w p).length) p):=by
  refine h.Hg ((TS (λ x hx f v=>?_) (Nat.le_refl _)).trans (W7.one ⟨λ e=>(by cases e),λ e=>(by cases e)⟩));refine ⟨λ _=>?_,λ e=>by cases e⟩;obtain ⟨⟨m,hm⟩,-⟩:=h.mem p hp hv;have hf:P6 w p=(((C3 p (Q.take m)).length:Int),(S p).drop (C3 p (Q.take m)).length,()):=hm.from_;have pT:I1 (P6 w p)=0:=hm.ok;unfold yi wQ at hx;rw [if_neg (by rw [pT]; simp),hf] at hx;obtain ⟨i,hi,rfl⟩:=Te (Nat.le_refl _) x hx;show (S ((p:Int)).toNat)[(((C3 p (Q.take m)).length:Int)+(i:Int)).toNat]?=some (((S p).drop (C3 p (Q.take m)).length).getD i []);rw [show ((p:Int)).toNat=p from rfl,show (((C3 p (Q.take m)).length:Int)+(i:Int)).toNat=(C3 p (Q.take m)).length+i by omega];rw [<- List.getElem?_drop,List.getD_eq_getElem?_getD,List.getElem?_eq_getElem hi]; rfl
theorem Inv.Vu (h:Inv said B S Q w) (p:Nat):Inv said B S Q (w.1,w.2.1.set p (true,(w.2.1.getD p j9).2),w.2.2):=by
  refine h.E1 (λ hp=>h.rcv p hp) (λ hp hv=>?_);obtain ⟨⟨m,hm⟩,-⟩:=h.mem p hp hv;exact ⟨m,hm.le,hm.next,hm.wait,hm.log,hm.from_,hm.ok⟩
theorem Inv.ways (h:Inv said B S Q w) {l:List D6} (hl:l.length<=60) (hm:∀ s∈l,s∈w.2.2.2.1):Inv said B S Q (w.1,w.2.1,w.2.2.1,l,()):=by
  obtain ⟨h1,h2,h3,h4,h5,h6,h7,h8,h9,fW,gk⟩:=h;exact ⟨h1,hl,h3,h4,h5,h6,λ s hs=>h7 s (hm s hs),h8,h9,fW,gk⟩
theorem Inv.drop (h:Inv said B S Q w) (k:Int):Inv said B S Q (yU w k):=by
  refine h.ways ?_ (λ s hs=>?_)
  . have:=h.way;rw [List.length_append,List.length_take,List.length_drop];by_cases c:0<=k
    . omega
    . have e1:k.toNat=0:=by omega
      have e2:(k+1).toNat=0:=by omega
      rw [e1,e2]; omega
  . rcases List.mem_append.1 hs with hs|hs
    . exact List.mem_of_mem_take hs
    . exact List.mem_of_mem_drop hs
theorem Inv.copy (h:Inv said B S Q w) {k:Nat} (hk:k<w.2.2.2.1.length) (hn:¬ (w.2.2.2.1.length:Int)=60):Inv said B S Q (Dt w k):=by
  refine h.ways ?_ (λ s hs=>?_)
  . have:=h.way;rw [List.length_append]; simp only [List.length_singleton]; omega
  . rcases List.mem_append.1 hs with hs|hs
    . exact hs
    . rw [List.mem_singleton] at hs;rw [hs,List.getD_eq_getElem?_getD,List.getElem?_eq_getElem hk]; exact List.getElem_mem _
theorem Inv.asks (h:Inv said B S Q w) {n:C1} (h0:0<=n.2.2.2.2.1):∀ j,W7 (yg S w.2.2.1) w (F8 w n j)
  | 0=>.refl w
  | j+1=>by
    rw [F8]
    split
    . rename_i bc;refine (Inv.asks h h0 j).trans (W7.one ⟨λ e=>(by cases e),λ _=>?_⟩);rw [(a12 j).2.2] at bc;show w.2.2.1[(n.2.2.2.2.1+j).toNat]?=some ((F8 w n j).2.2.1.getD (n.2.2.2.2.1+j).toNat []);rw [(a12 j).2.2,List.getD_eq_getElem?_getD,List.getElem?_eq_getElem (by omega)]; rfl
    . exact Inv.asks h h0 j
structure Told (texts:List D6) (w w':f9):Prop where
  view:w'.1=w.1
  all:w'.2.1=w.2.1
  ord:w'.2.2.1=w.2.2.1++texts
  len:w.2.2.2.1.length<=60->w'.2.2.2.1.length<=60
  way:∀ s∈w'.2.2.2.1,s∈w.2.2.2.1\/∃ n:C1,x6 s=(n,0,())/\n.2.2.2.1=w.1.1/\n.1=2/\(w.2.2.1++texts)[n.2.2.2.2.1.toNat]?=some n.2.2.2.2.2.2.1
theorem Tq {x:D6} {w:f9} {P:C1->Prop} (h:∀ f t,P (2,f,t,w.1.1,(w.2.2.1.length:Int) - 1,[0,0,0,0,0,0],x,())):∀ p,W7 P w (G9 x w p)
  | 0=>.refl w
  | p+1=>by
    rw [G9];have ih:=Tq h p
    split
    . refine ih.trans (W7.one ?_);rw [ih.view,ih.ord];exact h _ _
    . exact ih
theorem told {f first:Int} {l:List D6} {w:f9}:∀ {i},i<=l.length->Told ((l.take i).mapIdx (λ j t=>I9 f (first+j) t)) w (J0 f first l w i)
  | 0,_=>⟨rfl,rfl,by simp [J0],id,λ s h=>.inl h⟩
  | i+1,hi=>by
    have ih:=told (f:=f) (first:=first) (w:=w) (show i<=l.length by omega);rw [J0];obtain ⟨u,hu⟩:∃ u,u=J0 f first l w i:=⟨_,rfl⟩
    obtain ⟨x,hx⟩:∃ x,x=I9 f (first+i) (l.getD i []):=⟨_,rfl⟩;rw [<- hu] at ih ⊢;rw [<- hx];have sf:(l.take (i+1)).mapIdx (λ j t=>I9 f (first+j) t)=(l.take i).mapIdx (λ j t=>I9 f (first+j) t)++[x]:=by
      rw [Fj (show i<l.length by omega) [],List.mapIdx_append,hx];simp only [List.length_take];rw [show min i l.length=i by omega];simp
    rw [sf];have hp:(zR u x).2.2.1=w.2.2.1++((l.take i).mapIdx (λ j t=>I9 f (first+j) t)++[x]):=by
      show u.2.2.1++[x]=_;rw [ih.ord,List.append_assoc]
    have hc:=Tq (x:=x) (w:=zR u x) (P:=λ n=>n.1=2/\(zR u x).2.2.1[n.2.2.2.2.1.toNat]?=some n.2.2.2.2.2.2.1) (λ f t=>⟨rfl,by
      show (u.2.2.1++[x])[(((u.2.2.1++[x]).length:Int) - 1).toNat]?=some x;rw [List.length_append];simp only [List.length_singleton];rw [show (((u.2.2.1.length+1:Nat):Int) - 1).toNat=u.2.2.1.length by omega];rw [List.getElem?_append_right (Nat.le_refl _),Nat.sub_self]; rfl⟩) u.2.1.length
    refine ⟨hc.view.trans ih.view,hc.all.trans ih.all,hc.ord.trans hp,λ e=>hc.len (ih.len e),λ s hs=>?_⟩;rcases hc.way s hs with hs|⟨n,e1,e2,e3,e4⟩
    . rcases ih.way s hs with hs|⟨n,e1,e2,e3,e4⟩
      . exact .inl hs
      . refine .inr ⟨n,e1,e2,e3,?_⟩;rw [<- List.append_assoc];exact An (List.prefix_append ..) e4
    . refine .inr ⟨n,e1,?_,e3,?_⟩
      . rw [e2];show u.1.1=w.1.1;rw [ih.view]
      . rw [<- hp]; exact e4
structure c93 (S:Nat->List D6) (w:f9) (n:C1):Prop where
  msg:yg S w.2.2.1 n
  seq:0<=n.2.2.2.2.1
theorem TW {P:List V8} {p:Nat}:∀ {l:List D6} {c:Nat},(C3 p P).length=c->N1 P (l.map λ t=>(p,t))=l.mapIdx (λ j t=>I9 p ((c:Int)+j) t)
  | [],_,_=>rfl
  | t::l,c,h=>by
    rw [List.map_cons,N1,List.mapIdx_cons,TW (c:=c+1) (by rw [yy,List.length_append,h]; simp [C3])];rw [h];have e:(λ(j:Nat) (t:D6)=>I9 (p:Int) (((c+1:Nat):Int)+j) t)=λ j t=>I9 p ((c:Int)+((j+1:Nat):Int)) t:=by
      funext j t
      rw [show ((c+1:Nat):Int)+(j:Int)=(c:Int)+((j+1:Nat):Int) by omega]
    refine congr (congrArg List.cons ?_) (congrArg (λ f=>List.mapIdx f l) e);show I9 p c t=I9 p ((c:Int)+((0:Nat):Int)) t;rw [show (c:Int)+((0:Nat):Int)=c by omega]
theorem Inv.order (h:Inv said B S Q w) {n:C1} (hk:¬ known w n.2.1≠0) (hm:(S n.2.1.toNat)[n.2.2.2.2.1.toNat]?=some n.2.2.2.2.2.2.1) :
    ∃ Q',Inv said B S Q' (X8 w n):=by
  by_cases he:(Z1 w n).2.2.1≠0
  . refine ⟨Q,?_⟩;rw [X8,if_pos he]; exact h
  rw [X8,if_neg he];obtain ⟨v,al,rr⟩:=w;have nZ:=Cb hk;obtain ⟨p,hp⟩:∃ p:Nat,n.2.1=p:=⟨n.2.1.toNat,by omega⟩;have bX:p<al.length:=by omega
  rw [hp] at hm ⊢;have lE:Z1 (v,al,rr) n=D8 (al.getD p j9).2.2.2.2.1 (n.2.2.2.2.1,n.2.2.2.2.2.2.1,()):=by rw [Z1,hp]; rfl
  rw [lE] at he ⊢;obtain ⟨lI,mh⟩:=h.rcv p bX;obtain ⟨r,hr⟩:∃ r,r=D8 (al.getD p j9).2.2.2.2.1 (n.2.2.2.2.1,n.2.2.2.2.2.2.1,()):=⟨_,rfl⟩;have lf:=Decidable.not_not.1 he;obtain ⟨a1,a2,a3,a4,a5,a6⟩:=zo lf;have fL:=Rf (F:=λ i=>(S p)[i]?) lf mh hm;rw [<- hr] at lf a1 a2 a3 a5 a6 fL ⊢;have pa:((al.getD p j9).2.2.2.2.1.1).toNat=(C3 p Q).length:=by
    have:(al.getD p j9).2.2.2.2.1.1=(C3 p Q).length:=lI;omega
  have mi:(al.getD p j9).2.2.2.2.1.1=((C3 p Q).length:Int):=lI;have hl:=ZM (X:=S p) (l:=r.2.1) (r:=(C3 p Q).length) (λ i hi=>by rw [<- pa]; exact fL i hi);have hT:=told (f:=(p:Int)) (first:=(C3 p Q).length) (l:=r.2.1) (w:=yz (v,al,rr) p (yp (N9 (v,al,rr) p) r.1)) (Nat.le_refl _);have la:(N9 (v,al,rr) (p:Int)).2.2.2.2.1.1=((C3 p Q).length:Int):=lI;rw [la];rw [List.take_length] at hT;have pZ:r.2.1.mapIdx (λ j t=>I9 (p:Int) (((C3 p Q).length:Int)+j) t)=N1 Q (r.2.1.map λ t=>(p,t)):=(TW rfl).symm;rw [pZ] at hT;obtain ⟨u,hu⟩:∃ u,u=J0 (p:Int) ((C3 p Q).length:Int) r.2.1 (yz (v,al,rr) p (yp (N9 (v,al,rr) p) r.1)) r.2.1.length:=⟨_,rfl⟩;rw [<- hu] at hT ⊢;have hQ:∀ q,C3 q (Q++r.2.1.map λ t=>(p,t))=C3 q Q++if p=q then r.2.1 else []:=λ q=>by rw [yy,Wz]
  have bD:u.2.1=al.set p (yp (al.getD p j9) r.1):=hT.all;have hlen:u.2.1.length=al.length:=by rw [bD,List.length_set]
  have ir:u.1=v:=hT.view;have ph:u.2.2.1=O7 (Q++r.2.1.map λ t=>(p,t)):=by
    rw [hT.ord,RG];congr 1;exact h.ord
  have mj:rr.1 <+: u.2.2.1:=⟨_,hT.ord.symm⟩;have cD:∀ q,u.2.1.getD q j9=if p=q then yp (al.getD p j9) r.1 else al.getD q j9:=λ q=>by
    rw [bD,X4];by_cases e:p=q
    . rw [if_pos ⟨e,bX⟩,if_pos e]
    . rw [if_neg (λ h=>e h.1),if_neg e]
  refine ⟨Q++r.2.1.map λ t=>(p,t),by rw [hlen]; exact h.R5,hT.len h.way,ph,λ x hx=>?_,λ q=>?_,h.short,λ s hs=>?_,λ q hq=>?_,λ q hq hv=>?_,λ q hq hv=>?_,by rw [hlen]; exact h.Md⟩
  . rw [hlen];rcases List.mem_append.1 hx with hx|hx
    . exact h.inQ x hx
    . obtain ⟨t,-,rfl⟩:=List.mem_map.1 hx;exact bX
  . rw [hQ];by_cases e:p=q
    . subst e;rw [if_pos rfl];have aZ:C3 p Q=(S p).take (C3 p Q).length:=List.prefix_iff_eq_take.1 (h.zN p);have:C3 p Q++r.2.1=(S p).take ((C3 p Q).length+r.2.1.length):=by
        rw [List.take_add,<- hl,<- aZ]
      rw [this];exact List.take_prefix ..
    . rw [if_neg e,List.append_nil]; exact h.zN q
  . rw [ir];rcases hT.way s hs with hs|⟨m,e1,e2,e3,e4⟩
    . exact (h.msg s hs).mono (λ _=>List.prefix_rfl) mj
    . intro _;rw [e1];refine ⟨Int.le_of_eq e2,λ _=>⟨λ e=>?_,λ _=>?_⟩⟩
      . have e3:m.1=2:=e3;have e:m.1=1:=e;omega
      . rw [hT.ord]; exact e4
  . rw [hlen] at hq;rw [cD,hQ];by_cases e:p=q
    . subst e;rw [if_pos rfl,if_pos rfl];refine ⟨?_,λ x hx=>?_⟩
      . show r.1.1=_;rw [a5,mi,List.length_append]; omega
      . rcases a2 x hx with rfl|hx
        . exact hm
        . exact mh x hx
    . rw [if_neg e,if_neg e,List.append_nil]; exact h.rcv q hq
  . rw [hlen] at hq;rw [ir] at hv;obtain ⟨⟨m,hm⟩,hs⟩:=h.mem q hq hv;refine ⟨⟨m,?_⟩,hs⟩;have bj:Dm said B S (Q++r.2.1.map λ t=>(p,t)) q (al.getD q j9) m:=by
      have lE:(Q++r.2.1.map λ t=>(p,t)).take m=Q.take m:=List.take_append_of_le_length hm.le;refine ⟨by rw [List.length_append]; have:=hm.le; omega,hm.next,λ x hx=>?_,by rw [lE]; exact hm.log,by rw [lE]; exact hm.from_,hm.ok⟩;rw [RG];exact An (List.prefix_append ..) (hm.wait x hx)
    rw [cD];by_cases e:p=q
    . subst e;rw [if_pos rfl];exact ⟨bj.le,bj.next,bj.wait,bj.log,bj.from_,bj.ok⟩
    . rw [if_neg e]; exact bj
  . rw [hlen] at hq;rw [ir] at hv;exact h.out q hq hv
end
end Go.Proofs.YtijlnmgondibnaaGreatDoor
namespace Go.Proofs.YtijlnmgondibnaaGreatDoor
open Go.Ex
set_option maxRecDepth 100000
theorem Qw {b:Int} {l:List D6} (h1:0<=b/\b<=16777215) (h2:l.length<=16) (h3:l.any E4=false):I1 (b,l,())=0:=by
  unfold I1;rw [if_neg (by rw [wX.2 h1]; decide),if_neg (by show ¬ (16:Int)<(l.length:Int); omega),if_neg (by rw [h3]; decide)]
theorem Pu {l:List D6} {k:Nat} (h:l.any E4=false):(l.drop k).any E4=false:=by
  rw [List.any_eq_false] at h ⊢;exact λ x hx=>h x (List.mem_of_mem_drop hx)
theorem Wb {k:Nat} {l:List D6} (h:I1 ((k:Int),l,())=0) (hl:1<=l.length) (hb:k+l.length<=16777215) :
    R4 ((k:Int),l,()) ((k:Int)+1)=((((k+1:Nat):Int),l.drop 1,()),0,())/\I1 (((k+1:Nat):Int),l.drop 1,())=0:=by
  have aM:=xS h;have ha:ahd (k:Int) ((k:Int)+1)=1:=by unfold ahd; rw [if_neg (by omega)]; omega
  constructor
  . unfold R4;rw [if_neg (by rw [h]; decide),if_neg (by show ¬ (k:Int)+(l.length:Int)<(k:Int)+1; omega)];simp only;rw [ha];rfl
  . exact Qw ⟨by omega,by omega⟩ (by rw [List.length_drop]; have:=aM.2.1; simp only at this; omega) (Pu aM.2.2)
section
variable {said:Nat->List D6} {B:List D5} {S:Nat->List D6} {Q:List V8} {w:f9}
structure AX (B:List D5) (S:Nat->List D6) (Q:List V8) (p m:Nat) (x:o8):Prop where
  log:x.2.1=B++(Q.take m).map xg
  from_:x.2.2.1=(((C3 p (Q.take m)).length:Int),(S p).drop (C3 p (Q.take m)).length,())
  ok:I1 x.2.2.1=0
theorem c01 {p m q:Nat} {x:o8} {s:D6} (h:AX B S Q p m x) (hQ:Q[m]?=some (q,s)) (hq:q<=5) (aZ:∀ p,C3 p Q <+: S p) (cd:∀ p,(S p).length<=16777215) :
    AX B S Q p (m+1) (wg p x (I9 q (C3 q (Q.take m)).length s))/\(wg p x (I9 q (C3 q (Q.take m)).length s)).2.2.2=x.2.2.2/\(wg p x (I9 q (C3 q (Q.take m)).length s)).1=x.1:=by
  have hm:m<Q.length:=by
    by_cases hm:m<Q.length
    . exact hm
    . rw [List.getElem?_eq_none (by omega)] at hQ; cases hQ
  have eG:Q.take (m+1)=Q.take m++[(q,s)]:=by
    rw [List.take_add_one,hQ]; rfl
  have qf:∀ p,(C3 p (Q.take (m+1))).length<=(S p).length:=λ p=>((zv (p:=p) (Q:=Q) (i:=m+1)).trans (aZ p)).length_le;have hk:(C3 q (Q.take m)).length<=16777300:=by
    have h1:=((zv (p:=q) (Q:=Q) (i:=m)).trans (aZ q)).length_le;have:=cd q;omega
  have hw:who (I9 q (C3 q (Q.take m)).length s)=q:=Zs hq;have hn:nth (I9 q (C3 q (Q.take m)).length s)=(C3 q (Q.take m)).length:=QE hk;have ht:xh (I9 q (C3 q (Q.take m)).length s)=s:=c2V;have mM:x.2.1++[((q:Int),s,())]=B++(Q.take (m+1)).map xg:=by
    rw [h.log,eG,List.map_append,List.append_assoc]; rfl
  by_cases e:q=p
  . subst e;have hc:=qf q;rw [eG,yy] at hc;have h1:C3 q [(q,s)]=[s]:=by simp [C3]
    rw [h1,List.length_append] at hc;simp only [List.length_singleton] at hc;have aM:=h.ok;rw [h.from_] at aM;obtain ⟨g1,g2⟩:=Wb aM (by rw [List.length_drop]; omega) (by rw [List.length_drop]; have:=cd q; omega);have hl:R4 x.2.2.1 (nth (I9 q (C3 q (Q.take m)).length s)+1)=(((((C3 q (Q.take m)).length+1:Nat):Int),((S q).drop (C3 q (Q.take m)).length).drop 1,()),0,()):=by
      rw [h.from_,hn]; exact g1
    rw [Kg hw (by rw [hl]),hl,hw,ht];refine ⟨⟨mM,?_,g2⟩,rfl,rfl⟩;show (((((C3 q (Q.take m)).length+1:Nat):Int),((S q).drop (C3 q (Q.take m)).length).drop 1,()):FrD)=_;rw [eG,yy,h1,List.length_append,List.drop_drop]; rfl
  . rw [Et (λ c=>e (by have:=c.1; rw [hw] at this; exact_mod_cast this)),hw,ht];refine ⟨⟨mM,?_,h.ok⟩,rfl,rfl⟩;have h1:C3 p [(q,s)]=[]:=by simp [C3,e]
    rw [eG,yy,h1,List.append_nil];exact h.from_
theorem Rd {p m:Nat} {x:o8} {l:List D6} (h:AX B S Q p m x) (hl:∀ i,i<l.length->(O7 Q)[m+i]?=l[i]?) (hq:∀ y∈Q,y.1<=5) (aZ:∀ p,C3 p Q <+: S p) (cd:∀ p,(S p).length<=16777215) :
    ∀ {i},i<=l.length->AX B S Q p (m+i) (K0 p x l i)/\(K0 p x l i).2.2.2=x.2.2.2/\(K0 p x l i).1=x.1
  | 0,_=>⟨h,rfl,rfl⟩
  | i+1,hi=>by
    obtain ⟨g1,g2,g3⟩:=Rd h hl hq aZ cd (show i<=l.length by omega);have h1:=hl i (by omega);rw [RH,List.getElem?_eq_getElem (show i<l.length by omega)] at h1;cases hQ:Q[m+i]? with
    | none=>rw [hQ] at h1; cases h1
    | some y =>
      obtain ⟨q,s⟩:=y;rw [hQ] at h1;have h2:I9 q (C3 q (Q.take (m+i))).length s=l[i]:=by simpa using h1
      have hy:=hq (q,s) (List.mem_of_getElem? hQ);obtain ⟨k1,k2,k3⟩:=c01 (p:=p) g1 hQ hy aZ cd;rw [K0,show l.getD i []=I9 q (C3 q (Q.take (m+i))).length s by rw [h2,List.getD_eq_getElem?_getD,List.getElem?_eq_getElem (show i<l.length by omega)]; rfl];exact ⟨k1,k2.trans g2,k3.trans g3⟩
theorem Inv.le5 (h:Inv said B S Q w):∀ y∈Q,y.1<=5:=λ y hy=>by have:=h.inQ y hy; have:=h.R5; omega
theorem Inv.take (h:Inv said B S Q w) {n:C1} {p:Nat} (hp:n.2.2.1=p) (bX:p<w.2.1.length) (hv:X9 w.1.2.1 p=true) (hm:w.2.2.1[n.2.2.2.2.1.toNat]?=some n.2.2.2.2.2.2.1) :
    Inv said B S Q (vF w n):=by
  by_cases he:(R0 w n).2.2.1≠0
  . rw [vF,if_pos he]; exact h
  rw [vF,if_neg he,hp];have lE:R0 w n=D8 (w.2.1.getD p j9).2.2.2.1 (n.2.2.2.2.1,n.2.2.2.2.2.2.1,()):=by rw [R0,hp]; rfl
  rw [lE] at he ⊢;have lf:=Decidable.not_not.1 he;obtain ⟨⟨m,hM⟩,eI⟩:=h.mem p bX hv;rw [h.ord] at hm;obtain ⟨a1,a2,a3,a4,a5,a6⟩:=zo lf;have fL:=Rf (F:=λ i=>(O7 Q)[i]?) lf hM.wait hm;obtain ⟨r,hr⟩:∃ r,r=D8 (w.2.1.getD p j9).2.2.2.1 (n.2.2.2.2.1,n.2.2.2.2.2.2.1,()):=⟨_,rfl⟩;rw [<- hr] at lf a1 a2 a3 a5 a6 fL ⊢;have jS:=hM.next;have fL:∀ i,i<r.2.1.length->(O7 Q)[m+i]?=r.2.1[i]?:=λ i hi=>by
    have:=fL i hi;rw [jS] at this;exact this
  have hH:AX B S Q p m (Bm (N9 w (p:Int)) r.1):=⟨hM.log,hM.from_,hM.ok⟩;obtain ⟨k1,k2,k3⟩:=Rd hH fL h.le5 h.zN h.short (Nat.le_refl _);refine h.E1 (p:=p) (λ _=>?_) (λ _ _=>⟨m+r.2.1.length,?_⟩)
  . rw [k2];exact h.rcv p bX
  . refine ⟨?_,?_,?_,k1.log,k1.from_,k1.ok⟩
    . rcases Nat.eq_zero_or_pos r.2.1.length with h0|h0
      . rw [h0]; exact hM.le
      . have h1:=fL (r.2.1.length - 1) (by omega);rw [List.getElem?_eq_getElem (show r.2.1.length - 1<r.2.1.length by omega)] at h1;have h2:m+(r.2.1.length - 1)<(O7 Q).length:=by
          by_cases h2:m+(r.2.1.length - 1)<(O7 Q).length
          . exact h2
          . rw [List.getElem?_eq_none (by omega)] at h1; cases h1
        rw [Zf] at h2;omega
    . rw [k2];show r.1.1=_;rw [a5,jS]; omega
    . rw [k2];intro x hx;rcases a2 x hx with rfl|hx
      . exact hm
      . exact hM.wait x hx
theorem Inv.Xm (h:Inv said B S Q w) {n:C1} (h0:0<=n.2.2.2.2.1) (hm:yg S w.2.2.1 n) (ha:s7 w n.2.2.1=true):∃ Q',Inv said B S Q' (G2 w n):=by
  by_cases hk:known w n.2.1≠0
  . exact ⟨Q,by rw [TK hk]; exact h⟩
  by_cases c1:n.1=1
  . rw [Ud hk c1]; exact h.order hk (hm.1 c1)
  by_cases c3:n.1=3
  . refine ⟨Q,?_⟩;rw [Uc hk c3]; exact h.Hg (h.asks h0 4)
  by_cases c2:n.1=2
  . refine ⟨Q,?_⟩;rw [Un hk c2];obtain ⟨p,hp,bX,hv,-⟩:=Cx.1 ha;exact h.take hp bX hv (hm.2 c2)
  . exact ⟨Q,by rw [Um c1 c3 c2]; exact h⟩
theorem Qf {s:D6} (h:(x6 s).2.1=0):0<=(x6 s).1.2.2.2.2.1/\(x6 s).1.2.2.2.2.1<=16777215:=(KV (WK h).1).seq
theorem Inv.Vf (h:Inv said B S Q w) {bs:Int} {s:D6} (hs:zV S w.2.2.1 w.1.1 s):∃ Q',Inv said B S Q' (xp w bs s):=by
  by_cases c:bs=1/\(x6 s).2.1=0/\(x6 s).1.2.2.2.1=w.1.1/\s7 w (x6 s).1.2.2.1=true
  . rw [SY c];exact h.Xm (Qf c.2.1).1 ((hs c.2.1).2 c.2.2.1) c.2.2.2
  . exact ⟨Q,by rw [Rh c]; exact h⟩
theorem Inv.move (h:Inv said B S Q w) (k bs:Int):∃ Q',Inv said B S Q' (G1 w k bs).1:=by
  by_cases c1:I6 bs 1 3=false
  . exact ⟨Q,by rw [Rg c1]; exact h⟩
  by_cases c2:I6 k 0 ((w.2.2.2.1.length:Int) - 1)=false
  . exact ⟨Q,by rw [SX c1 c2]; exact h⟩
  have hk:=V4.1 (Bool.not_eq_false _▸c2:I6 k 0 ((w.2.2.2.1.length:Int) - 1)=true);by_cases c3:bs=3
  . by_cases c4:(w.2.2.2.1.length:Int)=60
    . exact ⟨Q,by rw [SV c1 c2 c3 c4]; exact h⟩
    . refine ⟨Q,?_⟩;rw [SU c1 c2 c3 c4];exact h.copy (by omega) c4
  . rw [JL c1 c2 c3];refine (h.drop k).Vf ?_;refine h.msg _ ?_;rw [List.getD_eq_getElem?_getD,List.getElem?_eq_getElem (by omega)]; exact List.getElem_mem _
end
end Go.Proofs.YtijlnmgondibnaaGreatDoor
namespace Go.Proofs.YtijlnmgondibnaaGreatDoor
open Go.Ex
set_option maxRecDepth 100000
theorem As {x:Int} (h:0<=x/\x<=255) {p:Nat} (hp:p<8):X9 x p=bit x p:=by
  have key:∀ n:Fin 256,∀ i:Fin 8,X9 ((n.val:Nat):Int) i.val=bit ((n.val:Nat):Int) i.val:=by decide +kernel
  have:=key ⟨x.toNat,by omega⟩ ⟨p,hp⟩;simpa [show ((x.toNat:Nat):Int)=x by omega] using this
theorem WH {k i:Nat} (hk:k<8) (hi:i<8):bit (IntKind.wrap .u8 (1*2^min ((k:Nat):Int).toNat IntKind.u8.bits)) i=decide (i=k):=by
  have key:∀ k:Fin 8,∀ i:Fin 8,bit (IntKind.wrap .u8 (1*2^min ((k.val:Nat):Int).toNat IntKind.u8.bits)) i.val=decide (i.val=k.val):=by decide +kernel
  exact key ⟨k,hk⟩ ⟨i,hi⟩
theorem QW (i:Nat):bit 0 i=false:=by
  show (0:Nat).testBit i=false;simp
theorem JG {w:f9} (hv:0<=w.1.2.1/\w.1.2.1<=255):∀ {k:Nat},k<=8->r9 .u8 (D7 w k)/\∀ i,i<8->bit (D7 w k) i=(decide (i<k) && X9 w.1.2.1 i && !s7 w i)
  | 0,_=>⟨u8_in.2 ⟨Int.le_refl 0,by show (0:Int)<=255; decide⟩,λ i _=>by
      show bit 0 i=_;rw [QW]; simp⟩
  | k+1,hk=>by
    obtain ⟨h1,h2⟩:=JG hv (show k<=8 by omega);rw [D7,Qx];by_cases a:s7 w k=true
    . rw [if_pos a];refine ⟨h1,λ i hi=>?_⟩;rw [h2 i hi];by_cases e:i=k
      . subst e;rw [a]; simp
      . rw [show decide (i<k+1)=decide (i<k) by by_cases c:i<k<;>simp [c]<;>omega]
    . rw [if_neg a];refine ⟨Ho,λ i hi=>?_⟩;rw [MQ u8s h1 ML,Nu u8s (u8_in.2 hv) (U2 _ _),WH (by omega) hi,h2 i hi,<- As hv hi];by_cases e:i=k
      . subst e;have a':s7 w i=false:=by simpa using a
        rw [a']; simp
      . rw [show decide (i<k+1)=decide (i<k) by by_cases c:i<k<;>simp [c]<;>omega];simp [e]
theorem QD {v:vR} {g:Int} (h:¬ (R8 v g 0).2.1≠0):(R8 v g 0).1=(v.1+1,bOr .u8 (R6 .u8 v.2.1 g) 0,())/\v.1<16777215/\0<=v.1:=by
  unfold R8 at h ⊢;by_cases c1:S5 v≠0
  . rw [if_pos c1] at h; exact absurd c1 h
  rw [if_neg c1] at h ⊢;split at h
  . exact absurd (by decide) h
  rename_i c2;rw [if_neg c2];split at h
  . exact absurd (by decide) h
  rename_i c3;rw [if_neg c3];split at h
  . exact absurd (by decide) h
  rename_i c4;rw [if_neg c4];split at h
  . exact absurd (by decide) h
  rename_i c5;rw [if_neg c5];refine ⟨rfl,?_⟩;unfold S5 at c1;split at c1
  . exact absurd (by decide) c1
  . rename_i c6;omega
theorem members {w:f9} (hf:w.2.1.length<=6) (hv:0<=w.1.2.1/\w.1.2.1<=255) (hn:¬ (R7 w).2.1≠0) :
    (F3 w).1.1=w.1.1+1/\(0<=(F3 w).1.2.1/\(F3 w).1.2.1<=255)/\∀ p,p<w.2.1.length->X9 (F3 w).1.2.1 p=s7 w p:=by
  obtain ⟨h1,h2⟩:=QD hn;have he:(F3 w).1=(w.1.1+1,bOr .u8 (R6 .u8 w.1.2.1 (D7 w w.2.1.length)) 0,()):=h1;obtain ⟨g1,g2⟩:=JG hv (show w.2.1.length<=8 by omega);rw [he];refine ⟨rfl,u8_in.1 Ho,λ p hp=>?_⟩;have z0:r9 .u8 (0:Int):=u8_in.2 ⟨by decide,by decide⟩;show X9 (bOr .u8 (R6 .u8 w.1.2.1 (D7 w w.2.1.length)) 0) p=s7 w p;rw [As (u8_in.1 Ho) (by omega),MQ u8s AE z0,Sm u8s (u8_in.2 hv) g1,g2 p (by omega),QW,<- As hv (by omega),decide_eq_true hp];cases hm:X9 w.1.2.1 p with
  | true=>simp
  | false =>
    have:s7 w p=false:=by
      cases ha:s7 w p with
      | false=>rfl
      | true=>have:=(zx.1 ha).2.1; rw [hm] at this; cases this
    rw [this]; rfl
theorem Kj {w:f9}:∀ {k:Nat},I4 w k=[]\/∃ i,i<k/\s7 w i=true/\I4 w k=(w.2.1.getD i j9).2.1
  | 0=>.inl rfl
  | k+1=>by
    rw [I4]
    split
    . rename_i h; exact .inr ⟨k,by omega,h.1,rfl⟩
    . rcases Kj (w:=w) (k:=k) with h|⟨i,h1,h2,h3⟩
      . exact .inl h
      . exact .inr ⟨i,by omega,h2,h3⟩
theorem TD {f:Nat->o8->o8} {l:List o8} {p:Nat} (hp:p<l.length):(l.mapIdx f).getD p j9=f p (l.getD p j9):=by
  rw [List.getD_eq_getElem?_getD,List.getElem?_mapIdx,List.getD_eq_getElem?_getD,List.getElem?_eq_getElem hp]; rfl
theorem Yf {α:Type} {l:List α} {c:Nat}:l.drop (min c l.length)=l.drop c:=by
  by_cases h:c<=l.length
  . rw [Nat.min_eq_left h]
  . rw [Nat.min_eq_right (by omega),List.drop_length,List.drop_eq_nil_of_le (by omega)]
section
variable {said:Nat->List D6} {B:List D5} {S:Nat->List D6} {Q:List V8} {w:f9}
theorem Inv.long (h:Inv said B S Q w) {p0:Nat} (lJ:p0<w.2.1.length) (oq:s7 w p0=true) :
    ∃ m,m<=Q.length/\I4 w w.2.1.length=B++(Q.take m).map xg/\∀ p,p<w.2.1.length->s7 w p=true->∀ j,Dm said B S Q p (w.2.1.getD p j9) j->j<=m:=by
  rcases Kj (w:=w) (k:=w.2.1.length) with hL|⟨i,hi,tH,hL⟩
  . have hz:∀ p,p<w.2.1.length->s7 w p=true->(w.2.1.getD p j9).2.1=[]:=λ p hp fe=>by
      have:=Ev fe hp;rw [hL] at this;exact List.eq_nil_of_length_eq_zero (by simpa using this)
    obtain ⟨⟨j,hj⟩,-⟩:=h.mem p0 lJ (zx.1 oq).2.1;have h0:=hj.log;rw [hz p0 lJ oq] at h0;have hB:B=[]:=(List.append_eq_nil_iff.1 h0.symm).1;refine ⟨0,Nat.zero_le _,by rw [hL,hB]; rfl,λ p hp fe j hj=>?_⟩;have h0:=hj.log;rw [hz p hp fe] at h0;have h1:=(List.append_eq_nil_iff.1 h0.symm).2;have h2:=congrArg List.length h1;rw [List.length_map,List.length_take] at h2;have:=hj.le;simp only [List.length_nil] at h2;omega
  . obtain ⟨⟨m,hm⟩,-⟩:=h.mem i hi (zx.1 tH).2.1;refine ⟨m,hm.le,by rw [hL,hm.log],λ p hp fe j hj=>?_⟩;have:=Ev fe hp;rw [hL,hm.log,hj.log,List.length_append,List.length_append,List.length_map,List.length_map,List.length_take,List.length_take] at this;have h1:=hj.le;have h2:=hm.le;omega
theorem Inv.change (h:Inv said B S Q w) (hv:0<=w.1.2.1/\w.1.2.1<=255) (hn:¬ (R7 w).2.1≠0) :
    ∃ B' S',Inv said B' S' [] (F3 w)/\(∀ p,p<w.2.1.length->s7 w p=true->(F3 w).2.1.getD p j9=((w.2.1.getD p j9).1,B',(0,S' p,()),(0,[],()),(0,[],()),())) /\
      (∀ p,p<w.2.1.length->(w.2.1.getD p j9).2.1 <+: ((F3 w).2.1.getD p j9).2.1):=by
  obtain ⟨fa,lD,lY⟩:=members h.R5 hv hn;have hlen:(F3 w).2.1.length=w.2.1.length:=List.length_mapIdx ..;have cD:∀ p:Nat,p<w.2.1.length->(F3 w).2.1.getD p j9=vi w (I4 w w.2.1.length) p (w.2.1.getD p j9):=λ p hp=>TD hp;have gL:∀ p:Nat,p<w.2.1.length->s7 w p=false->(F3 w).2.1.getD p j9=((w.2.1.getD p j9).1,(w.2.1.getD p j9).2.1,(w.2.1.getD p j9).2.2.1,(w.2.1.getD p j9).2.2.2.1,(0,[],()),()):=λ p hp ha=>by
    rw [cD p hp,vi,if_neg (by rw [ha]; decide)]
  have mK:∀ S',∀ s∈w.2.2.2.1,zV S' [] (w.1.1+1) s:=λ S' s hs e=>by
    have:=(h.msg s hs e).1;exact ⟨by omega,λ e2=>absurd e2 (by omega)⟩
  by_cases hex:∃ p0:Nat,p0<w.2.1.length/\s7 w p0=true
  . obtain ⟨p0,lJ,oq⟩:=hex;obtain ⟨m,uL,hL,jy⟩:=h.long lJ oq;rw [hL] at cD;obtain ⟨S',iO⟩:∃ S':Nat->List D6,S'=λ p=>if p<w.2.1.length/\s7 w p=true then (S p).drop (C3 p (Q.take m)).length else []:=⟨_,rfl⟩
    have gj:∀ p:Nat,p<w.2.1.length->s7 w p=true->S' p=(S p).drop (C3 p (Q.take m)).length:=λ p hp ha=>by rw [iO]; exact if_pos ⟨hp,ha⟩
    have dz:∀ p:Nat,s7 w p=false->S' p=[]:=λ p ha=>by rw [iO]; exact if_neg (λ c=>by rw [c.2] at ha; cases ha)
    have jd:∀ p:Nat,p<w.2.1.length->s7 w p=true->(F3 w).2.1.getD p j9=((w.2.1.getD p j9).1,B++(Q.take m).map xg,(0,S' p,()),(0,[],()),(0,[],()),()):=λ p hp ha=>by
      obtain ⟨⟨j,hj⟩,-⟩:=h.mem p hp (zx.1 ha).2.1;have jy:=jy p hp ha j hj;rw [cD p hp,vi,if_pos ha,Yf,hj.from_];simp only;have hd:(B++(Q.take m).map xg).drop (w.2.1.getD p j9).2.1.length=((Q.take m).drop j).map xg:=by
        rw [hj.log,List.length_append,List.length_map,List.length_take,Nat.min_eq_left hj.le,<- List.drop_drop,List.drop_left,List.map_drop]
      rw [hd,Sv,Eb,List.drop_drop,gj p hp ha];have fx:C3 p (Q.take m)=C3 p (Q.take j)++C3 p ((Q.take m).drop j):=by
        rw [<- yy];congr 1;rw [show Q.take j=(Q.take m).take j by rw [List.take_take,Nat.min_eq_left jy],List.take_append_drop]
      rw [fx,List.length_append]
    refine ⟨B++(Q.take m).map xg,S',?_,jd,λ p hp=>?_⟩
    . refine ⟨by rw [hlen]; exact h.R5,h.way,rfl,λ x hx=>(by cases hx),λ p=>List.nil_prefix,λ p=>?_,λ s hs=>?_,λ p hp=>?_,λ p hp hm=>?_,λ p hp hm=>?_,λ s hs=>?_⟩
      . rw [iO];dsimp only
        split
        . rw [List.length_drop]; have:=h.short p; omega
        . exact Nat.zero_le _
      . rw [fa]; exact mK S' s hs
      . rw [hlen] at hp;cases ha:s7 w p with
        | true=>rw [jd p hp ha]; exact ⟨rfl,λ q hq=>by cases hq⟩
        | false=>rw [gL p hp ha]; exact ⟨rfl,λ q hq=>by cases hq⟩
      . rw [hlen] at hp;rw [lY p hp] at hm;rw [jd p hp hm];obtain ⟨⟨j,hj⟩,eI⟩:=h.mem p hp (zx.1 hm).2.1;have aM:=hj.ok;rw [hj.from_] at aM;have mw:=xS aM;have jy:=jy p hp hm j hj;have bP:S' p=((S p).drop (C3 p (Q.take j)).length).drop ((C3 p (Q.take m)).length - (C3 p (Q.take j)).length):=by
          rw [gj p hp hm,List.drop_drop];congr 1;have:(C3 p (Q.take j)).length<=(C3 p (Q.take m)).length:=by
            have:=(zv (p:=p) (Q:=Q.take m) (i:=j)).length_le;rw [List.take_take,Nat.min_eq_left jy] at this;exact this
          omega
        refine ⟨⟨0,Nat.zero_le _,rfl,λ q hq=>(by cases hq),by simp,by simp [C3],?_⟩,?_⟩
        . refine Qw ⟨by decide,by decide⟩ ?_ ?_
          . rw [bP,List.length_drop]; have:=mw.2.1; simp only at this; omega
          . rw [bP]; exact Pu mw.2.2
        . rw [eI,IE,Eb,gj p hp hm,List.append_assoc];congr 1;have aZ:=(zv (p:=p) (Q:=Q) (i:=m)).trans (h.zN p)
          conv=>lhs; rw [<- List.take_append_drop (C3 p (Q.take m)).length (S p)]
          rw [<- List.prefix_iff_eq_take.1 aZ]
      . rw [hlen] at hp;rw [lY p hp] at hm;refine ⟨dz p hm,?_⟩;rw [IE,Eb];have aZ:=(zv (p:=p) (Q:=Q) (i:=m)).trans (h.zN p);cases ib:X9 w.1.2.1 p with
        | true =>
          rw [(h.mem p hp ib).2];exact (List.prefix_append_right_inj _).2 aZ
        | false =>
          obtain ⟨e1,e2⟩:=h.out p hp ib;rw [e1] at aZ;rw [List.prefix_nil.1 aZ,List.append_nil];exact e2
      . rw [hlen];rcases List.mem_append.1 hs with hs|hs
        . exact h.Md s hs
        . obtain ⟨y,hy,rfl⟩:=List.mem_map.1 hs;have:=h.inQ y (List.mem_of_mem_take hy);show 0<=((y.1:Nat):Int)/\((y.1:Nat):Int)<_;omega
    . cases ha:s7 w p with
      | true =>
        rw [jd p hp ha];obtain ⟨⟨j,hj⟩,-⟩:=h.mem p hp (zx.1 ha).2.1;have jy:=jy p hp ha j hj;rw [hj.log];refine (List.prefix_append_right_inj _).2 (List.IsPrefix.map xg ?_);rw [show Q.take j=(Q.take m).take j by rw [List.take_take,Nat.min_eq_left jy]];exact List.take_prefix ..
      | false=>rw [gL p hp ha]; exact List.prefix_rfl
  . have bD:∀ p:Nat,p<w.2.1.length->s7 w p=false:=λ p hp=>by
      cases ha:s7 w p with
      | false=>rfl
      | true=>exact absurd ⟨p,hp,ha⟩ hex
    refine ⟨[],λ _=>[],?_,λ p hp ha=>(by rw [bD p hp] at ha; cases ha),λ p hp=>by rw [gL p hp (bD p hp)]; exact List.prefix_rfl⟩;refine ⟨by rw [hlen]; exact h.R5,h.way,rfl,λ x hx=>(by cases hx),λ p=>List.nil_prefix,λ p=>Nat.zero_le _,λ s hs=>?_,λ p hp=>?_,λ p hp hm=>?_,λ p hp hm=>⟨rfl,List.nil_prefix⟩,λ s hs=>(by cases hs)⟩
    . rw [fa]; exact mK _ s hs
    . rw [hlen] at hp;rw [gL p hp (bD p hp)]; exact ⟨rfl,λ q hq=>by cases hq⟩
    . rw [hlen] at hp;rw [lY p hp,bD p hp] at hm; cases hm
end
end Go.Proofs.YtijlnmgondibnaaGreatDoor
namespace Go.Proofs.YtijlnmgondibnaaGreatDoor
open Go.Ex
set_option maxRecDepth 100000
attribute [local irreducible] Go.Ex.exec
section
variable {H:Array Go.Obj} {S:Nat->Prop} {O:List Nat} {cs:List Value}
theorem Qg {α β:Type} {R:List Nat->List Value->α->Prop} {R':List Nat->List Value->β->Prop} {sz:Nat} {f:α->β} (hr:∀ O cs x,R O cs x->R' O cs (f x)):∀ {l:List α} {O:List Nat} {cs:List Value},j6 R sz O cs l->j6 R' sz O cs (l.map f)
  | [],_,_,h=>h
  | _::_,_,_,⟨O1,O2,e,h1,h2⟩=>⟨O1,O2,e,hr _ _ _ h1,Qg hr h2⟩
theorem Wl {l:List o8} (h:i6 H S (.d0 true xn) O cs l):i6 H S (.d0 true Y7) O cs (l.map toM):=by
  have e:(l.map toM).length=l.length:=List.length_map ..;rcases h with ⟨a,b,c⟩|⟨b,off,cap,O',h1,h2,h3,h4,h5,h6⟩
  . exact .inl ⟨a,b,by rw [c]; rfl⟩
  . refine .inr ⟨b,off,cap,O',?_,?_,h3,?_,?_,h6⟩
    . rw [h1]; exact congrArg (λ n:Nat=>[Value.slice (some ⟨b,off,none⟩) n cap]) e.symm
    . exact Nat.le_trans (Nat.le_of_eq e) h2
    . exact Nat.le_trans (Nat.le_of_eq (congrArg (λ n:Nat=>off+n*Y7.size) e)) h4
    . have:=Qg (R':=i6 H S Y7) (f:=toM) (λ _ _ _ h=>h) h5;have e2:d9 H b off (List.length (l.map toM)*Y7.size)=d9 H b off (List.length l*xn.size):=congrArg (λ n:Nat=>d9 H b off (n*Y7.size)) e;show j6 (i6 H S Y7) Y7.size O' (d9 H b off (List.length (l.map toM)*Y7.size)) (l.map toM);rw [e2];exact this
theorem Zj {l:List o8} (h:i6 H S (.d0 true Y7) O cs (l.map toM)):i6 H S (.d0 true xn) O cs l:=by
  have e:(l.map toM).length=l.length:=List.length_map ..;rcases h with ⟨a,b,c⟩|⟨b,off,cap,O',h1,h2,h3,h4,h5,h6⟩
  . exact .inl ⟨a,b,List.map_eq_nil_iff.1 c⟩
  . refine .inr ⟨b,off,cap,O',?_,?_,h3,?_,?_,h6⟩
    . rw [h1]; exact congrArg (λ n:Nat=>[Value.slice (some ⟨b,off,none⟩) n cap]) e
    . exact Nat.le_trans (Nat.le_of_eq e.symm) h2
    . exact Nat.le_trans (Nat.le_of_eq (congrArg (λ n:Nat=>off+n*Y7.size) e.symm)) h4
    . have e2:d9 H b off (List.length (l.map toM)*Y7.size)=d9 H b off (List.length l*xn.size):=congrArg (λ n:Nat=>d9 H b off (n*Y7.size)) e;have h5:j6 (i6 H S Y7) Y7.size O' (d9 H b off (List.length (l.map toM)*Y7.size)) (l.map toM):=h5;rw [e2] at h5;exact j6.Ma (R:=i6 H S xn) (f:=toM) (λ _ _ _ h=>h) h5
theorem WO {w:f9} (h:i6 H S w5 O cs w):i6 H S Z9 O cs (vr w):=by
  obtain ⟨v,al,r⟩:=w;obtain ⟨P1,P2,e,r1,P3,P4,e',r2,r3⟩:=h;exact ⟨P1,P2,e,r1,P3,P4,e',Wl r2,r3⟩
theorem ZT {w:f9} (h:i6 H S Z9 O cs (vr w)):i6 H S w5 O cs w:=by
  obtain ⟨v,al,r⟩:=w;obtain ⟨P1,P2,e,r1,P3,P4,e',r2,r3⟩:=h;exact ⟨P1,P2,e,r1,P3,P4,e',Zj r2,r3⟩
end
def Pz:p9:={ ps:=[.rw w5],rs:=[e8],pre:=λ x=>zk x.1,fn:=λ x=>((T6 x.1).2,()),out:=λ x=>((T6 x.1).1,()) }
theorem KR {w:f9} (h:(R7 w).2.1≠0):T6 w=(w,(R7 w).2.1):=by rw [T6]; exact if_pos h
theorem Lj {w:f9} (h:¬ (R7 w).2.1≠0):T6 w=(F3 w,0):=by rw [T6]; exact if_neg h
attribute [local irreducible] T6 F3 R7 in
theorem b2F:Pz.Valid Tryz.prog 25:=by
  refine ⟨Uj.ent,?_,λ h=>by cases h⟩;rintro w S vs ⟨(x:f9),⟨⟩⟩ L hS dJ (aZ:zk x) ⟨v,us,L1,L2,rfl,rfl,⟨b,off,O,rfl,hr,hf,rfl⟩,rfl,rfl⟩ - aF hL;by_cases hn:(R7 x).2.1≠0
  . have hs:i6 w.heap (λ c=>S c\/c∈b::O) K7 [] (d9 w.heap b off w5.size) x:=hr.vN (S':=λ c=>S c\/c∈b::O) (λ c h=>.inr (List.mem_cons_of_mem _ h)) (λ c h=>.inl h) rfl;refine (b2G.run w (λ c=>S c\/c∈b::O) [.pointer (some ⟨b,off,none⟩)] (x,()) [] ?_ (dJ.sub (λ c h=>.inl h)) ⟨aZ.R5,hn⟩ ⟨_,[],[],[],rfl,rfl,⟨rfl,b,off,rfl,.inr List.mem_cons_self,?_,hs⟩,rfl,rfl⟩ trivial List.nodup_nil (by simp)).mono ?_
    . rintro c (h|h)
      . exact hS c h
      . exact (hL c (by simpa using h)).2
    . exact N2.u5 hf
    rintro e w' ⟨us,O2,Lo,S',e1,hp,s1,s2,h1,h2,cV,ft⟩;obtain ⟨v1,us1,P1,P2,cs,rfl,rfl,rfl,⟨rfl,rfl,hk⟩,rfl,rfl⟩:=h1;have dI:∀ c,c<w.heap.size->w'.heap[c]?=w.heap[c]?:=λ c hc=>hp.frame c hc (by simp);have dZ:∀ c∈b::O,¬ S c/\c<w.heap.size:=λ c hc=>hL c (by simpa using hc);have hb:=dI b (dZ b List.mem_cons_self).2;have eN:=KR hn;refine ⟨[_],[],b::O,S,e1,⟨hp.os,hp.tape,hp.out,hp.size,λ c hc hn=>dI c hc⟩,λ _ h=>h,λ c h=>.inl h,⟨_,[],[],[],_,rfl,rfl,rfl,⟨rfl,?_,?_⟩,rfl,rfl⟩,⟨b,off,O,[],[],rfl,?_,?_,by simp,rfl,rfl⟩,?_,?_⟩
    . show [Value.int .i64 _]=[Value.int .i64 (T6 x).2];rw [eN]; rfl
    . show r9 .i64 (T6 x).2;rw [eN]; exact hk
    . show i6 w'.heap S w5 O (d9 w'.heap b off w5.size) (T6 x).1;rw [eN,l6 hb];exact hr.s4 (λ c hc=>dI c (hc.elim (λ h=>(dZ c (List.mem_cons_of_mem _ h)).2) (hS c))) (λ _ h=>h)
    . exact N2.s4 hb hf
    . simpa using aF
    . intro c hc;have hc:c∈b::O:=by simpa using hc
      exact ⟨(dZ c hc).1,.inr (by simpa using hc),Nat.lt_of_lt_of_le (dZ c hc).2 hp.size⟩
  . have eN:=Lj hn;have oe:=Yj x;refine (Uj.run w S [.pointer (some ⟨b,off,none⟩)] (vr x,()) (b::O++[]) hS dJ ⟨?_,?_,?_⟩ ⟨_,[],b::O,[],rfl,rfl,⟨b,off,O,rfl,WO hr,hf,rfl⟩,rfl,rfl⟩ trivial aF hL).mono ?_
    . show vr x=vr (vV (vr x)); rw [oe]
    . show zk (vV (vr x)); rw [oe]; exact aZ
    . show ¬ (R7 (vV (vr x))).2.1≠0; rw [oe]; exact hn
    rintro e w' ⟨us,O2,Lo,S',e1,hp,s1,s2,h1,h2,h3,h4⟩;refine ⟨us,O2,Lo,S',e1,hp,s1,s2,?_,?_,h3,h4⟩
    . have h1:K8 w'.heap S' [e8] O2 us ((0:Int),()):=h1;show K8 w'.heap S' [e8] O2 us ((T6 x).2,());rw [eN]; exact h1
    . obtain ⟨b',aq,O',us',L',e',kG,pV,e2,h'⟩:=h2;refine ⟨b',aq,O',us',L',e',?_,pV,e2,h'⟩;have kG:i6 w'.heap S' Z9 O' (d9 w'.heap b' aq Z9.size) (vr (F3 (vV (vr x)))):=kG;show i6 w'.heap S' w5 O' (d9 w'.heap b' aq w5.size) (T6 x).1;rw [eN];rw [oe] at kG;exact ZT kG
end Go.Proofs.YtijlnmgondibnaaGreatDoor
namespace Go.Proofs.YtijlnmgondibnaaGreatDoor
open Go.Ex
set_option maxRecDepth 100000
attribute [local irreducible] Go.Ex.exec
abbrev AL:=Int×Int×Int×Unit
abbrev Event:Ty:=.pair e8 (.pair e8 (.pair e8 .unit))
abbrev wt:=yY
def GX:p9:={ ps:=[.v e8,.v e8,.v e8],rs:=[.bool],pre:=λ _=>True,fn:=λ x=>(Y9 x.1 x.2.1 x.2.2.1,()),out:=λ _=>() }
noncomputable def Gw:Env:={ P:=Tryz.prog,tt:=tt,C7:=[],res:=[Go.ResultVar.tmp 6],rs:=[Ty.bool],ps:=[PK.v e8,PK.v e8,PK.v e8],B9:=[],nt:=15 }
theorem Pp:w7 Gw:=x8 r7 trivial
theorem PY:C0 Gw Tryz.f92:=⟨rfl,rfl⟩
theorem VG (x0:Int) (x1:Int) (x2:Int):exec Gw 1000 [.code (d8 Tryz.prog 92)] (s8 GX.ps ((x0,x1,x2,()))) =
  cond (decide (x1<=x0)) (.ret ((decide (x0<=x2),()))) (.ret ((false,()))):=by kernel_rfl
theorem b8w:GX.Valid Tryz.prog 92:=by
  refine p9.n9 Pp rfl rfl Tryz.func92 (c:=d8 Tryz.prog 92) rfl rfl PY rfl ?_;rintro ⟨(a:Int),(b:Int),(c:Int),⟨⟩⟩ - -
  refine j7 (n:=1000) Pp PY ?_;refine i8 (VG a b c) ?_;simp only [j8,Tree.holds,sL]
  repeat' first|exact trivial|(refine And.intro ?_ ?_)|(intro _)
  all_goals (show ((_,()):Bool×Unit)=(Y9 a b c,()); simp [Y9, *])
def GQ:p9:={ ps:=[.v (.d0 false .str),.v .str],rs:=[e8],pre:=λ _=>True,fn:=λ x=>(idxOf (λ y=>decide ((show yY from x.2.1)=y)) x.1,()),out:=λ _=>() }
noncomputable def DI:Env:={ P:=Tryz.prog,tt:=tt,C7:=[],res:=[Go.ResultVar.tmp 4],rs:=[Ty.int IntKind.i64],ps:=[PK.v (Ty.d0 false Ty.str),PK.v Ty.str],B9:=[(2,[(0,none),(1,none),(7,none),(8,none)])],nt:=19 }
theorem JP:w7 DI:=x8 r7 trivial
theorem a91:C0 DI Tryz.f90:=⟨rfl,rfl⟩
theorem XB (x0:List yY) (x1:yY):exec DI 1000 [.code (d8 Tryz.prog 90)] (s8 GQ.ps ((x0,x1,()))) =
  .ctL (g9 (d8 Tryz.prog 90) 2) (St.mk [(0,AV.val (Ty.d0 false Ty.str) x0),(1,AV.val Ty.str x1),(7,AV.val e8 (↑(List.length x0):Int)),(8,AV.val e8 (0:Int))] []):=by kernel_rfl
def PW (v0:List yY) (v1:yY) (v7:Int) (v8:Int):St:=St.mk [(0,AV.val (Ty.d0 false Ty.str) v0),(1,AV.val Ty.str v1),(7,AV.val e8 v7),(8,AV.val e8 v8)] []
theorem YR (v0:List yY) (v1:yY) (v7:Int) (v8:Int):exec DI 1000 (.code (g9 (d8 Tryz.prog 90) 2).1::.inLoop (g9 (d8 Tryz.prog 90) 2).1::(g9 (d8 Tryz.prog 90) 2).2) (PW v0 v1 v7 v8) =
  cond (decide (v8<v7)) (.f7 ((0:Int)<=v8/\v8<(↑(List.length v0):Int)) (cond (decide (v1=List.getD v0 (Int.toNat v8) [])) (.ret ((v8,()))) (.f7 (r9 IntKind.i64 (v8+(1:Int))) (.ctL (g9 (d8 Tryz.prog 90) 2) (St.mk [(0,AV.val (Ty.d0 false Ty.str) v0),(1,AV.val Ty.str v1),(7,AV.val e8 v7),(8,AV.val e8 (v8+(1:Int)))] []))))) (.ret (((-1:Int),()))):=by kernel_rfl
theorem b8a:GQ.Valid Tryz.prog 90:=by
  refine p9.n9 JP rfl rfl Tryz.func90 (c:=d8 Tryz.prog 90) rfl rfl a91 rfl ?_;rintro ⟨(l:List (yY)),(x:yY),⟨⟩⟩ - ⟨⟨hl,-⟩,-⟩;have hl:l.length<=9223372036854775807:=hl;refine j7 (n:=1000) JP a91 ?_;refine i8 (XB l x) ?_;refine Reach.M8 JP a91 (λ i:Nat=>PW l x (l.length:Int) (i:Int) ) (λ i=>i<=l.length/\idxOf (λ y=>decide (x=y)) l=V5 (λ y=>decide (x=y)) (l.drop i) i)
    (λ i=>l.length - i) 1000 (λ _=>⟨u6 rfl,u6 rfl⟩) ?_ 0 ⟨by omega,rfl⟩
  rintro i ⟨k1,k2⟩ - ih;refine i8 (YR ..) ?_;simp only [j8,Tree.holds,sL];refine ⟨λ h=>?_,λ h=>?_⟩
  . rw [Kv (show i<l.length by omega) [],V5] at k2;have key:∀ b:Bool,(b=true↔x=l.getD i [])->(b=true->(((i:Int),()):Int×Unit)=(idxOf (λ y=>decide (x=y)) l,()))/\(b=false->idxOf (λ y=>decide (x=y)) l=V5 (λ y=>decide (x=y)) (l.drop (i+1)) (i+1)):=λ b hb=>by
      refine ⟨λ c=>?_,λ c=>?_⟩
      . rw [k2,if_pos (decide_eq_true (hb.1 c))]
      . rw [k2,if_neg (λ h9=>by rw [hb.2 (of_decide_eq_true h9)] at c; cases c)]
    refine ⟨by omega,λ _=>⟨λ c=>?_,λ c=>⟨by omega,λ _=>ih (i+1) ⟨by omega,?_⟩ (by omega)⟩⟩⟩
    . exact (key true ⟨λ _=>c,λ _=>rfl⟩).1 rfl
    . exact (key false ⟨λ h9=>(by cases h9),λ h9=>(c h9).elim⟩).2 rfl
  . rw [List.drop_eq_nil_of_le (by omega)] at k2;show (((-1:Int),()):Int×Unit)=(idxOf (λ y=>decide (x=y)) l,());rw [k2]; rfl
def K6 (n:Int):Int:=min (max n (-1000000000)) 1000000000
theorem Zi (n:Int):(if 1000000000<(if n < -1000000000 then -1000000000 else n) then 1000000000 else (if n < -1000000000 then -1000000000 else n))=K6 n:=by
  unfold K6; split<;>split<;>omega
theorem YL (n:Int):-1000000000<=K6 n/\K6 n<=1000000000:=by unfold K6; omega
def HN:p9:={ ps:=[.v e8],rs:=[e8],pre:=λ _=>True,fn:=λ x=>(K6 x.1,()),out:=λ _=>() }
noncomputable def HG:Env:={ P:=Tryz.prog,tt:=tt,C7:=[],res:=[Go.ResultVar.tmp 2],rs:=[Ty.int IntKind.i64],ps:=[PK.v e8],B9:=[],nt:=6 }
theorem QH:w7 HG:=x8 r7 trivial
theorem RT:C0 HG Tryz.f93:=⟨rfl,rfl⟩
theorem XD (x0:Int):exec HG 1000 [.code (d8 Tryz.prog 93)] (s8 HN.ps ((x0,()))) =
  .ret ((if (1000000000:Int)<if x0<(-1000000000:Int) then (-1000000000:Int) else x0 then (1000000000:Int) else if x0<(-1000000000:Int) then (-1000000000:Int) else x0,())):=by kernel_rfl
theorem b6k:HN.Valid Tryz.prog 93:=by
  refine p9.n9 QH rfl rfl Tryz.func93 (c:=d8 Tryz.prog 93) rfl rfl RT rfl ?_;rintro ⟨(n:Int),⟨⟩⟩ - -
  refine j7 (n:=1000) QH RT ?_;refine i8 (XD n) ?_;show ((_,()):Int×Unit)=(K6 n,());rw [<- Zi]
abbrev F9:yY:=[32]
abbrev xL:List yY:=[[115,101,116],[97,100,100],[109,111,115,116],[99,111,112,121]]
def zB (n:Int):Int:=min (max n (-4000000000)) 4000000000
theorem Xp (n:Int):(if 4000000000<(if n < -4000000000 then -4000000000 else n) then 4000000000 else (if n < -4000000000 then -4000000000 else n))=zB n:=by
  unfold zB; split<;>split<;>omega
def zP (v:List Int) (c:AL):List Int :=
  if c.1=1 then v.set c.2.1.toNat (K6 c.2.2.1)
  else if c.1=2 then v.set c.2.1.toNat (K6 (zB (v.getD c.2.1.toNat 0)+K6 c.2.2.1))
  else if c.1=3 then v.set c.2.1.toNat (max (v.getD c.2.1.toNat 0) (K6 c.2.2.1))
  else if c.1=4 then v.set c.2.1.toNat (v.getD c.2.2.1.toNat 0)
  else v
def FU:p9:={ ps:=[.rw vv,.v Event],rs:=[],pre:=λ x=>(LE.le (α:=Int) 0 x.2.1.2.1/\LT.lt (α:=Int) x.2.1.2.1 10)/\(x.2.1.1=(4:Int)->LE.le (α:=Int) 0 x.2.1.2.2.1/\LT.lt (α:=Int) x.2.1.2.2.1 10),fn:=λ _=>(),out:=λ x=>(zP x.1 x.2.1,()) }
noncomputable def Ga:Env:={ P:=Tryz.prog,tt:=tt,C7:=[(93,HN)],res:=[],rs:=[],ps:=[PK.rw vv,PK.v (Ty.pair e8 MG)],B9:=[],nt:=54 }
theorem NZ:w7 Ga:=x8 r7 ⟨b6k,trivial⟩
theorem On:C0 Ga Tryz.f74:=⟨rfl,rfl⟩
theorem UL (x0:List Int) (br:Int) (aB:Int) (aA:Int):exec Ga 1000 [.code (d8 Tryz.prog 74)] (s8 FU.ps ((x0,(br,aB,aA,()),()))) =
  .f7 ((0:Int)<=aB/\aB<(↑10:Int)) (cond (decide (br=(1:Int))) (.f7 (True) (.ret ((List.set x0 (Int.toNat aB) (K6 aA),())))) (cond (decide (br=(2:Int))) (.f7 (True) (.f7 (r9 IntKind.i64 ((if (4000000000:Int)<if List.getD x0 (Int.toNat aB) (0:Int)<(-4000000000:Int) then (-4000000000:Int) else List.getD x0 (Int.toNat aB) (0:Int) then (4000000000:Int) else if List.getD x0 (Int.toNat aB) (0:Int)<(-4000000000:Int) then (-4000000000:Int) else List.getD x0 (Int.toNat aB) (0:Int))+K6 aA)) (.f7 (True) (.ret ((List.set x0 (Int.toNat aB) (K6 ((if (4000000000:Int)<if List.getD x0 (Int.toNat aB) (0:Int)<(-4000000000:Int) then (-4000000000:Int) else List.getD x0 (Int.toNat aB) (0:Int) then (4000000000:Int) else if List.getD x0 (Int.toNat aB) (0:Int)<(-4000000000:Int) then (-4000000000:Int) else List.getD x0 (Int.toNat aB) (0:Int))+K6 aA)),())))))) (cond (decide (br=(3:Int))) (.f7 (True) (.ret ((List.set x0 (Int.toNat aB) (if List.getD x0 (Int.toNat aB) (0:Int)<K6 aA then K6 aA else List.getD x0 (Int.toNat aB) (0:Int)),())))) (cond (decide (br=(4:Int))) (.f7 ((0:Int)<=aA/\aA<(↑10:Int)) (.ret ((List.set x0 (Int.toNat aB) (List.getD x0 (Int.toNat aA) (0:Int)),())))) (.ret ((x0,()))))))):=by kernel_rfl
theorem c1m:FU.Valid Tryz.prog 74:=by
  refine p9.n9 NZ rfl rfl Tryz.func74 (c:=d8 Tryz.prog 74) rfl rfl On rfl ?_;rintro ⟨(v:List Int),⟨(k:Int),(i:Int),(n:Int),⟨⟩⟩,⟨⟩⟩ ⟨⟨(h1:0<=i),(h2:i<10)⟩,(h3:k=4->0<=n/\n<10)⟩ -
  refine j7 (n:=1000) NZ On ?_;refine i8 (UL v k i n) ?_;have hd:zP v (k,i,n,())=if k=1 then v.set i.toNat (K6 n) else if k=2 then v.set i.toNat (K6 (zB (v.getD i.toNat 0)+K6 n)) else if k=3 then v.set i.toNat (max (v.getD i.toNat 0) (K6 n)) else if k=4 then v.set i.toNat (v.getD n.toNat 0) else v:=rfl
  have hg:∀ x:Int,r9 .i64 (zB x+K6 n):=λ x=>by have:=YL n; exact G5.2 (by unfold zB; omega)
  have fin:∀ y:List Int,y=zP v (k,i,n,())->((y,()):List Int×Unit)=(zP v (k,i,n,()),()):=λ y e=>by rw [e]
  simp only [j8,Tree.holds,Xp,sL];refine ⟨⟨h1,by omega⟩,λ _=>⟨λ e=>fin _ (by rw [hd,if_pos e]),λ e=>⟨λ e2=>⟨hg _,λ _=>fin _ (by rw [hd,if_neg e,if_pos e2])⟩,λ e2=>⟨λ e3=>fin _ ?_,λ e3=>⟨λ e4=>⟨by have:=h3 e4; omega,λ _=>fin _ (by rw [hd,if_neg e,if_neg e2,if_neg e3,if_pos e4])⟩,λ e4=>fin _ (by rw [hd,if_neg e,if_neg e2,if_neg e3,if_neg e4])⟩⟩⟩⟩⟩;rw [hd,if_neg e,if_neg e2,if_pos e3];refine congrArg (List.set v i.toNat) ?_;show (if v.getD i.toNat 0<K6 n then K6 n else v.getD i.toNat 0:Int)=max (v.getD i.toNat 0) (K6 n);rw [Int.max_def]
  split<;>split<;>omega
def kindOf (s:wt):Int:=idxOf (λ y=>decide (s=y)) xL+1
def Bl (l:List wt):AL×Int :=
  if (l.length:Int)≠3 then ((0,0,0,()),12)
  else if kindOf (l.getD 0 [])=0 then ((0,0,0,()),12)
  else if (J9 (l.getD 1 [])).2=false then ((0,0,0,()),12)
  else if (J9 (l.getD 2 [])).2=false then ((0,0,0,()),12)
  else if Y9 (J9 (l.getD 1 [])).1 0 9=false then ((0,0,0,()),1)
  else if kindOf (l.getD 0 [])=4/\Y9 (J9 (l.getD 2 [])).1 0 9=false then ((0,0,0,()),1)
  else ((kindOf (l.getD 0 []),(J9 (l.getD 1 [])).1,(J9 (l.getD 2 [])).1,()),0)
def S8 (s:wt):AL×Int:=Bl (Lib.split s F9)
def FQ:p9:={ ps:=[.v .str],rs:=[Event,e8],pre:=λ x=>List.length (α:=UInt8) x.1<=4294967280,fn:=λ x=>((S8 x.1).1,(S8 x.1).2,()),out:=λ _=>() }
theorem SK (p:yY):∀ (k:Nat) (s:yY),∀ x∈Lib.splitK p 0 k s,x.length<=s.length
  | 0,s,x,hx=>by
    have hx:x∈[s]:=hx;rw [List.mem_singleton] at hx; rw [hx]; exact Nat.le_refl _
  | k+1,s,x,hx=>by
    unfold Lib.splitK at hx;split at hx
    . rw [List.mem_singleton] at hx; rw [hx]; exact Nat.le_refl _
    . rcases List.mem_cons.1 hx with rfl|hx
      . rw [List.length_take]; omega
      . have:=SK p k _ x hx;rw [List.length_drop] at this; omega
theorem Rq {s p:yY} {i:Nat}:((Lib.split s p).getD i []).length<=s.length:=by
  by_cases h:i<(Lib.split s p).length
  . refine SK p (Lib.count s p) s _ ?_;rw [List.getD_eq_getElem?_getD,List.getElem?_eq_getElem h];exact List.getElem_mem h
  . rw [List.getD_eq_getElem?_getD,List.getElem?_eq_none (by omega)]; simp
theorem Ms {α:Type} {p:α->Bool}:∀ {l:List α} {i:Nat},-1<=V5 p l i/\V5 p l i<=(i+l.length:Nat)
  | [],i=>by simp only [V5]; omega
  | x::l,i=>by
    rw [V5]
    split
    . omega
    . have:=Ms (p:=p) (l:=l) (i:=i+1);rw [List.length_cons]; omega
theorem Ni (s:wt):0<=kindOf s/\kindOf s<=5:=by
  have:=Ms (p:=λ y=>decide (s=y)) (l:=xL) (i:=0);simp only [kindOf,idxOf];have e:xL.length=4:=rfl;rw [e] at this;omega
noncomputable def Gx:Env:={ P:=Tryz.prog,tt:=tt,C7:=[(89,No),(90,GQ),(91,Ny),(92,GX)],res:=[Go.ResultVar.cell 2 126,Go.ResultVar.tmp 3],rs:=[Ty.pair e8 MG,Ty.int IntKind.i64],ps:=[PK.v Ty.str],B9:=[],nt:=66 }
theorem Pq:w7 Gx:=x8 r7 ⟨b55,b8a,b4D,b8w,trivial⟩
theorem PZ:C0 Gx Tryz.f73:=⟨rfl,rfl⟩
theorem VI (x0:yY):exec Gx 1000 [.code (d8 Tryz.prog 73)] (s8 FQ.ps ((x0,()))) =
  .f7 (List.length x0<=4294967280/\1<=List.length F9) (cond (decide ((↑(List.length (Go.Lib.split x0 F9)):Int)≠(3:Int))) (.ret ((((0:Int),(0:Int),(0:Int),()),(12:Int),()))) (.f7 ((0:Int)<=(0:Int)/\(0:Int)<(↑(List.length (Go.Lib.split x0 F9)):Int)) (.f7 (True) (.f7 (r9 IntKind.i64 (idxOf (λ y=>decide (List.getD (Go.Lib.split x0 F9) (Int.toNat (0:Int)) []=y)) xL+(1:Int))) (.f7 ((0:Int)<=(1:Int)/\(1:Int)<(↑(List.length (Go.Lib.split x0 F9)):Int)) (.f7 (List.length (List.getD (Go.Lib.split x0 F9) (Int.toNat (1:Int)) [])<=4294967280) (.f7 ((0:Int)<=(2:Int)/\(2:Int)<(↑(List.length (Go.Lib.split x0 F9)):Int)) (.f7 (List.length (List.getD (Go.Lib.split x0 F9) (Int.toNat (2:Int)) [])<=4294967280) (cond (decide (idxOf (λ y=>decide (List.getD (Go.Lib.split x0 F9) (Int.toNat (0:Int)) []=y)) xL+(1:Int)=(0:Int))) (.ret ((((0:Int),(0:Int),(0:Int),()),(12:Int),()))) (cond (!Prod.snd (J9 (List.getD (Go.Lib.split x0 F9) (Int.toNat (1:Int)) []))) (.ret ((((0:Int),(0:Int),(0:Int),()),(12:Int),()))) (cond (!Prod.snd (J9 (List.getD (Go.Lib.split x0 F9) (Int.toNat (2:Int)) []))) (.ret ((((0:Int),(0:Int),(0:Int),()),(12:Int),()))) (.f7 (True) (cond (!Y9 (Prod.fst (J9 (List.getD (Go.Lib.split x0 F9) (Int.toNat (1:Int)) []))) (0:Int) (9:Int)) (.ret ((((0:Int),(0:Int),(0:Int),()),(1:Int),()))) (cond (decide (idxOf (λ y=>decide (List.getD (Go.Lib.split x0 F9) (Int.toNat (0:Int)) []=y)) xL+(1:Int)=(4:Int))) (.f7 (True) (cond (!Y9 (Prod.fst (J9 (List.getD (Go.Lib.split x0 F9) (Int.toNat (2:Int)) []))) (0:Int) (9:Int)) (.ret ((((0:Int),(0:Int),(0:Int),()),(1:Int),()))) (.ret (((idxOf (λ y=>decide (List.getD (Go.Lib.split x0 F9) (Int.toNat (0:Int)) []=y)) xL+(1:Int),Prod.fst (J9 (List.getD (Go.Lib.split x0 F9) (Int.toNat (1:Int)) [])),Prod.fst (J9 (List.getD (Go.Lib.split x0 F9) (Int.toNat (2:Int)) [])),()),(0:Int),()))))) (.ret (((idxOf (λ y=>decide (List.getD (Go.Lib.split x0 F9) (Int.toNat (0:Int)) []=y)) xL+(1:Int),Prod.fst (J9 (List.getD (Go.Lib.split x0 F9) (Int.toNat (1:Int)) [])),Prod.fst (J9 (List.getD (Go.Lib.split x0 F9) (Int.toNat (2:Int)) [])),()),(0:Int),()))))))))))))))))):=by kernel_rfl
theorem c1L:FQ.Valid Tryz.prog 73:=by
  refine p9.n9 Pq rfl rfl Tryz.func73 (c:=d8 Tryz.prog 73) rfl rfl PZ rfl ?_;rintro ⟨(s:yY),⟨⟩⟩ (hp:s.length<=4294967280) -
  refine j7 (n:=1000) Pq PZ ?_;refine i8 (VI s) ?_;have hd:S8 s=Bl (Lib.split s F9):=rfl;have e1:((Lib.split s F9).getD 1 []).length<=4294967280:=Nat.le_trans Rq hp;have e2:((Lib.split s F9).getD 2 []).length<=4294967280:=Nat.le_trans Rq hp;have hk:=Ni ((Lib.split s F9).getD 0 []);have eU:idxOf (λ y=>decide ((Lib.split s F9).getD 0 []=y)) xL+1=kindOf ((Lib.split s F9).getD 0 []):=rfl;generalize hl:Lib.split s F9=l at *
  have cY:r9 .i64 (kindOf (l.getD 0 [])):=G5.2 (by omega);have fin:∀ {y:AL×Int},Bl l=y->((y.1,y.2,()):AL×Int×Unit)=((S8 s).1,(S8 s).2,()):=λ e=>by rw [hd,e]
  have hr:Bl l=if (l.length:Int)≠3 then ((0,0,0,()),12) else if kindOf (l.getD 0 [])=0 then ((0,0,0,()),12) else if (J9 (l.getD 1 [])).2=false then ((0,0,0,()),12) else if (J9 (l.getD 2 [])).2=false then ((0,0,0,()),12) else if Y9 (J9 (l.getD 1 [])).1 0 9=false then ((0,0,0,()),1) else if kindOf (l.getD 0 [])=4/\Y9 (J9 (l.getD 2 [])).1 0 9=false then ((0,0,0,()),1) else ((kindOf (l.getD 0 []),(J9 (l.getD 1 [])).1,(J9 (l.getD 2 [])).1,()),0):=rfl
  simp only [j8,Tree.holds,Int.reduceToNat,eU,sL];refine ⟨⟨hp,by decide⟩,λ _=>⟨λ h3=>?_,λ h3=>?_⟩⟩
  . exact fin (by rw [hr,if_pos h3])
  . rw [if_neg h3] at hr;have h3:(l.length:Int)=3:=by omega
    refine ⟨by omega,λ _=>⟨cY,λ _=>⟨by omega,λ _=>⟨e1,λ _=>⟨by omega,λ _=>⟨e2,λ _=>⟨λ g1=>?_,λ g1=>?_⟩⟩⟩⟩⟩⟩⟩
    . exact fin (by rw [hr,if_pos g1])
    rw [if_neg g1] at hr;refine ⟨λ g2=>?_,λ g2=>?_⟩
    . exact fin (by rw [hr,if_pos (by simpa using g2)])
    rw [if_neg (by simpa using g2)] at hr;refine ⟨λ g3=>?_,λ g3=>?_⟩
    . exact fin (by rw [hr,if_pos (by simpa using g3)])
    rw [if_neg (by simpa using g3)] at hr;refine ⟨λ g4=>?_,λ g4=>?_⟩
    . exact fin (by rw [hr,if_pos (by simpa using g4)])
    rw [if_neg (by simpa using g4)] at hr;refine ⟨λ g5=>⟨λ g6=>?_,λ g6=>?_⟩,λ g5=>?_⟩
    . exact fin (by rw [hr,if_pos ⟨g5,by simpa using g6⟩])
    . exact fin (by rw [hr,if_neg (λ h=>by rw [h.2] at g6; cases g6)])
    . exact fin (by rw [hr,if_neg (λ h=>g5 h.1)])
theorem Wp {s:wt} (h:(S8 s).2=0):(0<=(S8 s).1.2.1/\(S8 s).1.2.1<10)/\((S8 s).1.1=4->0<=(S8 s).1.2.2.1/\(S8 s).1.2.2.1<10)/\1<=(S8 s).1.1:=by
  unfold S8 Bl at h ⊢;split at h
  . cases h
  rename_i h1;rw [if_neg h1];split at h
  . cases h
  rename_i h2;rw [if_neg h2];split at h
  . cases h
  rename_i h3;rw [if_neg h3];split at h
  . cases h
  rename_i h4;rw [if_neg h4];split at h
  . cases h
  rename_i h5;rw [if_neg h5];split at h
  . cases h
  rename_i h6;rw [if_neg h6];have h5:Y9 (J9 ((Lib.split s F9).getD 1 [])).1 0 9=true:=by
    cases e:Y9 (J9 ((Lib.split s F9).getD 1 [])).1 0 9 with
    | true=>rfl
    | false=>exact absurd e h5
  have h5:=wX.1 h5;refine ⟨⟨h5.1,Int.lt_of_le_of_lt h5.2 (by decide)⟩,λ h7=>?_,?_⟩
  . have h8:Y9 (J9 ((Lib.split s F9).getD 2 [])).1 0 9=true:=by
      cases e:Y9 (J9 ((Lib.split s F9).getD 2 [])).1 0 9 with
      | true=>rfl
      | false=>exact absurd ⟨h7,e⟩ h6
    have h8:=wX.1 h8;exact ⟨h8.1,Int.lt_of_le_of_lt h8.2 (by decide)⟩
  . have:=(Ni ((Lib.split s F9).getD 0 [])).1;show 1<=kindOf _;omega
def yf (a:List Int×Int) (s:wt):List Int×Int:=if (S8 s).2=0 then (zP a.1 (S8 s).1,a.2) else (a.1,a.2+1)
def R3 (v:List Int) (l:List wt):List Int×Int:=l.foldl yf (v,0)
def FO:p9:={ ps:=[.v vv,.v (.d0 false .str)],rs:=[vv,e8],pre:=λ x=>∀ s∈(show List wt from x.2.1),s.length<=4294967280,fn:=λ x=>((R3 x.1 x.2.1).1,(R3 x.1 x.2.1).2,()),out:=λ _=>() }
noncomputable def CV:Env:={ P:=Tryz.prog,tt:=tt,C7:=[(73,FQ),(74,FU)],res:=[Go.ResultVar.cell 4 60,Go.ResultVar.tmp 5],rs:=[Ty.arr 10 e8,Ty.int IntKind.i64],ps:=[PK.v vv,PK.v (Ty.d0 false Ty.str)],B9:=[(3,[(2,none),(4,none),(6,none),(11,none),(12,none),(13,none)])],nt:=31 }
theorem IF:w7 CV:=x8 r7 ⟨c1L,c1m,trivial⟩
theorem IN:C0 CV Tryz.f57:=⟨rfl,rfl⟩
theorem Vq (x0:List Int) (x1:List yY):exec CV 1000 [.code (d8 Tryz.prog 57)] (s8 FO.ps ((x0,x1,()))) =
  .ctL (g9 (d8 Tryz.prog 57) 3) (St.mk [(2,AV.ptr 2 []),(4,AV.ptr 4 []),(6,AV.val e8 (0:Int)),(11,AV.val (Ty.d0 false Ty.str) x1),(12,AV.val e8 (↑(List.length x1):Int)),(13,AV.val e8 (0:Int))] [(2,i7.var vv x0),(4,i7.var vv [(0:Int),(0:Int),(0:Int),(0:Int),(0:Int),(0:Int),(0:Int),(0:Int),(0:Int),(0:Int)])]):=by kernel_rfl
def OA (v6:Int) (v11:List yY) (v12:Int) (uZ:Int) (o2:List Int) (o4:List Int):St:=St.mk [(2,AV.ptr 2 []),(4,AV.ptr 4 []),(6,AV.val e8 v6),(11,AV.val (Ty.d0 false Ty.str) v11),(12,AV.val e8 v12),(13,AV.val e8 uZ)] [(2,i7.var vv o2),(4,i7.var vv o4)]
theorem VC (v6:Int) (v11:List yY) (v12:Int) (uZ:Int) (o2:List Int) (o4:List Int):exec CV 1000 (.code (g9 (d8 Tryz.prog 57) 3).1::.inLoop (g9 (d8 Tryz.prog 57) 3).1::(g9 (d8 Tryz.prog 57) 3).2) (OA v6 v11 v12 uZ o2 o4) =
  cond (decide (uZ<v12)) (.f7 ((0:Int)<=uZ/\uZ<(↑(List.length v11):Int)) (.f7 (List.length (List.getD v11 (Int.toNat uZ) [])<=4294967280) (cond (decide (Prod.snd (S8 (List.getD v11 (Int.toNat uZ) []))≠(0:Int))) (.f7 (r9 IntKind.i64 (v6+(1:Int))) (.f7 (r9 IntKind.i64 (uZ+(1:Int))) (.ctL (g9 (d8 Tryz.prog 57) 3) (St.mk [(2,AV.ptr 2 []),(4,AV.ptr 4 []),(6,AV.val e8 (v6+(1:Int))),(11,AV.val (Ty.d0 false Ty.str) v11),(12,AV.val e8 v12),(13,AV.val e8 (uZ+(1:Int)))] [(2,i7.var vv o2),(4,i7.var vv o4)])))) (.f7 (((0:Int)<=Prod.fst (Prod.snd (Prod.fst (S8 (List.getD v11 (Int.toNat uZ) []))))/\Prod.fst (Prod.snd (Prod.fst (S8 (List.getD v11 (Int.toNat uZ) []))))<(10:Int))/\(Prod.fst (Prod.fst (S8 (List.getD v11 (Int.toNat uZ) [])))=(4:Int)->(0:Int)<=Prod.fst (Prod.snd (Prod.snd (Prod.fst (S8 (List.getD v11 (Int.toNat uZ) [])))))/\Prod.fst (Prod.snd (Prod.snd (Prod.fst (S8 (List.getD v11 (Int.toNat uZ) [])))))<(10:Int))) (.f7 (r9 IntKind.i64 (uZ+(1:Int))) (.ctL (g9 (d8 Tryz.prog 57) 3) (St.mk [(2,AV.ptr 2 []),(4,AV.ptr 4 []),(6,AV.val e8 v6),(11,AV.val (Ty.d0 false Ty.str) v11),(12,AV.val e8 v12),(13,AV.val e8 (uZ+(1:Int)))] [(2,i7.var vv (zP o2 (Prod.fst (S8 (List.getD v11 (Int.toNat uZ) []))))),(4,i7.var vv o4)]))))))) (.ret ((o2,v6,()))):=by kernel_rfl
theorem c0u {l:List wt}:∀ {a:List Int×Int},a.2<=(l.foldl yf a).2/\(l.foldl yf a).2<=a.2+l.length:=by
  induction l with
  | nil=>intro a; simp
  | cons s l ih =>
    intro a;have:=ih (a:=yf a s);rw [List.foldl_cons,List.length_cons];unfold yf at this ⊢;split at this
    . rename_i h; rw [if_pos h]; have:=this; simp only at this; omega
    . rename_i h; rw [if_neg h]; have:=this; simp only at this; omega
theorem ZY {v:List Int} {l:List wt} {k:Nat} (hk:k<l.length):R3 v (l.take (k+1))=yf (R3 v (l.take k)) (l.getD k []):=by
  unfold R3;rw [List.take_add_one,List.foldl_append,List.getElem?_eq_getElem hk,List.getD_eq_getElem?_getD,List.getElem?_eq_getElem hk];rfl
theorem c1T:FO.Valid Tryz.prog 57:=by
  refine p9.n9 IF rfl rfl Tryz.func57 (c:=d8 Tryz.prog 57) rfl rfl IN rfl ?_;rintro ⟨(v:List Int),(l:List wt),⟨⟩⟩ (hp:∀ s∈l,s.length<=4294967280) ⟨-,hr,-⟩;have hlen:l.length<=9223372036854775807:=hr.1;refine j7 (n:=1000) IF IN ?_;refine i8 (Vq v l) ?_;refine Reach.M8 IF IN (λ k:Nat=>OA (R3 v (l.take k)).2 l (l.length:Int) (k:Int) (R3 v (l.take k)).1 (List.replicate 10 0)) (λ k=>k<=l.length) (λ k=>l.length - k) 1000 (λ _=>⟨u6 rfl,u6 rfl⟩) ?_ 0 (by omega);rintro k hk - ih;have hk:k<=l.length:=hk;refine i8 (VC ..) ?_;have hb:=c0u (l:=l.take k) (a:=(v,0));have hb:0<=(R3 v (l.take k)).2/\(R3 v (l.take k)).2<=k:=by
    have e:(R3 v (l.take k)).2=((l.take k).foldl yf (v,0)).2:=rfl;rw [e]; rw [List.length_take] at hb;simp only at hb; omega
  simp only [j8,Tree.holds,sL];refine ⟨λ c=>⟨by omega,λ _=>?_⟩,λ c=>?_⟩
  . have pL:k<l.length:=by omega
    have hm:l.getD k []∈l:=by rw [List.getD_eq_getElem?_getD,List.getElem?_eq_getElem pL]; exact List.getElem_mem pL
    have ht:=ZY (v:=v) pL;have nx:=ih (k+1) (by omega) (by omega);rw [ht] at nx;unfold yf at nx;refine ⟨hp _ hm,λ _=>⟨λ e=>⟨by omega,λ _=>⟨by omega,λ _=>?_⟩⟩,λ e=>?_⟩⟩
    . rw [if_neg e] at nx;exact nx
    . have e:(S8 (l.getD k [])).2=0:=by omega
      obtain ⟨r1,r2,-⟩:=Wp e;rw [if_pos e] at nx;exact ⟨⟨r1,r2⟩,λ _=>⟨by omega,λ _=>nx⟩⟩
  . have:k=l.length:=by omega
    subst this;rw [List.take_length]; rfl
def zeroV:List Int:=[0,0,0,0,0,0,0,0,0,0]
def T5 (l:List D5):List yY:=l.map (λ s=>s.2.1)
def wx (w:f9) (p:Int):List Int×Int×Unit:=if known w p≠0 then (zeroV,known w p,()) else ((R3 zeroV (T5 (L9 w p))).1,0,())
def Du:p9:={ ps:=[.rd K7,.v e8],rs:=[vv,e8],pre:=λ x=>List.length (α:=o8) (x.1:f9).2.1<=6/\List.length (α:=D5) (L9 x.1 x.2.1)<=5864062014805/\∀ s∈L9 x.1 x.2.1,s.2.1.length<=4294967280,fn:=λ x=>wx x.1 x.2.1,out:=λ _=>() }
noncomputable def Bw:Env:={ P:=Tryz.prog,tt:=tt,C7:=[(19,AO),(57,FO)],res:=[Go.ResultVar.cell 4 60,Go.ResultVar.tmp 5],rs:=[Ty.arr 10 e8,Ty.int IntKind.i64],ps:=[PK.rd K7,PK.v e8],B9:=[(6,[(4,none),(8,some (Ty.d0 true Ty.str)),(23,some (Ty.d0 true r8)),(24,none),(25,none)])],nt:=42 }
theorem JY:w7 Bw:=x8 r7 ⟨KT,c1T,trivial⟩
theorem Kc:C0 Bw Tryz.f30:=⟨rfl,rfl⟩
theorem XR (ai:Int) (af:Int) (ab:List o8) (ae:List yY) (aa:List yY) (x1:Int):exec Bw 1000 [.code (d8 Tryz.prog 30)] (s8 Du.ps ((((ai,af,()),ab,ae,aa,()),x1,()))) =
  .f7 (List.length ab<=6/\List.length (L9 ((ai,af,()),ab,ae,aa,()) x1)<=5864062014805) (cond (decide (Prod.fst (Prod.snd (V0 ((ai,af,()),ab,ae,aa,()) x1))≠(0:Int))) (.ret (([(0:Int),(0:Int),(0:Int),(0:Int),(0:Int),(0:Int),(0:Int),(0:Int),(0:Int),(0:Int)],Prod.fst (Prod.snd (V0 ((ai,af,()),ab,ae,aa,()) x1)),()))) (.ctL (g9 (d8 Tryz.prog 30) 6) (St.mk [(4,AV.ptr 4 []),(8,AV.at_ 1000008 []),(23,AV.at_ 1000023 []),(24,AV.val e8 (↑(List.length (Prod.fst (V0 ((ai,af,()),ab,ae,aa,()) x1))):Int)),(25,AV.val e8 (0:Int))] [(4,i7.var vv [(0:Int),(0:Int),(0:Int),(0:Int),(0:Int),(0:Int),(0:Int),(0:Int),(0:Int),(0:Int)]),(1000008,i7.own (Ty.d0 true Ty.str) []),(1000023,i7.own (Ty.d0 true r8) (Prod.fst (V0 ((ai,af,()),ab,ae,aa,()) x1)))]))):=by kernel_rfl
def JZ (v24:Int) (wF:Int) (o4:List Int) (ee:List yY) (ed:List (Int×yY×Unit)):St:=St.mk [(4,AV.ptr 4 []),(8,AV.at_ 1000008 []),(23,AV.at_ 1000023 []),(24,AV.val e8 v24),(25,AV.val e8 wF)] [(4,i7.var vv o4),(1000008,i7.own (Ty.d0 true Ty.str) ee),(1000023,i7.own (Ty.d0 true r8) ed)]
theorem Zx (v24:Int) (wF:Int) (o4:List Int) (ee:List yY) (ed:List (Int×yY×Unit)):exec Bw 1000 (.code (g9 (d8 Tryz.prog 30) 6).1::.inLoop (g9 (d8 Tryz.prog 30) 6).1::(g9 (d8 Tryz.prog 30) 6).2) (JZ v24 wF o4 ee ed) =
  cond (decide (wF<v24)) (.f7 ((0:Int)<=wF/\wF<(↑(List.length ed):Int)) (.f7 (List.length ee+List.length (List.set [[]] (Int.toNat (↑0:Int)) (Prod.fst (Prod.snd (List.getD ed (Int.toNat wF) ((0:Int),[],())))))<=140737488355328/\(List.length ee+List.length (List.set [[]] (Int.toNat (↑0:Int)) (Prod.fst (Prod.snd (List.getD ed (Int.toNat wF) ((0:Int),[],()))))))*Ty.wb Ty.str<=140737488355328) (.f7 (r9 IntKind.i64 (wF+(1:Int))) (.ctL (g9 (d8 Tryz.prog 30) 6) (St.mk [(4,AV.ptr 4 []),(8,AV.at_ 1000008 []),(23,AV.at_ 1000023 []),(24,AV.val e8 v24),(25,AV.val e8 (wF+(1:Int)))] [(4,i7.var vv o4),(1000008,i7.own (Ty.d0 true Ty.str) (ee++List.set [[]] (Int.toNat (↑0:Int)) (Prod.fst (Prod.snd (List.getD ed (Int.toNat wF) ((0:Int),[],())))))),(1000023,i7.own (Ty.d0 true r8) ed)]))))) (.f7 (∀ (s:wt),s∈ee->List.length s<=4294967280) (.ret ((Prod.fst (R3 [(0:Int),(0:Int),(0:Int),(0:Int),(0:Int),(0:Int),(0:Int),(0:Int),(0:Int),(0:Int)] ee),(0:Int),())))):=by kernel_rfl
theorem Wu {w:f9} {p:Int} (h:¬ (V0 w p).2.1≠0):(V0 w p).1=L9 w p/\¬ known w p≠0:=by
  unfold V0 at h ⊢;split at h
  . rename_i h1; exact absurd h1 h
  . rename_i h1; rw [if_neg h1]; exact ⟨rfl,h1⟩
theorem NN {w:f9} {p:Int} (h:(V0 w p).2.1≠0):known w p≠0/\(V0 w p).2.1=known w p:=by
  unfold V0 at h ⊢;split at h
  . rename_i h1; rw [if_pos h1]; exact ⟨h1,rfl⟩
  . rename_i h1; exact absurd rfl h
attribute [local irreducible] V0 R3 wx in
theorem b79:Du.Valid Tryz.prog 30:=by
  refine p9.n9 JY rfl rfl Tryz.func30 (c:=d8 Tryz.prog 30) rfl rfl Kc rfl ?_;rintro ⟨⟨⟨(v0:Int),(v1:Int),⟨⟩⟩,(al:List o8),(od:List yY),(wy:List yY),⟨⟩⟩,(p:Int),⟨⟩⟩ ⟨(hp:al.length<=6),(hl:(L9 ((v0,v1,()),al,od,wy,()) p).length<=5864062014805),(ht:∀ s∈L9 ((v0,v1,()),al,od,wy,()) p,s.2.1.length<=4294967280)⟩ -
  refine j7 (n:=1000) JY Kc ?_;refine i8 (XR v0 v1 al od wy p) ?_;simp only [j8,Tree.holds,sL];have key:∀ r:List Int×Int×Unit,wx ((v0,v1,()),al,od,wy,()) p=r->r=wx ((v0,v1,()),al,od,wy,()) p:=by rintro r rfl; rfl
  have e1:=λ a=>(wx.eq_1 ((v0,v1,()),al,od,wy,()) p).trans (if_pos a);have e2:=λ a=>(wx.eq_1 ((v0,v1,()),al,od,wy,()) p).trans (if_neg a);refine ⟨⟨hp,hl⟩,λ _=>⟨λ a=>key _ ?_,λ a=>?_⟩⟩
  . rw [e1 (NN a).1,(NN a).2]; rfl
  obtain ⟨g1,g2⟩:=Wu a;rw [g1];have e3:=e2 g2;obtain ⟨l,jW⟩:∃ l,l=L9 ((v0,v1,()),al,od,wy,()) p:=⟨_,rfl⟩;rw [<- jW] at hl ht e3 ⊢;have key2:Du.fn (((v0,v1,()),al,od,wy,()),p,())=((R3 zeroV (T5 l)).1,0,()):=e3;suffices go:Go.Ex.Reach Bw Tryz.f30 ((R3 zeroV (T5 l)).1,(0:Int),()) () (.code (g9 (d8 Tryz.prog 30) 6).1::.inLoop (g9 (d8 Tryz.prog 30) 6).1::(g9 (d8 Tryz.prog 30) 6).2) (JZ (l.length:Int) ((0:Nat):Int) zeroV (T5 (l.take 0)) l) by
    rw [e3]; exact go
  refine Reach.M8 JY Kc (λ i:Nat=>JZ (l.length:Int) (i:Int) zeroV (T5 (l.take i)) l) (λ i=>i<=l.length) (λ i=>l.length - i) 1000 (λ _=>⟨u6 rfl,u6 rfl⟩) ?_ 0 (Nat.zero_le _);rintro i k1 - ih;have k1:i<=l.length:=k1;refine i8 (Zx ..) ?_;have e4:((i:Nat):Int)+1=((i+1:Nat):Int):=by omega
  have jf:Ty.wb .str=16:=rfl;have hlen:(T5 (l.take i)).length=i:=by unfold T5; rw [List.length_map,List.length_take]; omega
  simp only [j8,Tree.holds,e4,hlen,jf,sL];refine ⟨λ c=>⟨by omega,λ _=>⟨by omega,λ _=>⟨G5.2 ⟨by omega,by omega⟩,λ _=>?_⟩⟩⟩,λ c=>⟨?_,λ _=>?_⟩⟩
  . have:=ih (i+1) (by show i+1<=l.length; omega) (by show l.length - (i+1)<l.length - i; omega);rw [show T5 (l.take (i+1))=T5 (l.take i)++[(l.getD i (0,[],())).2.1] by
      unfold T5;rw [Fj (show i<l.length by omega) (0,[],()),List.map_append]; rfl] at this
    exact this
  . intro s hs;unfold T5 at hs;obtain ⟨y,hy,rfl⟩:=List.mem_map.1 hs;exact ht y (List.mem_of_mem_take hy)
  . obtain rfl:i=l.length:=by omega
    rw [List.take_length]; rfl
end Go.Proofs.YtijlnmgondibnaaGreatDoor
namespace Go.Proofs.YtijlnmgondibnaaGreatDoor
open Go.Ex
set_option maxRecDepth 100000
structure Sz (c:Nat) (w:f9):Prop where
  log:∀ i:Nat,(w.2.1.getD i j9).2.1.length<=c
  ord:w.2.2.1.length<=c
  txt:∀ i:Nat,∀ s∈(w.2.1.getD i j9).2.1,s.2.1.length<=200
  late:∀ i:Nat,(w.2.1.getD i j9).2.2.1.2.1.length<=16
theorem Sz.mono {c d:Nat} {w:f9} (h:Sz c w) (hd:c<=d):Sz d w:=⟨λ i=>Nat.le_trans (h.log i) hd,Nat.le_trans h.ord hd,h.txt,h.late⟩
structure L7 (k:Nat) (w w':f9):Prop where
  view:w'.1=w.1
  len:w'.2.1.length=w.2.1.length
  log:∀ i:Nat,(w.2.1.getD i j9).2.1 <+: (w'.2.1.getD i j9).2.1
  fal:∀ i:Nat,(w'.2.1.getD i j9).1=(w.2.1.getD i j9).1
  sz:∀ c,Sz c w->Sz (c+k) w'
theorem L7.same {w w':f9} (h1:w'.1=w.1) (h2:w'.2.1=w.2.1) (h3:w'.2.2.1=w.2.2.1):L7 0 w w' :=
  ⟨h1,by rw [h2],λ i=>by rw [h2]; exact List.prefix_rfl,λ i=>by rw [h2],λ c h=>⟨by rw [h2]; exact h.log,by rw [h3]; exact h.ord,by rw [h2]; exact h.txt,by rw [h2]; exact h.late⟩⟩
theorem L7.more {k l:Nat} {w w':f9} (h:L7 k w w') (hl:k<=l):L7 l w w':=⟨h.view,h.len,h.log,h.fal,λ c hc=>(h.sz c hc).mono (by omega)⟩
theorem L7.trans {k l:Nat} {w w' w'':f9} (h:L7 k w w') (h':L7 l w' w''):L7 (k+l) w w'' :=
  ⟨h'.view.trans h.view,h'.len.trans h.len,λ i=>(h.log i).trans (h'.log i),λ i=>(h'.fal i).trans (h.fal i),λ c hc=>by rw [<- Nat.add_assoc]; exact h'.sz _ (h.sz c hc)⟩
theorem W7.Di {P:C1->Prop} {w w':f9} (h:W7 P w w'):L7 0 w w':=.same h.view h.all h.ord
theorem L7.set {k:Nat} {w:f9} {p:Nat} {x:o8} (h1:(w.2.1.getD p j9).2.1 <+: x.2.1) (h2:x.1=(w.2.1.getD p j9).1) (h3:x.2.1.length<=(w.2.1.getD p j9).2.1.length+k)
    (h4:(∀ s∈(w.2.1.getD p j9).2.1,s.2.1.length<=200)->∀ s∈x.2.1,s.2.1.length<=200) (h5:(w.2.1.getD p j9).2.2.1.2.1.length<=16->x.2.2.1.2.1.length<=16):L7 k w (w.1,w.2.1.set p x,w.2.2):=by
  have hg:∀ i,(w.2.1.set p x).getD i j9=x/\p=i\/(w.2.1.set p x).getD i j9=w.2.1.getD i j9:=λ i=>by
    rw [X4]
    split
    . rename_i e; exact .inl ⟨rfl,e.1⟩
    . exact .inr rfl
  refine ⟨rfl,List.length_set ..,λ i=>?_,λ i=>?_,λ c hc=>⟨λ i=>?_,Nat.le_trans hc.ord (Nat.le_add_right _ _),λ i=>?_,λ i=>?_⟩⟩
  . rcases hg i with ⟨e,rfl⟩|e
    . show _ <+: ((w.2.1.set p x).getD p j9).2.1; rw [e]; exact h1
    . show _ <+: ((w.2.1.set p x).getD i j9).2.1; rw [e]; exact List.prefix_rfl
  . rcases hg i with ⟨e,rfl⟩|e
    . show ((w.2.1.set p x).getD p j9).1=_; rw [e]; exact h2
    . show ((w.2.1.set p x).getD i j9).1=_; rw [e]
  . rcases hg i with ⟨e,rfl⟩|e
    . show ((w.2.1.set p x).getD p j9).2.1.length<=_; rw [e]; have:=hc.log p; omega
    . show ((w.2.1.set p x).getD i j9).2.1.length<=_; rw [e]; have:=hc.log i; omega
  . rcases hg i with ⟨e,rfl⟩|e
    . show ∀ s∈((w.2.1.set p x).getD p j9).2.1,_; rw [e]; exact h4 (hc.txt p)
    . show ∀ s∈((w.2.1.set p x).getD i j9).2.1,_; rw [e]; exact hc.txt i
  . rcases hg i with ⟨e,rfl⟩|e
    . show ((w.2.1.set p x).getD p j9).2.2.1.2.1.length<=_; rw [e]; exact h5 (hc.late p)
    . show ((w.2.1.set p x).getD i j9).2.2.1.2.1.length<=_; rw [e]; exact hc.late i
theorem RA {w:f9} {k f t q:Int} {x:D6}:L7 0 w (M3 w k f t q x):=by
  obtain ⟨h1,h2,h3⟩:=EO (w:=w) (k:=k) (f:=f) (t:=t) (s:=q) (x:=x);exact .same h2 h1 h3
theorem Ro (w:f9) (p:Int) (t:D6):L7 0 w (vq w p t).1:=by
  rw [vq]
  split
  . exact .same rfl rfl rfl
  split
  . exact .same rfl rfl rfl
  split
  . exact .same rfl rfl rfl
  split
  . exact .same rfl rfl rfl
  . rename_i hl;obtain ⟨g1,g2,g3⟩:=NO hl;have aM:=xS g2;refine L7.trans (w':=setFrom w p (Q7 (P6 w p) t).1) (k:=0) ?_ RA;refine L7.set (k:=0) List.prefix_rfl rfl (Nat.le_refl _) id (λ _=>?_);rw [g1]; exact aM.2.1
theorem Tj (w:f9) (p:Int):L7 0 w (W3 w p).1:=by
  rw [W3]
  split
  . exact .same rfl rfl rfl
  . obtain ⟨h1,h2,h3⟩:=Lt (p:=p) (l:=yi w p) (w:=w) (yi w p).length;exact (L7.same h2 h1 h3).trans RA
theorem b7U (w:f9) (n:C1):L7 16 w (X8 w n):=by
  rw [X8]
  split
  . exact (L7.same rfl rfl rfl).more (by omega)
  . rename_i he;obtain ⟨-,-,a3,-⟩:=zo (Decidable.not_not.1 he);have h0:L7 0 w (yz w n.2.1 (yp (N9 w n.2.1) (Z1 w n).1)):=L7.set List.prefix_rfl rfl (Nat.le_refl _) id id;obtain ⟨h1,h2,h3⟩:=Ko (f:=n.2.1) (first:=(N9 w n.2.1).2.2.2.2.1.1) (l:=(Z1 w n).2.1) (w:=yz w n.2.1 (yp (N9 w n.2.1) (Z1 w n).1)) (Z1 w n).2.1.length;refine (h0.trans (l:=16) ⟨h2,by rw [h1],λ i=>by rw [h1]; exact List.prefix_rfl,λ i=>by rw [h1],λ c hc=>⟨λ i=>?_,?_,by rw [h1]; exact hc.txt,by rw [h1]; exact hc.late⟩⟩).more (by omega)
    . rw [h1]; have:=hc.log i; omega
    . rw [h3];have:=hc.ord;have a3:(Z1 w n).2.1.length<=16:=a3;omega
theorem b7Z {s:vP} {x:Int} (h:(R4 s x).2.1=0):(R4 s x).1.2.1.length<=s.2.1.length:=by
  unfold R4 at h ⊢
  split
  . rename_i h1; rw [if_pos h1] at h; exact absurd h h1
  . rename_i h1;rw [if_neg h1] at h
    split
    . rename_i h2; rw [if_pos h2] at h; exact absurd h (by decide)
    . exact List.length_drop ..▸Nat.sub_le _ _
theorem b73 (q:Int) (x:o8) (t:D6):(wg q x t).1=x.1/\(x.2.2.1.2.1.length<=16->(wg q x t).2.2.1.2.1.length<=16):=by
  by_cases h:who t=q/\(R4 x.2.2.1 (nth t+1)).2.1=0
  . rw [Kg h.1 h.2];exact ⟨rfl,λ h2=>Nat.le_trans (b7Z h.2) h2⟩
  . rw [Et h];exact ⟨rfl,id⟩
theorem Zr (t:D6):(xh t).length<=t.length:=by
  unfold xh;exact Nat.le_trans (BY _).2 (BY _).2
theorem Uq {q:Int} {x:o8} {l:List D6} (hl:∀ t∈l,E4 t=false):∀ {i},i<=l.length->x.2.1 <+: (K0 q x l i).2.1/\(K0 q x l i).1=x.1/\(x.2.2.1.2.1.length<=16->(K0 q x l i).2.2.1.2.1.length<=16) /\
    ((∀ s∈x.2.1,s.2.1.length<=200)->∀ s∈(K0 q x l i).2.1,s.2.1.length<=200)
  | 0,_=>⟨List.prefix_rfl,rfl,id,id⟩
  | i+1,hi=>by
    obtain ⟨h1,h2,h3,h4⟩:=Uq (q:=q) (x:=x) hl (show i<=l.length by omega);obtain ⟨g1,g2⟩:=b73 q (K0 q x l i) (l.getD i []);have g3:=Rc q (K0 q x l i) (l.getD i []);rw [K0];refine ⟨h1.trans (by rw [g3]; exact List.prefix_append ..),g1.trans h2,λ h=>g2 (h3 h),λ h s hs=>?_⟩;rw [g3] at hs;rcases List.mem_append.1 hs with hs|hs
    . exact h4 h s hs
    . rw [List.mem_singleton] at hs;rw [hs];have hm:l.getD i []∈l:=by rw [List.getD_eq_getElem?_getD,List.getElem?_eq_getElem (by omega)]; exact List.getElem_mem _
      exact Nat.le_trans (Zr _) (Ki (hl _ hm))
theorem c0n (w:f9) (n:C1):L7 16 w (vF w n):=by
  rw [vF]
  split
  . exact (L7.same rfl rfl rfl).more (by omega)
  . rename_i he;obtain ⟨a1,-,a3,-⟩:=zo (Decidable.not_not.1 he);obtain ⟨h1,h2,h3,h4⟩:=Uq (q:=n.2.2.1) (x:=Bm (N9 w n.2.2.1) (R0 w n).1) (λ t ht=>(a1 t ht).2) (Nat.le_refl (R0 w n).2.1.length);have h5:=Ll (q:=n.2.2.1) (x:=Bm (N9 w n.2.2.1) (R0 w n).1) (l:=(R0 w n).2.1) (R0 w n).2.1.length;refine L7.set (k:=16) h1 h2 ?_ h4 h3;rw [h5];have a3:(R0 w n).2.1.length<=16:=a3;exact Nat.add_le_add_left a3 _
theorem b4z (w:f9) (n:C1):L7 16 w (G2 w n):=by
  rw [G2]
  split
  . exact (L7.same rfl rfl rfl).more (by omega)
  split
  . exact b7U w n
  split
  . obtain ⟨h1,h2,h3⟩:=a12 (w:=w) (n:=n) 4;exact (L7.same h2 h1 h3).more (by omega)
  split
  . exact c0n w n
  . exact (L7.same rfl rfl rfl).more (by omega)
theorem SW (w:f9) (k bs:Int):L7 16 w (G1 w k bs).1:=by
  have h0:L7 16 w w:=(L7.same rfl rfl rfl).more (by omega);rw [G1]
  split
  . exact h0
  split
  . exact h0
  split
  . exact h0
  split
  . exact (L7.same (w:=w) (w':=Dt w k.toNat) rfl rfl rfl).more (Nat.zero_le 16)
  . refine (L7.trans (k:=0) (l:=16) (w':=yU w k) (L7.same (w:=w) (w':=yU w k) rfl rfl rfl) ?_).more (Nat.le_refl 16);show L7 16 (yU w k) (xp (yU w k) bs (w.2.2.2.1.getD k.toNat []));rw [xp]
    split
    . exact b4z _ _
    . exact (L7.same rfl rfl rfl).more (by omega)
abbrev H2:=Int×Int×Int×yY×Unit
def S3 (w:f9) (d:H2):f9×Int :=
  if d.1=1 then vq w d.2.1 d.2.2.2.1 else if d.1=2 then W3 w d.2.1 else if d.1=3 then G1 w d.2.1 d.2.2.1 else if d.1=4 then vS w d.2.1 else if d.1=5 then T6 w else (w,1)
structure Ok (c:Nat) (said:Nat->List D6) (w:f9):Prop where
  mem:0<=w.1.2.1/\w.1.2.1<=255
  sz:Sz c w
  inv:∃ B S Q,Inv said B S Q w
structure Good (w:f9):Prop where
  move:BN w
  change:zk w
theorem Ok.R5 {c:Nat} {said:Nat->List D6} {w:f9} (h:Ok c said w):w.2.1.length<=6:=by
  obtain ⟨B,S,Q,hI⟩:=h.inv;exact hI.R5
theorem Inv.note {said:Nat->List D6} {B:List D5} {S:Nat->List D6} {Q:List V8} {w:f9} (h:Inv said B S Q w) {s:D6} (hs:s∈w.2.2.2.1) (h1:(x6 s).2.1=0) (h2:(x6 s).1.2.2.2.1=w.1.1) (h3:s7 w (x6 s).1.2.2.1=true) {c:Nat} (hc:Sz c w) (dK:c<=1000000000000):xu w (x6 s).1:=by
  obtain ⟨p,hp,bX,hv,-⟩:=Cx.1 h3;obtain ⟨⟨m,hM⟩,-⟩:=h.mem p bX hv;have hm:=(h.msg s hs h1).2 h2;refine ⟨h.R5,by omega,Qf h1,?_,Nat.le_trans hc.ord dK,λ hk t ht=>?_⟩
  . rw [hp]; exact Nat.le_trans (hc.log p) dK
  . have cE:N9 w (x6 s).1.2.2.1=w.2.1.getD p j9:=by rw [hp]; rfl
    unfold R0 at ht;rw [cE] at ht;have cY:∃ i:Nat,(O7 Q)[i]?=some t:=by
      by_cases he:(D8 (w.2.1.getD p j9).2.2.2.1 ((x6 s).1.2.2.2.2.1,(x6 s).1.2.2.2.2.2.2.1,())).2.2.1=0
      . obtain ⟨a1,-⟩:=zo he;rcases (a1 t ht).1 with e|⟨q,hq,e⟩
        . refine ⟨(x6 s).1.2.2.2.2.1.toNat,?_⟩;rw [e,<- h.ord];exact hm.2 hk
        . exact ⟨_,by rw [e]; exact hM.wait q hq⟩
      . rw [c3D he] at ht; cases ht
    obtain ⟨i,hi⟩:=cY;rw [RH] at hi;cases hQ:Q[i]? with
    | none=>rw [hQ] at hi; cases hi
    | some y =>
      rw [hQ] at hi;have e:I9 y.1 (C3 y.1 (Q.take i)).length y.2=t:=by simpa using hi
      have hy:=h.le5 y (List.mem_of_getElem? hQ);have h5:=((zv (p:=y.1) (Q:=Q) (i:=i)).trans (h.zN y.1)).length_le;have h6:=h.short y.1;exact ⟨y.1,_,y.2,hy,by omega,e.symm⟩
theorem Ok.AT {c:Nat} {said:Nat->List D6} {w:f9} (h:Ok c said w) (hc:c<=1000000000000):Good w:=by
  obtain ⟨B,S,Q,hI⟩:=h.inv;exact ⟨⟨hI.R5,hI.way,λ s hs h1 h2 h3=>hI.note hs h1 h2 h3 h.sz hc⟩,hI.R5,λ i=>Nat.le_trans (h.sz.log i) (by omega),λ i=>Nat.le_trans (h.sz.late i) (by omega)⟩
def wR (said:Nat->List D6) (d:H2) (e:Int):Nat->List D6:=if d.1=1/\e=0 then vZ said d.2.1.toNat (said d.2.1.toNat++[d.2.2.2.1]) else said
structure yI (c:Nat) (said:Nat->List D6) (w:f9) (d:H2) (w':f9) (e:Int):Prop where
  ok:Ok (c+16) (wR said d e) w'
  len:w'.2.1.length=w.2.1.length
  log:∀ i:Nat,(w.2.1.getD i j9).2.1 <+: (w'.2.1.getD i j9).2.1
  fal:∀ i:Nat,i<w.2.1.length->(w'.2.1.getD i j9).1=((w.2.1.getD i j9).1 || decide (d.1=4/\e=0/\d.2.1=i))
  mem:∀ i:Nat,i<w.2.1.length->X9 w'.1.2.1 i=true->X9 w.1.2.1 i=true
theorem yI.Di {c:Nat} {said:Nat->List D6} {w w':f9} {d:H2} {e:Int} (h:Ok c said w) (hm:L7 16 w w') (hi:∃ B S Q,Inv (wR said d e) B S Q w') (hf:d.1≠4):yI c said w d w' e :=
  ⟨⟨by rw [hm.view]; exact h.mem,hm.sz c h.sz,hi⟩,hm.len,hm.log,λ i _=>by rw [hm.fal i,show decide (d.1=4/\e=0/\d.2.1=i)=false from decide_eq_false (λ c=>hf c.1),Bool.or_false],λ i _ h=>by rw [hm.view] at h; exact h⟩
theorem TG {w:f9} {p:Int} (h:¬ M0 w p≠0):s7 w p=true:=by
  unfold M0 at h;split at h
  . rename_i h1; exact absurd h1 h
  . split at h
    . rename_i h2; exact h2
    . exact absurd (by decide) h
theorem Cr {w:f9} {p:Int}:¬ known w p≠0↔0<=p/\p<(w.2.1.length:Int):=by
  unfold known
  split
  . rename_i h;have:=V4.1 h;constructor
    . intro _; omega
    . intro _ h2; exact h2 rfl
  . rename_i h;constructor
    . intro h2; exact absurd (by decide) h2
    . intro h2; exact absurd (V4.2 ⟨h2.1,by omega⟩) h
theorem EF {c:Nat} {said:Nat->List D6} {w:f9} (h:Ok c said w) (d:H2):yI c said w d (S3 w d).1 (S3 w d).2:=by
  obtain ⟨B,S,Q,hI⟩:=h.inv;have stay:∀ e:Int,(d.1=1->e≠0)->(d.1=4->e≠0)->yI c said w d w e:=λ e he hf =>
    ⟨⟨h.mem,h.sz.mono (by omega),B,S,Q,by rw [wR,if_neg (λ c=>he c.1 c.2)]; exact hI⟩,rfl,λ _=>List.prefix_rfl,λ i _=>by rw [show decide (d.1=4/\e=0/\d.2.1=i)=false from decide_eq_false (λ c=>hf c.1 c.2.1),Bool.or_false],λ _ _ h=>h⟩
  unfold S3;by_cases c1:d.1=1
  . rw [if_pos c1];have iT:=(Ro w d.2.1 d.2.2.2.1).more (Nat.zero_le 16);have hf:d.1=4->False:=λ e=>by omega
    rw [vq] at iT ⊢;by_cases a:M0 w d.2.1≠0
    . rw [if_pos a]; exact stay _ (λ _=>a) (λ e=>(hf e).elim)
    rw [if_neg a] at iT ⊢;by_cases b:(150:Int)<d.2.2.2.1.length
    . rw [if_pos b]; exact stay 2 (λ _=>by decide) (λ e=>(hf e).elim)
    rw [if_neg b] at iT ⊢;by_cases b2:(w.2.2.2.1.length:Int)=60
    . rw [if_pos b2]; exact stay 8 (λ _=>by decide) (λ e=>(hf e).elim)
    rw [if_neg b2] at iT ⊢;by_cases b3:(Q7 (P6 w d.2.1) d.2.2.2.1).2.1≠0
    . rw [if_pos b3]; exact stay _ (λ _=>b3) (λ e=>(hf e).elim)
    rw [if_neg b3] at iT ⊢;obtain ⟨p,hp,bX,hv,-⟩:=Cx.1 (TG a);refine yI.Di h iT ?_ (λ e=>hf e);rw [wR,if_pos ⟨c1,rfl⟩,hp];rw [hp] at b3;exact ⟨_,_,_,hI.say bX hv b3⟩
  rw [if_neg c1];by_cases c2:d.1=2
  . rw [if_pos c2];have iT:=(Tj w d.2.1).more (Nat.zero_le 16);rw [W3] at iT ⊢;by_cases a:M0 w d.2.1≠0
    . rw [if_pos a]; exact stay _ (λ e=>absurd e c1) (λ e=>by omega)
    rw [if_neg a] at iT ⊢;obtain ⟨p,hp,bX,hv,-⟩:=Cx.1 (TG a);refine yI.Di h iT ?_ (by omega);rw [wR,if_neg (λ c=>c1 c.1),hp];exact ⟨_,_,_,hI.again bX hv⟩
  rw [if_neg c2];by_cases c3:d.1=3
  . rw [if_pos c3];refine yI.Di h (SW _ _ _) ?_ (by omega);rw [wR,if_neg (λ c=>c1 c.1)];obtain ⟨Q',h'⟩:=hI.move d.2.1 d.2.2.1;exact ⟨_,_,_,h'⟩
  rw [if_neg c3];by_cases c4:d.1=4
  . rw [if_pos c4];unfold vS;by_cases a:known w d.2.1≠0
    . rw [if_pos a]; exact stay _ (λ e=>absurd e c1) (λ _=>a)
    rw [if_neg a];have hk:=Cr.1 a;obtain ⟨p,hp⟩:∃ p:Nat,d.2.1=p:=⟨d.2.1.toNat,by omega⟩;rw [hp] at hk ⊢;have bX:p<w.2.1.length:=by omega
    have hg:∀ i,(w.2.1.set p (true,(w.2.1.getD p j9).2)).getD i j9=if p=i then (true,(w.2.1.getD p j9).2) else w.2.1.getD i j9:=λ i=>by
      rw [X4];by_cases e:p=i
      . rw [if_pos ⟨e,bX⟩,if_pos e]
      . rw [if_neg (λ h=>e h.1),if_neg e]
    have gz:∀ i,((w.2.1.set p (true,(w.2.1.getD p j9).2)).getD i j9).2=(w.2.1.getD i j9).2:=λ i=>by
      rw [hg]; split
      . rename_i e; rw [e]
      . rfl
    refine ⟨⟨h.mem,⟨λ i=>?_,Nat.le_trans h.sz.ord (Nat.le_add_right _ _),λ i=>?_,λ i=>?_⟩,B,S,Q,?_⟩,List.length_set ..,λ i=>?_,λ i hi=>?_,λ _ _ h=>h⟩
    . show ((w.2.1.set p (true,(w.2.1.getD p j9).2)).getD i j9).2.1.length<=_;rw [gz]; exact Nat.le_trans (h.sz.log i) (Nat.le_add_right _ _)
    . show ∀ s∈((w.2.1.set p (true,(w.2.1.getD p j9).2)).getD i j9).2.1,_;rw [gz]; exact h.sz.txt i
    . show ((w.2.1.set p (true,(w.2.1.getD p j9).2)).getD i j9).2.2.1.2.1.length<=_;rw [gz]; exact h.sz.late i
    . rw [wR,if_neg (λ c=>c1 c.1)]; exact hI.Vu p
    . show _ <+: ((w.2.1.set p (true,(w.2.1.getD p j9).2)).getD i j9).2.1;rw [gz]; exact List.prefix_rfl
    . show ((w.2.1.set p (true,(w.2.1.getD p j9).2)).getD i j9).1=_;rw [hg];by_cases e:p=i
      . rw [if_pos e,decide_eq_true ⟨c4,rfl,by rw [hp,e]⟩,Bool.or_true]
      . rw [if_neg e,decide_eq_false (λ c=>e (by have:=c.2.2; omega)),Bool.or_false]
  rw [if_neg c4];by_cases c5:d.1=5
  . rw [if_pos c5];by_cases a:(R7 w).2.1≠0
    . rw [KR a]; exact stay _ (λ e=>absurd e c1) (λ e=>absurd e c4)
    rw [Lj a];obtain ⟨B',S',ua,h1,h2⟩:=hI.change h.mem a;obtain ⟨fa,lD,lY⟩:=members hI.R5 h.mem a;have hlen:(F3 w).2.1.length=w.2.1.length:=List.length_mapIdx ..;have cD:∀ i:Nat,i<w.2.1.length->(F3 w).2.1.getD i j9=vi w (I4 w w.2.1.length) i (w.2.1.getD i j9):=λ i hi=>TD hi;have eJ:∀ i:Nat,¬ i<w.2.1.length->(F3 w).2.1.getD i j9=j9:=λ i hi=>by
      rw [List.getD_eq_getElem?_getD,List.getElem?_eq_none (by rw [hlen]; omega)]; rfl
    have oz:(I4 w w.2.1.length).length<=c/\∀ s∈I4 w w.2.1.length,s.2.1.length<=200:=by
      rcases Kj (w:=w) (k:=w.2.1.length) with e|⟨i,-,-,e⟩
      . rw [e]; exact ⟨Nat.zero_le _,λ s hs=>by cases hs⟩
      . rw [e]; exact ⟨h.sz.log i,h.sz.txt i⟩
    have eN:∀ i x,(vi w (I4 w w.2.1.length) i x).2.1=I4 w w.2.1.length\/(vi w (I4 w w.2.1.length) i x).2.1=x.2.1:=λ i x=>by
      unfold vi; split
      . exact .inl rfl
      . exact .inr rfl
    have cr:∀ i x,(vi w (I4 w w.2.1.length) i x).2.2.1.2.1.length<=x.2.2.1.2.1.length:=λ i x=>by
      unfold vi; split
      . exact List.length_drop ..▸Nat.sub_le _ _
      . exact Nat.le_refl _
    refine ⟨⟨lD,⟨λ i=>?_,Nat.zero_le _,λ i=>?_,λ i=>?_⟩,B',S',[],?_⟩,hlen,λ i=>?_,λ i hi=>?_,λ i hi hm=>?_⟩
    . by_cases hi:i<w.2.1.length
      . rw [cD i hi];have:=h.sz.log i;rcases eN i (w.2.1.getD i j9) with e|e
        . rw [e]; omega
        . rw [e]; omega
      . rw [eJ i hi]; exact Nat.zero_le _
    . by_cases hi:i<w.2.1.length
      . rw [cD i hi];rcases eN i (w.2.1.getD i j9) with e|e
        . rw [e]; exact oz.2
        . rw [e]; exact h.sz.txt i
      . rw [eJ i hi]; exact λ s hs=>by cases hs
    . by_cases hi:i<w.2.1.length
      . rw [cD i hi]; exact Nat.le_trans (cr _ _) (h.sz.late i)
      . rw [eJ i hi]; exact Nat.zero_le _
    . rw [wR,if_neg (λ c=>c1 c.1)]; exact ua
    . by_cases hi:i<w.2.1.length
      . exact h2 i hi
      . have e:w.2.1.getD i j9=j9:=by rw [List.getD_eq_getElem?_getD,List.getElem?_eq_none (by omega)]; rfl
        rw [e]; exact List.nil_prefix
    . rw [cD i hi,MS,decide_eq_false (λ c=>c4 c.1),Bool.or_false]
    . rw [lY i hi] at hm; exact (zx.1 hm).2.1
  . rw [if_neg c5]; exact stay _ (λ e=>absurd e c1) (λ e=>absurd e c4)
attribute [local irreducible] Go.Ex.exec
def R5 (n:Int):Int:=rest n 6+1
theorem Nh (n:Int):1<=R5 n/\R5 n<=6:=by have:=OF (a:=n) (n:=6) (by omega); unfold R5; omega
def FR:p9:={ ps:=[.v e8],rs:=[e8],pre:=λ _=>True,fn:=λ x=>(R5 x.1,()),out:=λ _=>() }
noncomputable def FF:Env:={ P:=Tryz.prog,tt:=tt,C7:=[(39,GP)],res:=[Go.ResultVar.tmp 2],rs:=[Ty.int IntKind.i64],ps:=[PK.v e8],B9:=[],nt:=6 }
theorem NT:w7 FF:=x8 r7 ⟨b8b,trivial⟩
theorem Od:C0 FF Tryz.f13:=⟨rfl,rfl⟩
theorem Vt (x0:Int):exec FF 1000 [.code (d8 Tryz.prog 13)] (s8 FR.ps ((x0,()))) =
  .f7 ((6:Int)<=(1000000000:Int)) (.f7 (r9 IntKind.i64 (rest x0 (6:Int)+(1:Int))) (.ret ((rest x0 (6:Int)+(1:Int),())))):=by kernel_rfl
theorem c1F:FR.Valid Tryz.prog 13:=by
  refine p9.n9 NT rfl rfl Tryz.func13 (c:=d8 Tryz.prog 13) rfl rfl Od rfl ?_;rintro ⟨(n:Int),⟨⟩⟩ - -
  refine j7 (n:=1000) NT Od ?_;refine i8 (Vt n) ?_;have:=Nh n;have:=OF (a:=n) (n:=6) (by omega);simp only [j8,Tree.holds,sL];exact ⟨by decide,λ _=>⟨by omega,λ _=>rfl⟩⟩
def xA (n:Int):f9:=((0,Bn n,()),List.replicate n.toNat j9,[],[],())
def GJ:p9:={ ps:=[.v e8],rs:=[.box true none w5,e8],pre:=λ x=>LE.le (α:=Int) 1 x.1/\LE.le (α:=Int) x.1 6,fn:=λ x=>(some (xA x.1),0,()),out:=λ _=>() }
theorem ZN {n:Int} (h:1<=n/\n<=6):Dk n=(some (xA n),0,()):=if_pos (V4.2 h)
theorem b8i:GJ.Valid Tryz.prog 14:=by
  refine ⟨Sr.ent,λ w S vs x L hS dJ aZ hK hY fE dZ=>?_,λ h=>by cases h⟩;obtain ⟨(n:Int),⟨⟩⟩:=x;have:=Sr.run w S vs (n,()) L hS dJ trivial hK hY fE dZ;rw [show FT.fn (n,())=GJ.fn (n,()) from ZN aZ] at this;exact this
def GZ:p9:={ ps:=[.rw w5,.v vJ],rs:=[e8],pre:=λ x=>Good x.1,fn:=λ x=>((S3 x.1 x.2.1).2,()),out:=λ x=>((S3 x.1 x.2.1).1,()) }
noncomputable def Hx:Env:={ P:=Tryz.prog,tt:=tt,C7:=[(15,FV),(26,HM),(18,Ds),(37,Hb),(25,Pz)],res:=[Go.ResultVar.tmp 4],rs:=[Ty.int IntKind.i64],ps:=[PK.rw w5,PK.v vJ],B9:=[],nt:=39 }
theorem QM:w7 Hx:=x8 r7 ⟨c1l,b6o,Tv,b8s,b2F,trivial⟩
theorem RY:C0 Hx Tryz.f51:=⟨rfl,rfl⟩
theorem XL (ai:Int) (af:Int) (ab:List o8) (ae:List yY) (aa:List yY) (br:Int) (aB:Int) (aA:Int) (aX:yY):exec Hx 1000 [.code (d8 Tryz.prog 51)] (s8 GZ.ps ((((ai,af,()),ab,ae,aa,()),(br,aB,aA,aX,()),()))) =
  cond (decide (br=(1:Int))) (.f7 (List.length ab<=6) (.ret ((Prod.snd (vq ((ai,af,()),ab,ae,aa,()) aB aX),Prod.fst (vq ((ai,af,()),ab,ae,aa,()) aB aX),())))) (cond (decide (br=(2:Int))) (.f7 (List.length ab<=6) (.ret ((Prod.snd (W3 ((ai,af,()),ab,ae,aa,()) aB),Prod.fst (W3 ((ai,af,()),ab,ae,aa,()) aB),())))) (cond (decide (br=(3:Int))) (.f7 (BN ((ai,af,()),ab,ae,aa,())) (.ret ((Prod.snd (G1 ((ai,af,()),ab,ae,aa,()) aB aA),Prod.fst (G1 ((ai,af,()),ab,ae,aa,()) aB aA),())))) (cond (decide (br=(4:Int))) (.f7 (List.length ab<=6) (.ret ((Prod.snd (vS ((ai,af,()),ab,ae,aa,()) aB),Prod.fst (vS ((ai,af,()),ab,ae,aa,()) aB),())))) (cond (decide (br=(5:Int))) (.f7 (zk ((ai,af,()),ab,ae,aa,())) (.ret ((Prod.snd (T6 ((ai,af,()),ab,ae,aa,())),Prod.fst (T6 ((ai,af,()),ab,ae,aa,())),())))) (.ret (((1:Int),((ai,af,()),ab,ae,aa,()),()))))))):=by kernel_rfl
attribute [local irreducible] S3 vq W3 G1 vS T6 in
theorem b8v:GZ.Valid Tryz.prog 51:=by
  refine p9.n9 QM rfl rfl Tryz.func51 (c:=d8 Tryz.prog 51) rfl rfl RY rfl ?_;rintro ⟨⟨⟨(v0:Int),(v1:Int),⟨⟩⟩,(al:List o8),(od:List yY),(wy:List yY),⟨⟩⟩,⟨(k:Int),(who:Int),(bs:Int),(t:yY),⟨⟩⟩,⟨⟩⟩ (hg:Good ((v0,v1,()),al,od,wy,())) -
  refine j7 (n:=1000) QM RY ?_;refine i8 (XL v0 v1 al od wy k who bs t) ?_;simp only [j8,Tree.holds,sL];have key:∀ r:f9×Int,S3 ((v0,v1,()),al,od,wy,()) (k,who,bs,t,())=r->(((r.2,r.1,()):Int×f9×Unit)=((S3 ((v0,v1,()),al,od,wy,()) (k,who,bs,t,())).2,(S3 ((v0,v1,()),al,od,wy,()) (k,who,bs,t,())).1,())):=by rintro r rfl; rfl
  have e0:=S3.eq_1 ((v0,v1,()),al,od,wy,()) (k,who,bs,t,());refine ⟨λ c=>⟨hg.move.R5,λ _=>key _ (e0.trans (if_pos c))⟩,λ c1=>⟨λ c=>⟨hg.move.R5,λ _=>key _ (e0.trans ((if_neg c1).trans (if_pos c)))⟩,λ c2=>⟨λ c=>⟨hg.move,λ _=>key _ (e0.trans ((if_neg c1).trans ((if_neg c2).trans (if_pos c))))⟩,λ c3=>⟨λ c=>⟨hg.move.R5,λ _=>key _ (e0.trans ((if_neg c1).trans ((if_neg c2).trans ((if_neg c3).trans (if_pos c)))))⟩,
    λ c4=>⟨λ c=>⟨hg.change,λ _=>key _ (e0.trans ((if_neg c1).trans ((if_neg c2).trans ((if_neg c3).trans ((if_neg c4).trans (if_pos c))))))⟩,λ c5=>key (_,_) (e0.trans ((if_neg c1).trans ((if_neg c2).trans ((if_neg c3).trans ((if_neg c4).trans (if_neg c5))))))⟩⟩⟩⟩⟩
end Go.Proofs.YtijlnmgondibnaaGreatDoor
namespace Go.Proofs.YtijlnmgondibnaaGreatDoor
open Go.Ex
set_option maxRecDepth 100000
theorem Qi {n i:Nat}:(List.replicate n j9).getD i j9=j9:=by
  rw [List.getD_eq_getElem?_getD,List.getElem?_replicate]
  split<;>rfl
theorem Wf {n:Int} (h:1<=n/\n<=6):Ok 0 (λ _=>[]) (xA n):=by
  have hr:∀ i,(xA n).2.1.getD i j9=j9:=λ i=>Qi;have hl:(xA n).2.1.length=n.toNat:=List.length_replicate ..;refine ⟨U2 (k:=.u8) _,⟨λ i=>?_,Nat.zero_le _,λ i=>?_,λ i=>?_⟩,[],λ _=>[],[],?_⟩
  . rw [hr]; exact Nat.zero_le _
  . rw [hr]; exact λ s hs=>by cases hs
  . rw [hr]; exact Nat.zero_le _
  . refine ⟨by rw [hl]; omega,Nat.zero_le _,rfl,λ x hx=>(by cases hx),λ p=>List.nil_prefix,λ p=>Nat.zero_le _,λ s hs=>(by cases hs),λ p hp=>?_,λ p hp hv=>?_,λ p hp hv=>⟨rfl,List.prefix_rfl⟩,λ s hs=>(by cases hs)⟩
    . rw [hr]; exact ⟨rfl,λ q hq=>by cases hq⟩
    . rw [hr];exact ⟨⟨0,Nat.le_refl _,rfl,λ q hq=>(by cases hq),rfl,rfl,rfl⟩,rfl⟩
def Dw:H2:=(0,0,0,[],())
def Hm (k bs:Int):H2:=(3,k,bs,[],())
theorem Yd (w:f9) (k bs:Int):S3 w (Hm k bs)=G1 w k bs:=by
  unfold S3 Hm;rw [if_neg (show ¬ (3:Int)=1 by decide),if_neg (show ¬ (3:Int)=2 by decide),if_pos rfl]
theorem Ok.Hn {c:Nat} {said:Nat->List D6} {w:f9} (h:Ok c said w) (k bs:Int):Ok (c+16) said (G1 w k bs).1:=by
  have:=(EF h (Hm k bs)).ok;rw [Yd] at this;exact this
def Gh (p:Int) (t:D6):H2:=(1,p,0,t,())
theorem Xn (w:f9) (p:Int) (t:D6):S3 w (Gh p t)=vq w p t:=by
  unfold S3 Gh;exact if_pos rfl
theorem Ok.c99 {c:Nat} {said:Nat->List D6} {w:f9} (h:Ok c said w) (p:Int) (t:D6):∃ said',Ok (c+16) said' (vq w p t).1:=by
  have:=(EF h (Gh p t)).ok;rw [Xn] at this;exact ⟨_,this⟩
attribute [local irreducible] Go.Ex.exec
abbrev Dg:yY:=[115,101,116,32]
abbrev spT:yY:=[32]
def DP (i:Nat) (d:H2):H2:=if d.1=1 then (d.1,d.2.1,d.2.2.1,Dg++D3 (Int.tmod i 10)++spT++D3 i,()) else d
abbrev wc:=f9×List (List D6)×List Int
def yE (n:Int) (s:wc) (d:H2):wc :=
  if (S3 s.1 d).2≠0\/d.2.1<0\/n<=d.2.1 then ((S3 s.1 d).1,s.2) else
  ((S3 s.1 d).1,if d.1=1 then s.2.1.set d.2.1.toNat (s.2.1.getD d.2.1.toNat []++[d.2.2.2.1]) else s.2.1,if d.1=4 then s.2.2++[d.2.1] else s.2.2)
def G7 (n:Int) (l:List H2):Nat->wc
  | 0=>(xA n,List.replicate n.toNat [],[])
  | i+1=>yE n (G7 n l i) (DP i (l.getD i Dw))
def Ip:p9:={ ps:=[.v e8,.v (.d0 false vJ)],rs:=[.box true none w5,.d0 true (.d0 true .str),.d0 true e8,.bool],pre:=λ x=>(LE.le (α:=Int) 1 x.1/\LE.le (α:=Int) x.1 6)/\List.length (α:=H2) x.2.1<=1048576,fn:=λ x=>(some (G7 x.1 x.2.1 (List.length (α:=H2) x.2.1)).1,(G7 x.1 x.2.1 (List.length (α:=H2) x.2.1)).2.1,(G7 x.1 x.2.1 (List.length (α:=H2) x.2.1)).2.2,true,()),out:=λ _=>() }
noncomputable def Ci:Env:={ P:=Tryz.prog,tt:=tt,C7:=[(14,GJ),(50,HQ),(51,GZ)],res:=[Go.ResultVar.tmp 4,Go.ResultVar.tmp 5,Go.ResultVar.tmp 6,Go.ResultVar.tmp 7],rs:=[Ty.box true none w5,Ty.d0 true (Ty.d0 true Ty.str),Ty.d0 true e8,Ty.bool],ps:=[PK.v e8,PK.v (Ty.d0 false vJ)],B9:=[(7,[(0,none),(8,none),(10,some (Ty.d0 true (Ty.d0 true Ty.str))),(11,some Is),(28,none),(29,none),(30,none)])],nt:=91 }
theorem Lc:w7 Ci:=x8 r7 ⟨b8i,TX,b8v,trivial⟩
theorem Lg:C0 Ci Tryz.f23:=⟨rfl,rfl⟩
theorem c2z (x0:Int) (x1:List (Int×Int×Int×yY×Unit)):exec Ci 1000 [.code (d8 Tryz.prog 23)] (s8 Ip.ps ((x0,x1,()))) =
  .f7 ((1:Int)<=x0/\x0<=(6:Int)) (.f7 ((0:Int)<=x0/\x0<=x0/\x0<=(140737488355328:Int)/\x0*(↑(Ty.wb (Ty.d0 true Ty.str)):Int)<=(140737488355328:Int)) (.ctL (g9 (d8 Tryz.prog 23) 7) (St.mk [(0,AV.val e8 x0),(8,AV.ptr 1017 []),(10,AV.at_ 1000010 []),(11,AV.at_ 1000011 []),(28,AV.val (Ty.d0 false vJ) x1),(29,AV.val e8 (↑(List.length x1):Int)),(30,AV.val e8 (0:Int))] [(1017,i7.var w5 (((0:Int),Bn x0,()),List.replicate (Int.toNat x0) j9,[],[],())),(1000010,i7.own (Ty.d0 true (Ty.d0 true Ty.str)) (List.replicate (Int.toNat x0) [])),(1000011,i7.own Is [])]))):=by kernel_rfl
def Ld (v0:Int) (v28:List (Int×Int×Int×yY×Unit)) (wE:Int) (v30:Int) (dC:Int) (cI:Int) (dB:List o8) (cH:List yY) (ca:List yY) (cj:List (List yY)) (bo:List Int):St:=St.mk [(0,AV.val e8 v0),(8,AV.ptr 1017 []),(10,AV.at_ 1000010 []),(11,AV.at_ 1000011 []),(28,AV.val (Ty.d0 false vJ) v28),(29,AV.val e8 wE),(30,AV.val e8 v30)] [(1017,i7.var w5 ((dC,cI,()),dB,cH,ca,())),(1000010,i7.own (Ty.d0 true (Ty.d0 true Ty.str)) cj),(1000011,i7.own Is bo)]
theorem b8G (v0:Int) (v28:List (Int×Int×Int×yY×Unit)) (wE:Int) (v30:Int) (dC:Int) (cI:Int) (dB:List o8) (cH:List yY) (ca:List yY) (cj:List (List yY)) (bo:List Int):exec Ci 1000 (.code (g9 (d8 Tryz.prog 23) 7).1::.inLoop (g9 (d8 Tryz.prog 23) 7).1::(g9 (d8 Tryz.prog 23) 7).2) (Ld v0 v28 wE v30 dC cI dB cH ca cj bo) =
  let q2:=(List.getD v28 (Int.toNat v30) ((0:Int),(0:Int),(0:Int),[],())); let q4:=(ByteArray.data (ByteArray.mk #[115,101,116,32])); let q6:=(30,AV.val e8 (v30+(1:Int))); let q7:=(1000010,i7.own (Ty.d0 true (Ty.d0 true Ty.str)) cj); let q8:=(List.set [(0:Int)] (Int.toNat (↑0:Int)) (Prod.fst (Prod.snd q2))); let q9:=(29,AV.val e8 wE); let zz:=((dC,cI,()),dB,cH,ca,()); let vI:=(r9 IntKind.i64 (v30+(1:Int))); let vH:=(0,AV.val e8 v0); let xV:=(Int.toNat (Prod.fst (Prod.snd q2))); let CS:=(1000011,i7.own Is (bo++List.set [(0:Int)] (Int.toNat (↑0:Int)) (Prod.fst (Prod.snd q2)))); let CR:=r8; let q3:=(28,AV.val (Ty.d0 false (Ty.pair e8 (Ty.pair e8 CR))) v28); let q5:=(Ty.pair View (Ty.pair (Ty.d0 true (Ty.pair Ty.bool (Ty.pair (Ty.d0 true CR) (Ty.pair Q4 (Ty.pair (Ty.pair e8 (Ty.pair (Ty.d0 false CR) Ty.unit)) (Ty.pair (Ty.pair e8 (Ty.pair (Ty.d0 false CR) Ty.unit)) Ty.unit)))))) (Ty.pair (Ty.d0 true Ty.str) (Ty.pair (Ty.d0 true Ty.str) Ty.unit)))); let q1:=(1017,i7.var q5 (Prod.fst (S3 zz q2))); let CQ:=(ByteArray.data (ByteArray.mk #[32])); let FE:=(Array.toList q4++D3 (Int.tmod v30 (10:Int))++Array.toList CQ++D3 v30); let LQ:=(1000010,i7.own (Ty.d0 true (Ty.d0 true Ty.str)) (List.set cj xV (List.getD cj xV []++List.set [[]] (Int.toNat (↑0:Int)) FE))); let CP:=(List.length bo+List.length q8); let CO:=(Prod.snd (Prod.snd (Prod.snd q2))); let LS:=(S3 zz (Prod.fst q2,Prod.fst (Prod.snd q2),Prod.fst (Prod.snd (Prod.snd q2)),Array.toList q4++D3 (Int.tmod v30 (10:Int))++Array.toList CQ++D3 v30,Prod.snd CO)); let q0:=(1017,i7.var q5 (Prod.fst LS)); let LR:=(1000010,i7.own (Ty.d0 true (Ty.d0 true Ty.str)) (List.set cj xV (List.getD cj xV []++List.set [[]] (Int.toNat (↑0:Int)) (Prod.fst CO)))); cond (decide (v30<wE)) (.f7 ((0:Int)<=v30/\v30<(↑(List.length v28):Int)) (cond (decide (Prod.fst q2=(1:Int))) (.f7 ((0:Int)<(10:Int)) (.f7 (True) (.f7 (List.length (Array.toList q4)+List.length (D3 (Int.tmod v30 (10:Int)))<=Go.maxLen) (.f7 (List.length (Array.toList q4++D3 (Int.tmod v30 (10:Int)))+List.length (Array.toList CQ)<=Go.maxLen) (.f7 (True) (.f7 (List.length (Array.toList q4++D3 (Int.tmod v30 (10:Int))++Array.toList CQ)+List.length (D3 v30)<=Go.maxLen) (.f7 (Good zz) (cond (decide (Prod.snd LS≠(0:Int))) (.f7 vI (.ctL (g9 (d8 Tryz.prog 23) 7) (St.mk [vH,(8,AV.ptr 1017 []),(10,AV.at_ 1000010 []),(11,AV.at_ 1000011 []),q3,q9,q6] [q0,q7,(1000011,i7.own Is bo)]))) (cond (decide (Prod.fst (Prod.snd q2)<(0:Int))) (.f7 vI (.ctL (g9 (d8 Tryz.prog 23) 7) (St.mk [vH,(8,AV.ptr 1017 []),(10,AV.at_ 1000010 []),(11,AV.at_ 1000011 []),q3,q9,q6] [q0,q7,(1000011,i7.own Is bo)]))) (cond (decide (v0<=Prod.fst (Prod.snd q2))) (.f7 vI (.ctL (g9 (d8 Tryz.prog 23) 7) (St.mk [vH,(8,AV.ptr 1017 []),(10,AV.at_ 1000010 []),(11,AV.at_ 1000011 []),q3,q9,q6] [q0,q7,(1000011,i7.own Is bo)]))) (cond (decide (Prod.fst q2=(1:Int))) (.f7 ((0:Int)<=Prod.fst (Prod.snd q2)/\Prod.fst (Prod.snd q2)<(↑(List.length cj):Int)) (.f7 ((0:Int)<=Prod.fst (Prod.snd q2)/\Prod.fst (Prod.snd q2)<(↑(List.length cj):Int)) (.f7 ([]++[Step.idx (Prod.fst (Prod.snd q2))]=[]++[Step.idx (Prod.fst (Prod.snd q2))]/\List.length (List.getD cj xV [])+List.length (List.set [[]] (Int.toNat (↑0:Int)) FE)<=140737488355328/\(List.length (List.getD cj xV [])+List.length (List.set [[]] (Int.toNat (↑0:Int)) FE))*Ty.wb Ty.str<=140737488355328) (cond (decide (Prod.fst q2=(4:Int))) (.f7 (List.length bo+List.length q8<=140737488355328/\CP*Ty.wb e8<=140737488355328) (.f7 vI (.ctL (g9 (d8 Tryz.prog 23) 7) (St.mk [vH,(8,AV.ptr 1017 []),(10,AV.at_ 1000010 []),(11,AV.at_ 1000011 []),q3,q9,q6] [q0,LQ,CS])))) (.f7 vI (.ctL (g9 (d8 Tryz.prog 23) 7) (St.mk [vH,(8,AV.ptr 1017 []),(10,AV.at_ 1000010 []),(11,AV.at_ 1000011 []),q3,q9,q6] [q0,LQ,(1000011,i7.own Is bo)]))))))) (cond (decide (Prod.fst q2=(4:Int))) (.f7 (List.length bo+List.length q8<=140737488355328/\CP*Ty.wb e8<=140737488355328) (.f7 vI (.ctL (g9 (d8 Tryz.prog 23) 7) (St.mk [vH,(8,AV.ptr 1017 []),(10,AV.at_ 1000010 []),(11,AV.at_ 1000011 []),q3,q9,q6] [q0,q7,CS])))) (.f7 vI (.ctL (g9 (d8 Tryz.prog 23) 7) (St.mk [vH,(8,AV.ptr 1017 []),(10,AV.at_ 1000010 []),(11,AV.at_ 1000011 []),q3,q9,q6] [q0,q7,(1000011,i7.own Is bo)]))))))))))))))) (.f7 (Good zz) (cond (decide (Prod.snd (S3 zz q2)≠(0:Int))) (.f7 vI (.ctL (g9 (d8 Tryz.prog 23) 7) (St.mk [vH,(8,AV.ptr 1017 []),(10,AV.at_ 1000010 []),(11,AV.at_ 1000011 []),q3,q9,q6] [q1,q7,(1000011,i7.own Is bo)]))) (cond (decide (Prod.fst (Prod.snd q2)<(0:Int))) (.f7 vI (.ctL (g9 (d8 Tryz.prog 23) 7) (St.mk [vH,(8,AV.ptr 1017 []),(10,AV.at_ 1000010 []),(11,AV.at_ 1000011 []),q3,q9,q6] [q1,q7,(1000011,i7.own Is bo)]))) (cond (decide (v0<=Prod.fst (Prod.snd q2))) (.f7 vI (.ctL (g9 (d8 Tryz.prog 23) 7) (St.mk [vH,(8,AV.ptr 1017 []),(10,AV.at_ 1000010 []),(11,AV.at_ 1000011 []),q3,q9,q6] [q1,q7,(1000011,i7.own Is bo)]))) (cond (decide (Prod.fst q2=(1:Int))) (.f7 ((0:Int)<=Prod.fst (Prod.snd q2)/\Prod.fst (Prod.snd q2)<(↑(List.length cj):Int)) (.f7 ((0:Int)<=Prod.fst (Prod.snd q2)/\Prod.fst (Prod.snd q2)<(↑(List.length cj):Int)) (.f7 ([]++[Step.idx (Prod.fst (Prod.snd q2))]=[]++[Step.idx (Prod.fst (Prod.snd q2))]/\List.length (List.getD cj xV [])+List.length (List.set [[]] (Int.toNat (↑0:Int)) (Prod.fst CO))<=140737488355328/\(List.length (List.getD cj xV [])+List.length (List.set [[]] (Int.toNat (↑0:Int)) (Prod.fst CO)))*Ty.wb Ty.str<=140737488355328) (cond (decide (Prod.fst q2=(4:Int))) (.f7 (List.length bo+List.length q8<=140737488355328/\CP*Ty.wb e8<=140737488355328) (.f7 vI (.ctL (g9 (d8 Tryz.prog 23) 7) (St.mk [vH,(8,AV.ptr 1017 []),(10,AV.at_ 1000010 []),(11,AV.at_ 1000011 []),q3,q9,q6] [q1,LR,CS])))) (.f7 vI (.ctL (g9 (d8 Tryz.prog 23) 7) (St.mk [vH,(8,AV.ptr 1017 []),(10,AV.at_ 1000010 []),(11,AV.at_ 1000011 []),q3,q9,q6] [q1,LR,(1000011,i7.own Is bo)]))))))) (cond (decide (Prod.fst q2=(4:Int))) (.f7 (List.length bo+List.length q8<=140737488355328/\CP*Ty.wb e8<=140737488355328) (.f7 vI (.ctL (g9 (d8 Tryz.prog 23) 7) (St.mk [vH,(8,AV.ptr 1017 []),(10,AV.at_ 1000010 []),(11,AV.at_ 1000011 []),q3,q9,q6] [q1,q7,CS])))) (.f7 vI (.ctL (g9 (d8 Tryz.prog 23) 7) (St.mk [vH,(8,AV.ptr 1017 []),(10,AV.at_ 1000010 []),(11,AV.at_ 1000011 []),q3,q9,q6] [q1,q7,(1000011,i7.own Is bo)]))))))))))) (.ret ((some zz,cj,bo,true,()))):=by kernel_rfl
def J1:Nat->f9->f9×Bool
  | 0,w=>(w,decide ((w.2.2.2.1.length:Int)=0))
  | k+1,w=>if (w.2.2.2.1.length:Int)=0 then (w,true) else if (G1 w 0 1).2≠0 then ((G1 w 0 1).1,false) else J1 k (G1 w 0 1).1
structure Fit (most:Int) (w:f9):Prop where
  nn:0<=most/\most<=1000000
  ok:∃ c said,Ok c said w/\c<=100000000000
def JC:p9:={ ps:=[.rw w5,.v e8],rs:=[.bool],pre:=λ x=>Fit x.2.1 x.1,fn:=λ x=>((J1 (Int.toNat x.2.1) x.1).2,()),out:=λ x=>((J1 (Int.toNat x.2.1) x.1).1,()) }
noncomputable def Cl:Env:={ P:=Tryz.prog,tt:=tt,C7:=[(17,FX),(18,Ds)],res:=[Go.ResultVar.tmp 4],rs:=[Ty.bool],ps:=[PK.rw w5,PK.v e8],B9:=[(2,[(0,none),(5,none),(6,none)])],nt:=18 }
theorem LI:w7 Cl:=x8 r7 ⟨c1c,Tv,trivial⟩
theorem LL:C0 Cl Tryz.f16:=⟨rfl,rfl⟩
theorem b8J (ai:Int) (af:Int) (ab:List o8) (ae:List yY) (aa:List yY) (x1:Int):exec Cl 1000 [.code (d8 Tryz.prog 16)] (s8 JC.ps ((((ai,af,()),ab,ae,aa,()),x1,()))) =
  .ctL (g9 (d8 Tryz.prog 16) 2) (St.mk [(0,AV.ptr 2000000 []),(5,AV.val e8 x1),(6,AV.val e8 (0:Int))] [(2000000,i7.var w5 ((ai,af,()),ab,ae,aa,()))]):=by kernel_rfl
def LJ (v5:Int) (v6:Int) (ar:Int) (an:Int) (aj:List o8) (ak:List yY) (ah:List yY):St:=St.mk [(0,AV.ptr 2000000 []),(5,AV.val e8 v5),(6,AV.val e8 v6)] [(2000000,i7.var w5 ((ar,an,()),aj,ak,ah,()))]
theorem b7r (v5:Int) (v6:Int) (ar:Int) (an:Int) (aj:List o8) (ak:List yY) (ah:List yY):exec Cl 1000 (.code (g9 (d8 Tryz.prog 16) 2).1::.inLoop (g9 (d8 Tryz.prog 16) 2).1::(g9 (d8 Tryz.prog 16) 2).2) (LJ v5 v6 ar an aj ak ah) =
  cond (decide (v6<v5)) (.f7 (True) (cond (decide ((↑(List.length ah):Int)=(0:Int))) (.ret ((true,((ar,an,()),aj,ak,ah,()),()))) (.f7 (BN ((ar,an,()),aj,ak,ah,())) (cond (decide (Prod.snd (G1 ((ar,an,()),aj,ak,ah,()) (0:Int) (1:Int))≠(0:Int))) (.ret ((false,Prod.fst (G1 ((ar,an,()),aj,ak,ah,()) (0:Int) (1:Int)),()))) (.f7 (r9 IntKind.i64 (v6+(1:Int))) (.ctL (g9 (d8 Tryz.prog 16) 2) (St.mk [(0,AV.ptr 2000000 []),(5,AV.val e8 v5),(6,AV.val e8 (v6+(1:Int)))] [(2000000,i7.var w5 (Prod.fst (G1 ((ar,an,()),aj,ak,ah,()) (0:Int) (1:Int))))]))))))) (.f7 (True) (.ret ((decide ((↑(List.length ah):Int)=(0:Int)),((ar,an,()),aj,ak,ah,()),())))):=by kernel_rfl
attribute [local irreducible] G1 in
theorem b2D:JC.Valid Tryz.prog 16:=by
  refine p9.n9 LI rfl rfl Tryz.func16 (c:=d8 Tryz.prog 16) rfl rfl LL rfl ?_;rintro ⟨⟨⟨(v0:Int),(v1:Int),⟨⟩⟩,(al:List o8),(od:List yY),(wy:List yY),⟨⟩⟩,(most:Int),⟨⟩⟩ (hf:Fit most ((v0,v1,()),al,od,wy,())) -
  refine j7 (n:=1000) LI LL ?_;refine i8 (b8J v0 v1 al od wy most) ?_;obtain ⟨c0,said,aM,eO⟩:=hf.ok;have hm:=hf.nn;obtain ⟨w0,qT⟩:∃ w:f9,w=((v0,v1,()),al,od,wy,()):=⟨_,rfl⟩;rw [<- qT] at aM;have key:∀ (w:f9) (i:Nat),J1 most.toNat w0=J1 (most.toNat - i) w->∀ r:f9×Bool,J1 (most.toNat - i) w=r->(((r.2,r.1,()):Bool×f9×Unit)=((J1 most.toNat w0).2,(J1 most.toNat w0).1,())):=by
    rintro w i e r rfl; rw [e]
  suffices go:Go.Ex.Reach Cl Tryz.f16 ((J1 most.toNat w0).2,()) ((J1 most.toNat w0).1,()) (.code (g9 (d8 Tryz.prog 16) 2).1::.inLoop (g9 (d8 Tryz.prog 16) 2).1::(g9 (d8 Tryz.prog 16) 2).2) (LJ most ((0:Nat):Int) w0.1.1 w0.1.2.1 w0.2.1 w0.2.2.1 w0.2.2.2.1) by
    subst qT; exact go
  refine Reach.M8 LI LL (λ i:Nat×f9=>LJ most (i.1:Int) i.2.1.1 i.2.1.2.1 i.2.2.1 i.2.2.2.1 i.2.2.2.2.1) (λ i=>i.1<=most.toNat/\J1 most.toNat w0=J1 (most.toNat - i.1) i.2/\Ok (c0+16*i.1) said i.2)
    (λ i=>most.toNat - i.1) 1000 (λ _=>⟨u6 rfl,u6 rfl⟩) ?_ (0,w0) ⟨Nat.zero_le _,rfl,aM⟩
  rintro ⟨i,w⟩ ⟨k1,k2,k3⟩ - ih;have k1:i<=most.toNat:=k1;have k2:J1 most.toNat w0=J1 (most.toNat - i) w:=k2;have k3:Ok (c0+16*i) said w:=k3;have ih1:i<most.toNat->J1 most.toNat w0=J1 (most.toNat - (i+1)) (G1 w 0 1).1->_:=λ h e=>ih (i+1,(G1 w 0 1).1) ⟨by show i+1<=most.toNat; omega,e,by rw [show c0+16*(i+1)=c0+16*i+16 by omega]; exact k3.Hn 0 1⟩ (by show most.toNat - (i+1)<most.toNat - i; omega);refine i8 (b7r ..) ?_;have e1:((i:Nat):Int)+1=((i+1:Nat):Int):=by omega
  obtain ⟨⟨u0,u1,⟨⟩⟩,ual,uod,uwy,⟨⟩⟩:=w;simp only [j8,Tree.holds,e1,sL];have e2:i<most.toNat->J1 (most.toNat - i) ((u0,u1,()),ual,uod,uwy,())=if (uwy.length:Int)=0 then (((u0,u1,()),ual,uod,uwy,()),true) else if (G1 ((u0,u1,()),ual,uod,uwy,()) 0 1).2≠0 then ((G1 ((u0,u1,()),ual,uod,uwy,()) 0 1).1,false) else J1 (most.toNat - (i+1)) (G1 ((u0,u1,()),ual,uod,uwy,()) 0 1).1:=λ h=>by
    rw [show most.toNat - i=(most.toNat - (i+1))+1 by omega,J1]
  refine ⟨λ c=>⟨λ d=>?_,λ d=>⟨(k3.AT (by omega)).move,λ _=>⟨λ e=>?_,λ e=>⟨G5.2 ⟨by omega,by omega⟩,λ _=>?_⟩⟩⟩⟩,λ c=>?_⟩
  . exact key _ i k2 (_,_) ((e2 (by omega)).trans (if_pos d))
  . exact key _ i k2 (_,_) ((e2 (by omega)).trans ((if_neg d).trans (if_pos e)))
  . exact ih1 (by omega) (k2.trans ((e2 (by omega)).trans ((if_neg d).trans (if_neg (by simpa using e)))))
  . obtain rfl:i=most.toNat:=by omega
    exact key _ _ k2 (_,_) (by rw [Nat.sub_self]; rfl)
def Hs (w:f9) (zC:List Int):Nat->List Int
  | 0=>[]
  | p+1=>if X9 w.1.2.1 p=true/\¬ (p:Int)∈zC then Hs w zC p++[(p:Int)] else Hs w zC p
theorem RM {w:f9} {d:H2} (he:(S3 w d).2=0) (hd:d.1=1\/d.1=4):0<=d.2.1/\d.2.1<(w.2.1.length:Int):=by
  have hk:¬ known w d.2.1≠0:=by
    unfold S3 at he;rcases hd with hd|hd
    . rw [if_pos hd,vq] at he;by_cases a:M0 w d.2.1≠0
      . rw [if_pos a] at he; exact absurd he a
      . unfold M0 at a;split at a
        . rename_i h; exact absurd h a
        . rename_i h; exact h
    . rw [if_neg (by omega),if_neg (by omega),if_neg (by omega),if_pos hd,vS] at he;split at he
      . rename_i h; exact absurd he h
      . rename_i h; exact h
  exact Cr.1 hk
def zd (s:wc) (p:Nat):List D6:=s.2.1.getD p []
structure HW (n:Int) (i:Nat) (s:wc):Prop where
  ok:Ok (16*i) (zd s) s.1
  len:s.1.2.1.length=n.toNat
  said:s.2.1.length=n.toNat
  R5:s.2.2.length<=i
  each:∀ p,(zd s p).length<=i
  zC:∀ p:Nat,p<n.toNat->(s.1.2.1.getD p j9).1=decide ((p:Int)∈s.2.2)
theorem c2U {n:Int} (hn:1<=n/\n<=6) {i:Nat} {s:wc} (h:HW n i s) (d:H2):HW n (i+1) (yE n s d):=by
  have hd:=EF h.ok d;have oD:16*i+16=16*(i+1):=by omega
  have hlen:=h.len;rw [yE];by_cases c:(S3 s.1 d).2≠0\/d.2.1<0\/n<=d.2.1
  . rw [if_pos c];have h1:¬ (d.1=1/\(S3 s.1 d).2=0):=λ e=>by
      have:=RM e.2 (.inl e.1);rcases c with c|c|c
      . exact c e.2
      . omega
      . omega
    have h4:¬ (d.1=4/\(S3 s.1 d).2=0):=λ e=>by
      have:=RM e.2 (.inr e.1);rcases c with c|c|c
      . exact c e.2
      . omega
      . omega
    refine ⟨?_,hd.len.trans h.len,h.said,Nat.le_succ_of_le h.R5,λ p=>Nat.le_succ_of_le (h.each p),λ p hp=>?_⟩
    . have:=hd.ok;rw [wR,if_neg h1,oD] at this;exact this
    . rw [hd.fal p (by omega),h.zC p hp,decide_eq_false (λ e:d.1=4/\_/\_=>h4 ⟨e.1,e.2.1⟩),Bool.or_false]
  . rw [if_neg c];have he:(S3 s.1 d).2=0:=Decidable.not_not.1 (λ e=>c (.inl e));have hw:0<=d.2.1/\d.2.1<n:=⟨Int.not_lt.1 (λ e=>c (.inr (.inl e))),Int.not_le.1 (λ e=>c (.inr (.inr e)))⟩;obtain ⟨q,hq⟩:∃ q:Nat,d.2.1=q:=⟨d.2.1.toNat,by omega⟩;have sq:q<s.2.1.length:=by rw [h.said]; omega
    have eI:∀ x:List D6,zd (((S3 s.1 d).1,s.2.1.set q x,s.2.2):wc)=vZ (zd s) q x:=λ x=>by
      funext p
      show (s.2.1.set q x).getD p []=_;unfold vZ;rw [List.getD_eq_getElem?_getD,List.getElem?_set];by_cases e:p=q
      . subst e; rw [if_pos rfl,if_pos rfl,if_pos sq]; rfl
      . rw [if_neg (Ne.symm e),if_neg e];show _=s.2.1.getD p [];rw [List.getD_eq_getElem?_getD]
    rw [hq];refine ⟨?_,hd.len.trans h.len,?_,?_,λ p=>?_,λ p hp=>?_⟩
    . have:=hd.ok;rw [oD] at this;by_cases e:d.1=1
      . rw [wR,if_pos ⟨e,he⟩,hq] at this;rw [if_pos e];have h2:=eI (s.2.1.getD q []++[d.2.2.2.1]);show Ok _ (zd (((S3 s.1 d).1,s.2.1.set q (s.2.1.getD q []++[d.2.2.2.1]),s.2.2):wc)) _;rw [h2];exact this
      . rw [wR,if_neg (λ c=>e c.1)] at this;rw [if_neg e];exact this
    . show (if d.1=1 then _ else _:List (List D6)).length=_
      split
      . rw [List.length_set]; exact h.said
      . exact h.said
    . show (if d.1=4 then _ else _:List Int).length<=_;have:=h.R5
      split
      . rw [List.length_append]; simp only [List.length_singleton]; omega
      . omega
    . show ((if d.1=1 then s.2.1.set q (s.2.1.getD q []++[d.2.2.2.1]) else s.2.1).getD p []).length<=_;have h3:=h.each p;have h4:=h.each q
      split
      . have h2:=congrFun (eI (s.2.1.getD q []++[d.2.2.2.1])) p;have h2:(s.2.1.set q (s.2.1.getD q []++[d.2.2.2.1])).getD p []=vZ (zd s) q (s.2.1.getD q []++[d.2.2.2.1]) p:=h2;rw [h2];unfold vZ
        split
        . rw [List.length_append]; simp only [List.length_singleton];have h4:(s.2.1.getD q []).length<=i:=h4;omega
        . omega
      . have h3:(s.2.1.getD p []).length<=i:=h3;omega
    . show ((S3 s.1 d).1.2.1.getD p j9).1=decide ((p:Int)∈(if d.1=4 then s.2.2++[(q:Int)] else s.2.2));rw [hd.fal p (by omega),h.zC p hp];by_cases e:d.1=4
      . rw [if_pos e];by_cases e2:q=p
        . subst e2;rw [decide_eq_true (p:=d.1=4/\(S3 s.1 d).2=0/\d.2.1=(q:Int)) ⟨e,he,hq⟩,Bool.or_true,decide_eq_true (List.mem_append_right _ (List.mem_singleton.2 rfl))]
        . rw [decide_eq_false (λ c:d.1=4/\_/\_=>e2 (by have:=c.2.2; omega)),Bool.or_false];apply decide_eq_decide.2;rw [List.mem_append,List.mem_singleton];constructor
          . exact .inl
          . rintro (h|h)
            . exact h
            . exact absurd h (by omega)
      . rw [if_neg e,decide_eq_false (λ c:d.1=4/\_/\_=>e c.1),Bool.or_false]
theorem Eh {n:Int} (hn:1<=n/\n<=6) (l:List H2):∀ i,HW n i (G7 n l i)
  | 0=>by
    have hl:(xA n).2.1.length=n.toNat:=List.length_replicate ..;have hs:zd (G7 n l 0)=λ _=>[]:=by
      funext p
      show (List.replicate n.toNat ([]:List D6)).getD p []=[];rw [List.getD_eq_getElem?_getD,List.getElem?_replicate]
      split<;>rfl
    refine ⟨by rw [hs]; exact Wf hn,hl,List.length_replicate ..,Nat.le_refl _,λ p=>(by rw [hs]; exact Nat.le_refl _),λ p hp=>?_⟩;show ((List.replicate n.toNat j9).getD p j9).1=_;rw [Qi]; rfl
  | i+1=>c2U hn (Eh hn l i) _
theorem Sd {n:Int} {s:wc} {d:H2} (h:(S3 s.1 d).2≠0\/d.2.1<0\/n<=d.2.1):yE n s d=((S3 s.1 d).1,s.2):=by rw [yE]; exact if_pos h
theorem Qp {n:Int} {s:wc} {d:H2} (h1:(S3 s.1 d).2=0) (h2:¬ d.2.1<0) (h3:¬ n<=d.2.1):yE n s d=((S3 s.1 d).1,if d.1=1 then s.2.1.set d.2.1.toNat (s.2.1.getD d.2.1.toNat []++[d.2.2.2.1]) else s.2.1,if d.1=4 then s.2.2++[d.2.1] else s.2.2):=by
  rw [yE]; exact if_neg (λ h=>h.elim (λ e=>e h1) (λ h=>h.elim h2 h3))
attribute [local irreducible] S3 in
set_option maxHeartbeats 4000000 in
theorem b4A:Ip.Valid Tryz.prog 23:=by
  refine p9.n9 Lc rfl rfl Tryz.func23 (c:=d8 Tryz.prog 23) rfl rfl Lg rfl ?_;rintro ⟨(n:Int),(l:List H2),⟨⟩⟩ ⟨(hn:1<=n/\n<=6),(hl:l.length<=1048576)⟩ -
  refine j7 (n:=1000) Lc Lg ?_;refine i8 (c2z n l) ?_;have jf:Ty.wb (.d0 true .str)=24:=rfl;simp only [j8,Tree.holds,jf,sL];refine ⟨hn,λ _=>⟨⟨by omega,by omega,by omega,by omega⟩,λ _=>?_⟩⟩;have hW:=Eh hn l;show Go.Ex.Reach Ci Tryz.f23 (some (G7 n l l.length).1,(G7 n l l.length).2.1,(G7 n l l.length).2.2,true,()) () (.code (g9 (d8 Tryz.prog 23) 7).1::.inLoop (g9 (d8 Tryz.prog 23) 7).1::(g9 (d8 Tryz.prog 23) 7).2) (Ld n l (l.length:Int) ((0:Nat):Int) (G7 n l 0).1.1.1 (G7 n l 0).1.1.2.1 (G7 n l 0).1.2.1 (G7 n l 0).1.2.2.1 (G7 n l 0).1.2.2.2.1 (G7 n l 0).2.1 (G7 n l 0).2.2);refine Reach.M8 Lc Lg (λ i:Nat=>Ld n l (l.length:Int) (i:Int) (G7 n l i).1.1.1 (G7 n l i).1.1.2.1 (G7 n l i).1.2.1 (G7 n l i).1.2.2.1 (G7 n l i).1.2.2.2.1 (G7 n l i).2.1 (G7 n l i).2.2) (λ i=>i<=l.length) (λ i=>l.length - i) 1000 (λ _=>⟨u6 rfl,u6 rfl⟩) ?_ 0 (Nat.zero_le _);rintro i k1 - ih;have k1:i<=l.length:=k1;have hS:=hW i;have ih1:∀ s':wc,i<l.length->s'=yE n (G7 n l i) (DP i (l.getD i Dw))->_:=λ s' h e=>by
    have:=ih (i+1) (by show i+1<=l.length; omega) (by show l.length - (i+1)<l.length - i; omega);rw [show G7 n l (i+1)=s' from e.symm] at this;exact this
  generalize hs:G7 n l i=s at hS ih1 ⊢;have hg:=(hS.ok.AT (by omega));have hle:s.2.1.length=n.toNat:=hS.said;have gN:s.2.2.length<=i:=hS.R5;have tv:∀ p,(s.2.1.getD p []).length<=i:=hS.each;refine i8 (b8G ..) ?_;have e1:((i:Nat):Int)+1=((i+1:Nat):Int):=by omega
  have oI:Ty.wb .str=16:=rfl;have rV:Ty.wb (.int .i64)=8:=rfl;have jq:maxLen=9223372036854775807:=by decide
  have fh:(D3 (Int.tmod (i:Int) 10)).length<=20:=CG (by have:=Int.tmod_nonneg (a:=(i:Int)) 10 (by omega); omega) (by have:=Int.tmod_lt_of_pos (i:Int) (show (0:Int)<10 by decide); omega);have lM:(D3 (i:Int)).length<=20:=CG (by omega) (by omega);obtain ⟨d,hd⟩:∃ d,d=l.getD i Dw:=⟨_,rfl⟩;rw [<- hd] at ih1;simp only [Dw] at hd;simp only [j8,Tree.holds,e1,oI,rV,sL];rw [<- hd];clear hd;obtain ⟨dk,dw,dh,dt,⟨⟩⟩:=d;obtain ⟨w,sd,fl⟩:=s;have cY:-9223372036854775808<=((i+1:Nat):Int)/\((i+1:Nat):Int)<=9223372036854775807:=⟨by omega,by omega⟩;have pW:=tv dw.toNat;simp only at hle gN pW;dsimp only at hg ⊢;refine ⟨λ c=>⟨by omega,λ _=>⟨λ c1=>?_,λ c1=>?_⟩⟩,λ c=>?_⟩
  . have ki:DP i (dk,dw,dh,dt,())=(dk,dw,dh,Dg++D3 (Int.tmod i 10)++spT++D3 i,()):=if_pos c1;have ih1:=λ s' h e=>ih1 s' h (by rw [ki]; exact e);have wy:=Sd (n:=n) (s:=(w,sd,fl)) (d:=(dk,dw,dh,Dg++D3 (Int.tmod i 10)++spT++D3 i,()));have wn:=Qp (n:=n) (s:=(w,sd,fl)) (d:=(dk,dw,dh,Dg++D3 (Int.tmod i 10)++spT++D3 i,()));refine ⟨by decide,λ _=>⟨?_,λ _=>⟨?_,λ _=>⟨?_,λ _=>⟨hg,λ _=>?_⟩⟩⟩⟩⟩
    . rw [jq]; omega
    . simp only [List.length_append,List.length_cons,List.length_nil,jq]; omega
    . simp only [List.length_append,List.length_cons,List.length_nil,jq]; omega
    refine ⟨λ e=>⟨cY,λ _=>?_⟩,λ e=>⟨λ b=>⟨cY,λ _=>?_⟩,λ b=>⟨λ b2=>⟨cY,λ _=>?_⟩,λ b2=>⟨λ k1=>⟨by omega,λ _=>⟨by omega,λ _=>⟨⟨by omega,by omega⟩,λ _=>⟨λ k4=>by omega,λ k4=>⟨cY,λ _=>?_⟩⟩⟩⟩⟩,λ k1=>absurd c1 k1⟩⟩⟩⟩
    . exact ih1 (_,_,_) (by omega) (wy (.inl e)).symm
    . exact ih1 (_,_,_) (by omega) (wy (.inr (.inl b))).symm
    . exact ih1 (_,_,_) (by omega) (wy (.inr (.inr b2))).symm
    . exact ih1 (_,_,_) (by omega) (by
        rw [wn (by simpa using e) b b2];simp only;rw [if_pos c1,if_neg k4]; rfl)
  . have ki:DP i (dk,dw,dh,dt,())=(dk,dw,dh,dt,()):=if_neg c1;have ih1:=λ s' h e=>ih1 s' h (by rw [ki]; exact e);have wy:=Sd (n:=n) (s:=(w,sd,fl)) (d:=(dk,dw,dh,dt,()));have wn:=Qp (n:=n) (s:=(w,sd,fl)) (d:=(dk,dw,dh,dt,()));refine ⟨hg,λ _=>?_⟩;refine ⟨λ e=>⟨cY,λ _=>?_⟩,λ e=>⟨λ b=>⟨cY,λ _=>?_⟩,λ b=>⟨λ b2=>⟨cY,λ _=>?_⟩,λ b2=>⟨λ k1=>absurd k1 c1,λ k1=>⟨λ k4=>⟨⟨by omega,by omega⟩,λ _=>⟨cY,λ _=>?_⟩⟩,λ k4=>⟨cY,λ _=>?_⟩⟩⟩⟩⟩⟩
    . exact ih1 (_,_,_) (by omega) (wy (.inl e)).symm
    . exact ih1 (_,_,_) (by omega) (wy (.inr (.inl b))).symm
    . exact ih1 (_,_,_) (by omega) (wy (.inr (.inr b2))).symm
    . exact ih1 (_,_,_) (by omega) (by
        rw [wn (by simpa using e) b b2];simp only;rw [if_neg c1,if_pos k4]; rfl)
    . exact ih1 (_,_,_) (by omega) (by
        rw [wn (by simpa using e) b b2];simp only;rw [if_neg c1,if_neg k4])
  . obtain rfl:i=l.length:=by omega
    rw [hs]; rfl
def Dq:p9:={ ps:=[.v (.d0 false r8),.v (.d0 false r8)],rs:=[.bool],pre:=λ _=>True,fn:=λ x=>(decide ((show List (u7) from x.1)=(show List (u7) from x.2.1)),()),out:=λ _=>() }
noncomputable def DE:Env:={ P:=Tryz.prog,tt:=tt,C7:=[],res:=[Go.ResultVar.tmp 4],rs:=[Ty.bool],ps:=[PK.v L8,PK.v L8],B9:=[(4,[(0,none),(1,none),(12,none),(13,none)])],nt:=26 }
theorem Jd:w7 DE:=x8 r7 trivial
theorem JR:C0 DE Tryz.f21:=⟨rfl,rfl⟩
theorem VK (x0:List (Int×yY×Unit)) (x1:List (Int×yY×Unit)):exec DE 1000 [.code (d8 Tryz.prog 21)] (s8 Dq.ps ((x0,x1,()))) =
  cond (decide ((↑(List.length x0):Int)≠(↑(List.length x1):Int))) (.ret ((false,()))) (.ctL (g9 (d8 Tryz.prog 21) 4) (St.mk [(0,AV.val L8 x0),(1,AV.val L8 x1),(12,AV.val e8 (↑(List.length x0):Int)),(13,AV.val e8 (0:Int))] [])):=by kernel_rfl
def Ps (v0:List (Int×yY×Unit)) (v1:List (Int×yY×Unit)) (v12:Int) (uZ:Int):St:=St.mk [(0,AV.val L8 v0),(1,AV.val L8 v1),(12,AV.val e8 v12),(13,AV.val e8 uZ)] []
theorem XH (v0:List (Int×yY×Unit)) (v1:List (Int×yY×Unit)) (v12:Int) (uZ:Int):exec DE 1000 (.code (g9 (d8 Tryz.prog 21) 4).1::.inLoop (g9 (d8 Tryz.prog 21) 4).1::(g9 (d8 Tryz.prog 21) 4).2) (Ps v0 v1 v12 uZ) =
  cond (decide (uZ<v12)) (.f7 ((0:Int)<=uZ/\uZ<(↑(List.length v0):Int)) (.f7 ((0:Int)<=uZ/\uZ<(↑(List.length v1):Int)) (cond (!W0 r8 (List.getD v0 (Int.toNat uZ) ((0:Int),[],())) (List.getD v1 (Int.toNat uZ) ((0:Int),[],()))) (.ret ((false,()))) (.f7 (r9 IntKind.i64 (uZ+(1:Int))) (.ctL (g9 (d8 Tryz.prog 21) 4) (St.mk [(0,AV.val L8 v0),(1,AV.val L8 v1),(12,AV.val e8 v12),(13,AV.val e8 (uZ+(1:Int)))] [])))))) (.ret ((true,()))):=by kernel_rfl
theorem Ts:Dq.Valid Tryz.prog 21:=by
  refine p9.n9 Jd rfl rfl Tryz.func21 (c:=d8 Tryz.prog 21) rfl rfl JR rfl ?_;rintro ⟨(l:List (u7)),(m:List (u7)),⟨⟩⟩ - ⟨⟨hl,-⟩,-⟩;have hl:l.length<=9223372036854775807:=hl;refine j7 (n:=1000) Jd JR ?_;refine i8 (VK l m) ?_;have fin:∀ {b:Bool},(b=true↔l=m)->((b,()):Bool×Unit)=(decide (l=m),()):=λ {b} h=>by
    cases b with
    | true=>rw [decide_eq_true (h.1 rfl)]
    | false=>rw [decide_eq_false (λ e=>by cases h.2 e)]
  simp only [j8,Tree.holds,sL];refine ⟨λ c=>fin ⟨λ h=>(by cases h),λ h=>absurd (congrArg (λ q:List (u7)=>(q.length:Int)) h) c⟩,λ c=>?_⟩;refine Reach.M8 Jd JR (λ i:Nat=>Ps l m (l.length:Int) (i:Int)) (λ i=>i<=l.length/\∀ j,j<i->l.getD j (0,[],())=m.getD j (0,[],()))
    (λ i=>l.length - i) 1000 (λ _=>⟨u6 rfl,u6 rfl⟩) ?_ 0 ⟨Nat.zero_le _,λ j hj=>by omega⟩
  rintro i ⟨k1,k2⟩ - ih;refine i8 (XH ..) ?_;have c:l.length=m.length:=by omega
  simp only [j8,Tree.holds,sL];refine ⟨λ d1=>⟨by omega,λ _=>⟨by omega,λ _=>⟨λ d2=>fin ⟨λ h=>(by cases h),λ h=>absurd (congrArg (λ q:List (u7)=>q.getD i (0,[],())) h) (c3Y d2)⟩,λ d2=>⟨by omega,λ _=>ih (i+1) ⟨by omega,λ j hj=>?_⟩ (by omega)⟩⟩⟩⟩,λ d1=>fin ⟨λ _=>eq_of_getD c (λ j hj=>k2 j (by omega)),λ _=>rfl⟩⟩;rcases Nat.lt_or_ge j i with h|h
  . exact k2 j h
  . obtain rfl:j=i:=by omega
    exact Qq.1 d2
noncomputable def vG:{ f:Int->List H2->Nat->wc // f=G7 }:=Classical.choice ⟨⟨G7,rfl⟩⟩
noncomputable def ym:{ f:Nat->f9->f9×Bool // f=J1 }:=Classical.choice ⟨⟨J1,rfl⟩⟩
def Vo (g:Int->List H2->Nat->wc):p9:={ ps:=[.v e8,.v (.d0 false vJ)],rs:=[.box true none w5,.d0 true (.d0 true .str),.d0 true e8,.bool],pre:=λ x=>(LE.le (α:=Int) 1 x.1/\LE.le (α:=Int) x.1 6)/\List.length (α:=H2) x.2.1<=1048576,fn:=λ x=>(some (g x.1 x.2.1 (List.length (α:=H2) x.2.1)).1,(g x.1 x.2.1 (List.length (α:=H2) x.2.1)).2.1,(g x.1 x.2.1 (List.length (α:=H2) x.2.1)).2.2,true,()),out:=λ _=>() }
noncomputable def BG:p9:={ ps:=[.v e8,.v (.d0 false vJ)],rs:=[.box true none w5,.d0 true (.d0 true .str),.d0 true e8,.bool],pre:=λ x=>(LE.le (α:=Int) 1 x.1/\LE.le (α:=Int) x.1 6)/\List.length (α:=H2) x.2.1<=1048576,fn:=λ x=>(some (vG.1 x.1 x.2.1 (List.length (α:=H2) x.2.1)).1,(vG.1 x.1 x.2.1 (List.length (α:=H2) x.2.1)).2.1,(vG.1 x.1 x.2.1 (List.length (α:=H2) x.2.1)).2.2,true,()),out:=λ _=>() }
theorem Ua:BG.Valid Tryz.prog 23:=by
  have e:BG=Ip:=(show BG=Vo vG.1 from rfl).trans (by rw [vG.2]; rfl);rw [e]; exact b4A
def Wq (g:Nat->f9->f9×Bool):p9:={ ps:=[.rw w5,.v e8],rs:=[.bool],pre:=λ x=>Fit x.2.1 x.1,fn:=λ x=>((g (Int.toNat x.2.1) x.1).2,()),out:=λ x=>((g (Int.toNat x.2.1) x.1).1,()) }
noncomputable def Em:p9:={ ps:=[.rw w5,.v e8],rs:=[.bool],pre:=λ x=>Fit x.2.1 x.1,fn:=λ x=>((ym.1 (Int.toNat x.2.1) x.1).2,()),out:=λ x=>((ym.1 (Int.toNat x.2.1) x.1).1,()) }
theorem b4H:Em.Valid Tryz.prog 16:=by
  have e:Em=JC:=(show Em=Wq ym.1 from rfl).trans (by rw [ym.2]; rfl);rw [e]; exact b2D
abbrev Y3:List H2:=List.set [((0:Int),(0:Int),(0:Int),([]:yY),())] (Int.toNat ((0:Nat):Int)) (1,1,0,[],())
def Im:p9:={ ps:=[],rs:=[.bool],pre:=λ _=>True,fn:=λ _=>(true,()),out:=λ _=>() }
noncomputable def Ch:Env:={ P:=Tryz.prog,tt:=tt,C7:=[(23,BG),(16,Em),(19,AO),(21,Dq)],res:=[Go.ResultVar.tmp 0],rs:=[Ty.bool],ps:=[],B9:=[(5,[(1,none),(2,some (Ty.d0 true (Ty.d0 true Ty.str))),(30,none)])],nt:=54 }
theorem La:w7 Ch:=x8 r7 ⟨Ua,b4H,KT,Ts,trivial⟩
theorem Lf:C0 Ch Tryz.f12:=⟨rfl,rfl⟩
theorem c2B:exec Ch 1000 [.code (d8 Tryz.prog 12)] (s8 Im.ps (())) =
  .f7 (((1:Int)<=(3:Int)/\(3:Int)<=(6:Int))/\List.length Y3<=1048576) (.f7 ((0:Int)<=(1:Int)/\(1:Int)<(↑(List.length (Prod.fst (Prod.snd (Subtype.val vG (3:Int) Y3 (List.length Y3))))):Int)) (cond (decide ((↑(List.length (List.getD (Prod.fst (Prod.snd (Subtype.val vG (3:Int) Y3 (List.length Y3)))) (Int.toNat (1:Int)) [])):Int)≠(1:Int))) (.ret ((false,()))) (.f7 (Fit (50:Int) (Prod.fst (Subtype.val vG (3:Int) Y3 (List.length Y3)))) (cond (!Prod.snd (Subtype.val ym (Int.toNat (50:Int)) (Prod.fst (Subtype.val vG (3:Int) Y3 (List.length Y3))))) (.ret ((false,()))) (.ctL (g9 (d8 Tryz.prog 12) 5) (St.mk [(1,AV.ptr 1011 []),(2,AV.at_ 1000002 []),(30,AV.val e8 (0:Int))] [(1011,i7.var w5 (Prod.fst (Subtype.val ym (Int.toNat (50:Int)) (Prod.fst (Subtype.val vG (3:Int) Y3 (List.length Y3)))))),(1000002,i7.own (Ty.d0 true (Ty.d0 true Ty.str)) (Prod.fst (Prod.snd (Subtype.val vG (3:Int) Y3 (List.length Y3)))))])))))):=by kernel_rfl
def Lb (v30:Int) (bW:Int) (bH:Int) (bQ:List o8) (bG:List yY) (bq:List yY) (eE:List (List yY)):St:=St.mk [(1,AV.ptr 1011 []),(2,AV.at_ 1000002 []),(30,AV.val e8 v30)] [(1011,i7.var w5 ((bW,bH,()),bQ,bG,bq,())),(1000002,i7.own (Ty.d0 true (Ty.d0 true Ty.str)) eE)]
theorem b8H (v30:Int) (bW:Int) (bH:Int) (bQ:List o8) (bG:List yY) (bq:List yY) (eE:List (List yY)):exec Ch 1000 (.code (g9 (d8 Tryz.prog 12) 5).1::.inLoop (g9 (d8 Tryz.prog 12) 5).1::(g9 (d8 Tryz.prog 12) 5).2) (Lb v30 bW bH bQ bG bq eE) =
  cond (decide (v30<(3:Int))) (.f7 (List.length bQ<=6/\List.length (L9 ((bW,bH,()),bQ,bG,bq,()) v30)<=5864062014805) (cond (decide (Prod.fst (Prod.snd (V0 ((bW,bH,()),bQ,bG,bq,()) v30))≠(0:Int))) (.ret ((false,()))) (.f7 ((0:Int)<=(1:Int)/\(1:Int)<(↑(List.length eE):Int)) (.f7 ((0:Int)<=(0:Int)/\(0:Int)<(↑(List.length (List.getD eE (Int.toNat (1:Int)) [])):Int)) (.f7 (True) (cond (!decide (Prod.fst (V0 ((bW,bH,()),bQ,bG,bq,()) v30)=List.set [((0:Int),[],())] (Int.toNat (↑0:Int)) ((1:Int),List.getD (List.getD eE (Int.toNat (1:Int)) []) (Int.toNat (0:Int)) [],()))) (.ret ((false,()))) (.f7 (r9 IntKind.i64 (v30+(1:Int))) (.ctL (g9 (d8 Tryz.prog 12) 5) (St.mk [(1,AV.ptr 1011 []),(2,AV.at_ 1000002 []),(30,AV.val e8 (v30+(1:Int)))] [(1011,i7.var w5 ((bW,bH,()),bQ,bG,bq,())),(1000002,i7.own (Ty.d0 true (Ty.d0 true Ty.str)) eE)]))))))))) (.ret ((true,()))):=by kernel_rfl
def a40:H2:=(1,1,0,[],())
theorem Vh:(G7 3 [a40] 1).2.1.length=3/\((G7 3 [a40] 1).2.1.getD 1 []).length=1/\(J1 50 (G7 3 [a40] 1).1).2=true:=by decide +kernel
theorem Vi:(List.range 3).all (λ p=>decide (V0 (J1 50 (G7 3 [a40] 1).1).1 (p:Int)=([(1,((G7 3 [a40] 1).2.1.getD 1 []).getD 0 [],())],0,())))=true:=by decide +kernel
theorem QG {said:Nat->List D6}:∀ (k:Nat) {c:Nat} {w:f9},Ok c said w->Ok (c+16*k) said (J1 k w).1
  | 0,_,_,h=>h
  | k+1,c,w,h=>by
    rw [J1]
    split
    . exact ⟨h.mem,h.sz.mono (by omega),h.inv⟩
    split
    . have:=h.Hn 0 1;exact ⟨this.mem,this.sz.mono (by omega),this.inv⟩
    . have:=QG k (h.Hn 0 1);rw [show c+16*(k+1)=c+16+16*k by omega];exact this
attribute [local irreducible] G7 J1 V0 in
theorem b4B:Im.Valid Tryz.prog 12:=by
  refine p9.n9 La rfl rfl Tryz.func12 (c:=d8 Tryz.prog 12) rfl rfl Lf rfl ?_;rintro ⟨⟩ - -
  refine j7 (n:=1000) La Lf ?_;refine i8 (c2B ) ?_;have hw:vG.1 3 Y3 (List.length Y3)=G7 3 [a40] 1:=by rw [vG.2]; rfl
  obtain ⟨s,hs⟩:∃ s,s=G7 3 [a40] 1:=⟨_,rfl⟩;obtain ⟨ha,hb,hc⟩:=Vh;have hd:=Vi;have aM:=(Eh (n:=3) (by decide) [a40] 1).ok;rw [hw];rw [<- hs] at ha hb hc hd aM ⊢;obtain ⟨u,hu⟩:∃ u,u=(J1 50 s.1).1:=⟨_,rfl⟩;have tw:ym.1 (Int.toNat 50) s.1=J1 50 s.1:=by rw [ym.2]; rfl
  have kK:=QG 50 aM;rw [tw];rw [<- hu] at kK hd;rw [<- hu];have mO:(s.2.1.length:Int)=3:=by omega
  have cQ:((s.2.1.getD (Int.toNat 1) []).length:Int)=1:=by show ((s.2.1.getD 1 []).length:Int)=1; omega
  simp only [j8,Tree.holds,mO,cQ,hc,sL];refine ⟨⟨by omega,by decide⟩,λ _=>⟨by omega,λ _=>⟨λ c=>absurd rfl c,λ _=>⟨⟨by decide,⟨_,_,aM,by decide⟩⟩,λ _=>⟨λ c=>absurd c (by decide),?_⟩⟩⟩⟩⟩;suffices go:Go.Ex.Reach Ch Tryz.f12 (true,()) () (.code (g9 (d8 Tryz.prog 12) 5).1::.inLoop (g9 (d8 Tryz.prog 12) 5).1::(g9 (d8 Tryz.prog 12) 5).2) (Lb ((0:Nat):Int) u.1.1 u.1.2.1 u.2.1 u.2.2.1 u.2.2.2.1 s.2.1) by exact go
  refine Reach.M8 La Lf (λ p:Nat=>Lb (p:Int) u.1.1 u.1.2.1 u.2.1 u.2.2.1 u.2.2.2.1 s.2.1) (λ p=>p<=3) (λ p=>3 - p) 1000 (λ _=>⟨u6 rfl,u6 rfl⟩) ?_ 0 (Nat.zero_le _);rintro p k1 - ih;have k1:p<=3:=k1;refine i8 (b8H ..) ?_;have e1:((p:Nat):Int)+1=((p+1:Nat):Int):=by omega
  have ih1:p<3->_:=λ h=>ih (p+1) (by show p+1<=3; omega) (by show 3 - (p+1)<3 - p; omega);have hv:p<3->V0 ((u.1.1,u.1.2.1,()),u.2.1,u.2.2.1,u.2.2.2.1,()) (p:Int)=([(1,(s.2.1.getD 1 []).getD 0 [],())],0,()):=λ h=>of_decide_eq_true (List.all_eq_true.1 hd p (List.mem_range.2 h));simp only [j8,Tree.holds,e1,sL];refine ⟨λ c=>⟨⟨kK.R5,Nat.le_trans (kK.sz.log p) (by omega)⟩,λ _=>⟨λ d=>?_,λ _=>⟨by omega,λ _=>⟨by omega,λ _=>⟨λ e=>?_,λ _=>⟨G5.2 ⟨by omega,by omega⟩,λ _=>ih1 (by omega)⟩⟩⟩⟩⟩⟩,λ c=>rfl⟩
  . rw [hv (by omega)] at d; exact absurd rfl d
  . rw [hv (by omega)] at e; exact absurd rfl e
theorem RE {α:Type} {f:α->Nat} (h:∀ x,1<=f x):∀ l:List α,l.length<=Y6 f l
  | []=>Nat.zero_le _
  | x::l=>by have h1:=h x; have h2:=RE h l; simp only [Y6,List.length_cons]; omega
theorem c36 {n:Int} {l:List H2} (hp:zW [e8,.d0 false vJ] (n,l,())<=1048576):l.length<=1048576:=by
  have h2:=RE (f:=Ty.V2 vJ) (λ x=>by show 1<=1+_; omega) l;have h1:Ty.V2 e8 n+((Y6 (Ty.V2 vJ) l+1)+0)<=1048576:=hp;omega
theorem Wt {w:f9} {p:Nat} (h:p<w.2.1.length):V0 w p=(L9 w p,0,()):=by
  unfold V0;exact if_neg (λ c=>Cr.2 ⟨by omega,by omega⟩ c)
end Go.Proofs.YtijlnmgondibnaaGreatDoor
namespace Go.Proofs.YtijlnmgondibnaaGreatDoor
open Go.Ex
set_option maxRecDepth 100000
structure VOk (w:f9):Prop where
  I8:S5 w.1=0
  mem:∀ i:Nat,i<8->X9 w.1.2.1 i=true->i<w.2.1.length
theorem c2Y {v:vR} (h:(0<=v.1/\v.1<=16777215)/\v.2.1≠0/\v.2.1<64):S5 v=0:=by
  unfold S5; rw [if_neg (by omega)]
theorem VOk.new {n:Int} (h:1<=n/\n<=6):VOk (xA n):=by
  have key:∀ k:Fin 7,1<=k.val->S5 (0,Bn ((k.val:Nat):Int),())=0/\∀ i:Fin 8,X9 (Bn ((k.val:Nat):Int)) i.val=true->i.val<k.val:=by decide +kernel
  obtain ⟨h1,h2⟩:=key ⟨n.toNat,by omega⟩ (by show 1<=n.toNat; omega);have e:((n.toNat:Nat):Int)=n:=by omega
  simp only [e] at h1 h2;refine ⟨h1,λ i hi hm=>?_⟩;have:=h2 ⟨i,hi⟩ hm;rw [show (xA n).2.1.length=n.toNat from List.length_replicate ..];exact this
theorem Vx {x:Int} (h:r9 .u8 x):bOr .u8 x 0=x:=by
  have key:∀ n:Fin 256,bOr .u8 ((n.val:Nat):Int) 0=((n.val:Nat):Int):=by decide +kernel
  have h:=u8_in.1 h;have:=key ⟨x.toNat,by omega⟩
  rwa [show ((x.toNat:Nat):Int)=x by omega] at this
theorem Yb {x:Int} (h:r9 .u8 x):T7 .u8 x 0=0/\T7 .u8 0 x=0:=by
  have key:∀ n:Fin 256,T7 .u8 ((n.val:Nat):Int) 0=0/\T7 .u8 0 ((n.val:Nat):Int)=0:=by decide +kernel
  have h:=u8_in.1 h;have:=key ⟨x.toNat,by omega⟩
  rwa [show ((x.toNat:Nat):Int)=x by omega] at this
theorem Zo {x:Int} (h:r9 .u8 x) (h6:bit x 6=false) (h7:bit x 7=false):x<64:=by
  have key:∀ n:Fin 256,bit ((n.val:Nat):Int) 6=false->bit ((n.val:Nat):Int) 7=false->((n.val:Nat):Int)<64:=by decide +kernel
  have h:=u8_in.1 h;have:=key ⟨x.toNat,by omega⟩;rw [show ((x.toNat:Nat):Int)=x by omega] at this;exact this h6 h7
section
variable {c:Nat} {said:Nat->List D6} {w:f9}
theorem b8q (h:Ok c said w) (hv:VOk w) (hn:¬ (R7 w).2.1≠0):(∃ p:Nat,p<w.2.1.length/\s7 w p=true)/\VOk (F3 w):=by
  have hf:=h.R5;obtain ⟨g1,g2⟩:=JG h.mem (show w.2.1.length<=8 by omega);obtain ⟨e1,e2,e3⟩:=QD hn;have bj:r9 .u8 w.1.2.1:=u8_in.2 h.mem;have gM:half (R6 .u8 w.1.2.1 (D7 w w.2.1.length)) w.1.2.1=true:=by
    unfold R7 R8 at hn;split at hn
    . rename_i c; exact absurd c hn
    split at hn
    . exact absurd (by decide) hn
    split at hn
    . exact absurd (by decide) hn
    split at hn
    . exact absurd (by decide) hn
    split at hn
    . exact absurd (by decide) hn
    . rename_i c; simpa using c
  have bC:R6 .u8 w.1.2.1 (D7 w w.2.1.length)≠0:=by
    intro e0;rw [e0] at gM;unfold half at gM;rw [(Yb bj).2] at gM;have h1:=of_decide_eq_true gM;have h2:=(OS w.1.2.1).1;have h3:vM 0=0:=by decide
    omega
  have eN:(F3 w).1=(w.1.1+1,bOr .u8 (R6 .u8 w.1.2.1 (D7 w w.2.1.length)) 0,()):=e1;rw [Vx AE] at eN;have hlen:(F3 w).2.1.length=w.2.1.length:=List.length_mapIdx ..;have jD:∀ i,bit (R6 .u8 w.1.2.1 (D7 w w.2.1.length)) i=(bit w.1.2.1 i && !bit (D7 w w.2.1.length) i):=λ i=>Sm u8s bj g1 i;have kx:∀ i,i<8->bit w.1.2.1 i=true->i<w.2.1.length:=λ i hi hb=>hv.mem i hi (by rw [As h.mem hi]; exact hb);constructor
  . by_cases hex:∃ p:Nat,p<w.2.1.length/\s7 w p=true
    . exact hex
    . exfalso;apply bC;refine (c2S (u8_in.1 AE).1).2 (λ i=>?_);by_cases hi:i<8
      . rw [jD i];cases hb:bit w.1.2.1 i with
        | false=>rfl
        | true =>
          have ke:=kx i hi hb;have ha:s7 w i=false:=by
            cases ha:s7 w i with
            | false=>rfl
            | true=>exact absurd ⟨i,ke,ha⟩ hex
          rw [g2 i hi,decide_eq_true ke,As h.mem hi,hb,ha]; rfl
      . exact Nv u8s AE (by show 8<=i; omega)
  . refine ⟨?_,λ i hi hm=>?_⟩
    . rw [eN];refine c2Y ⟨by show 0<=w.1.1+1/\w.1.1+1<=16777215; omega,bC,Zo AE ?_ ?_⟩
      . rw [jD];cases hb:bit w.1.2.1 6 with
        | false=>rfl
        | true=>have:=kx 6 (by decide) hb; omega
      . rw [jD];cases hb:bit w.1.2.1 7 with
        | false=>rfl
        | true=>have:=kx 7 (by decide) hb; omega
    . rw [hlen];rw [eN] at hm;rw [As (u8_in.1 AE) hi,jD,Bool.and_eq_true] at hm;exact kx i hi hm.1
theorem Ye (w:f9) (d:H2):(S3 w d).1.1=w.1\/(¬ (R7 w).2.1≠0/\(S3 w d).1=F3 w):=by
  unfold S3
  split
  . exact .inl (Ro _ _ _).view
  split
  . exact .inl (Tj _ _).view
  split
  . exact .inl (SW _ _ _).view
  split
  . left; unfold vS; split<;>rfl
  split
  . by_cases c:(R7 w).2.1≠0
    . rw [KR c]; exact .inl rfl
    . rw [Lj c]; exact .inr ⟨c,rfl⟩
  . exact .inl rfl
theorem VOk.S3 (h:Ok c said w) (hv:VOk w) (d:H2):VOk (S3 w d).1:=by
  have hl:=(EF h d).len;rcases Ye w d with e|⟨c,e⟩
  . exact ⟨by rw [e]; exact hv.I8,λ i hi hm=>by rw [hl]; rw [e] at hm; exact hv.mem i hi hm⟩
  . rw [e]; exact (b8q h hv c).2
end
end Go.Proofs.YtijlnmgondibnaaGreatDoor
namespace Go.Proofs.YtijlnmgondibnaaGreatDoor
open Go.Ex
set_option maxRecDepth 100000
attribute [local irreducible] Go.Ex.exec
theorem RP {α:Type} {f:α->α->Bool} (h:∀ x,f x x=true):∀ l:List α,W0.yM f l l=true
  | []=>rfl
  | x::l=>by simp [W0.yM,h x,RP h l]
theorem Zq {w:f9} {p:Nat} (h:p<w.2.1.length):wx w p=((R3 zeroV (T5 (L9 w p))).1,0,()):=by
  unfold wx;exact if_neg (λ c=>Cr.2 ⟨by omega,by omega⟩ c)
structure c98 (n:Int) (w u:f9) (fl:List Int) (B:List D5):Prop where
  num:u.1.1=w.1.1+1
  len:u.2.1.length=n.toNat
  some_:Hs u fl n.toNat≠[]
  log:∀ j:Nat,j<n.toNat->X9 u.1.2.1 j=true->¬ (j:Int)∈fl->L9 u j=B
  grow:∀ j:Nat,j<n.toNat->X9 u.1.2.1 j=true->¬ (j:Int)∈fl->(L9 w j).length<=B.length
def Ha:p9:={ ps:=[.v (.d0 false .str),.v (.d0 false .str)],rs:=[.bool],pre:=λ _=>True,fn:=λ x=>(decide ((show List yY from x.1)=(show List yY from x.2.1)),()),out:=λ _=>() }
noncomputable def DD:Env:={ P:=Tryz.prog,tt:=tt,C7:=[],res:=[Go.ResultVar.tmp 4],rs:=[Ty.bool],ps:=[PK.v (Ty.d0 false Ty.str),PK.v (Ty.d0 false Ty.str)],B9:=[(4,[(0,none),(1,none),(12,none),(13,none)])],nt:=26 }
theorem Jc:w7 DD:=x8 r7 trivial
theorem JQ:C0 DD Tryz.f22:=⟨rfl,rfl⟩
theorem VJ (x0:List yY) (x1:List yY):exec DD 1000 [.code (d8 Tryz.prog 22)] (s8 Ha.ps ((x0,x1,()))) =
  cond (decide ((↑(List.length x0):Int)≠(↑(List.length x1):Int))) (.ret ((false,()))) (.ctL (g9 (d8 Tryz.prog 22) 4) (St.mk [(0,AV.val (Ty.d0 false Ty.str) x0),(1,AV.val (Ty.d0 false Ty.str) x1),(12,AV.val e8 (↑(List.length x0):Int)),(13,AV.val e8 (0:Int))] [])):=by kernel_rfl
def Pr (v0:List yY) (v1:List yY) (v12:Int) (uZ:Int):St:=St.mk [(0,AV.val (Ty.d0 false Ty.str) v0),(1,AV.val (Ty.d0 false Ty.str) v1),(12,AV.val e8 v12),(13,AV.val e8 uZ)] []
theorem XG (v0:List yY) (v1:List yY) (v12:Int) (uZ:Int):exec DD 1000 (.code (g9 (d8 Tryz.prog 22) 4).1::.inLoop (g9 (d8 Tryz.prog 22) 4).1::(g9 (d8 Tryz.prog 22) 4).2) (Pr v0 v1 v12 uZ) =
  cond (decide (uZ<v12)) (.f7 ((0:Int)<=uZ/\uZ<(↑(List.length v0):Int)) (.f7 ((0:Int)<=uZ/\uZ<(↑(List.length v1):Int)) (cond (decide (List.getD v0 (Int.toNat uZ) []≠List.getD v1 (Int.toNat uZ) [])) (.ret ((false,()))) (.f7 (r9 IntKind.i64 (uZ+(1:Int))) (.ctL (g9 (d8 Tryz.prog 22) 4) (St.mk [(0,AV.val (Ty.d0 false Ty.str) v0),(1,AV.val (Ty.d0 false Ty.str) v1),(12,AV.val e8 v12),(13,AV.val e8 (uZ+(1:Int)))] [])))))) (.ret ((true,()))):=by kernel_rfl
theorem b8t:Ha.Valid Tryz.prog 22:=by
  refine p9.n9 Jc rfl rfl Tryz.func22 (c:=d8 Tryz.prog 22) rfl rfl JQ rfl ?_;rintro ⟨(l:List yY),(m:List yY),⟨⟩⟩ - ⟨⟨hl,-⟩,-⟩;have hl:l.length<=9223372036854775807:=hl;refine j7 (n:=1000) Jc JQ ?_;refine i8 (VJ l m) ?_;have fin:∀ {b:Bool},(b=true↔l=m)->((b,()):Bool×Unit)=(decide (l=m),()):=λ {b} h=>by
    cases b with
    | true=>rw [decide_eq_true (h.1 rfl)]
    | false=>rw [decide_eq_false (λ e=>by cases h.2 e)]
  simp only [j8,Tree.holds,sL];refine ⟨λ c=>fin ⟨λ h=>(by cases h),λ h=>absurd (congrArg (λ q:List yY=>(q.length:Int)) h) c⟩,λ c=>?_⟩;refine Reach.M8 Jc JQ (λ i:Nat=>Pr l m (l.length:Int) (i:Int)) (λ i=>i<=l.length/\∀ j,j<i->l.getD j []=m.getD j [])
    (λ i=>l.length - i) 1000 (λ _=>⟨u6 rfl,u6 rfl⟩) ?_ 0 ⟨Nat.zero_le _,λ j hj=>by omega⟩
  rintro i ⟨k1,k2⟩ - ih;refine i8 (XG ..) ?_;have c:l.length=m.length:=by omega
  simp only [j8,Tree.holds,sL];refine ⟨λ d1=>⟨by omega,λ _=>⟨by omega,λ _=>⟨λ d2=>fin ⟨λ h=>(by cases h),λ h=>absurd (congrArg (λ q:List yY=>q.getD i []) h) (d2)⟩,λ d2=>⟨by omega,λ _=>ih (i+1) ⟨by omega,λ j hj=>?_⟩ (by omega)⟩⟩⟩⟩,λ d1=>fin ⟨λ _=>eq_of_getD c (λ j hj=>k2 j (by omega)),λ _=>rfl⟩⟩;rcases Nat.lt_or_ge j i with h|h
  . exact k2 j h
  . obtain rfl:j=i:=by omega
    exact Decidable.not_not.1 d2
def Mi:p9:=DR r8
theorem c1i:Mi.Valid Tryz.prog 33:=by
  refine b5f (S:=33) (I:=3) (T:=40) (e:=Mb (d8 Tryz.prog 33) [3,5,6,7,8,0,9,10,11,12,13,4,14,15,16,17,19,18,20]) (by kernel_rfl) (by kernel_rfl) (by kernel_rfl) Tryz.func33 (by kernel_rfl) rfl rfl rfl
def Mj:p9:=DR .str
theorem c1h:Mj.Valid Tryz.prog 34:=by
  refine b7M (S:=22) (I:=3) (T:=9) (e:=Mb (d8 Tryz.prog 34) [5,6,7,8,0,9,10,11,12,13,4,14,15,16,17,19,18,20]) (by kernel_rfl) (by kernel_rfl) (by kernel_rfl) Tryz.func34 (by kernel_rfl) rfl rfl rfl
def RF:p9:=MY [e8,.d0 false vJ]
noncomputable def Bb:Env:={ P:=Tryz.prog,tt:=tt,C7:=[(12,Im),(13,FR),(23,BG),(19,AO),(20,GG),(30,Du),(31,zJ),(32,AU),(33,Mi),(34,Mj),(21,Dq),(22,Ha)],res:=[Go.ResultVar.tmp 4],rs:=[Ty.bool],ps:=[PK.v e8,PK.v (Ty.d0 false vJ)],B9:=[(8,[(5,none),(38,none),(39,none)])],nt:=103 }
theorem Je:w7 Bb:=x8 r7 ⟨b4B,c1F,Ua,KT,b8m,b79,Fa,KU,c1i,c1h,Ts,b8t,trivial⟩
theorem JS:C0 Bb Tryz.f8:=⟨rfl,rfl⟩
theorem VM (x0:Int) (x1:List (Int×Int×Int×yY×Unit)):exec Bb 1000 [.code (d8 Tryz.prog 8)] (s8 RF.ps ((x0,x1,()))) =
  .f7 (True) (.f7 (True) (.f7 (((1:Int)<=R5 x0/\R5 x0<=(6:Int))/\List.length x1<=1048576) (.ctL (g9 (d8 Tryz.prog 8) 8) (St.mk [(5,AV.ptr 1031 []),(38,AV.val e8 (R5 x0)),(39,AV.val e8 (0:Int))] [(1031,i7.var w5 (Prod.fst (Subtype.val vG (R5 x0) x1 (List.length x1))))])))):=by kernel_rfl
def Jf (AJ:Int) (vf:Int) (aR:Int) (aK:Int) (aJ:List o8) (aI:List yY) (aC:List yY):St:=St.mk [(5,AV.ptr 1031 []),(38,AV.val e8 AJ),(39,AV.val e8 vf)] [(1031,i7.var w5 ((aR,aK,()),aJ,aI,aC,()))]
theorem XK (AJ:Int) (vf:Int) (aR:Int) (aK:Int) (aJ:List o8) (aI:List yY) (aC:List yY):exec Bb 1000 (.code (g9 (d8 Tryz.prog 8) 8).1::.inLoop (g9 (d8 Tryz.prog 8) 8).1::(g9 (d8 Tryz.prog 8) 8).2) (Jf AJ vf aR aK aJ aI aC) =
  cond (decide (vf<AJ)) (.f7 (List.length aJ<=6/\List.length (L9 ((aR,aK,()),aJ,aI,aC,()) vf)<=5864062014805) (.f7 (List.length aJ<=6/\List.length (Prod.fst (Prod.snd (P6 ((aR,aK,()),aJ,aI,aC,()) vf)))<=1048576) (.f7 (List.length aJ<=6/\List.length (L9 ((aR,aK,()),aJ,aI,aC,()) vf)<=5864062014805/\∀ (s:D5),s∈L9 ((aR,aK,()),aJ,aI,aC,()) vf->List.length (Prod.fst (Prod.snd s))<=4294967280) (.f7 (List.length (Prod.fst (V0 ((aR,aK,()),aJ,aI,aC,()) vf))<=5864062014805) (.f7 (List.length (Prod.fst (xk ((aR,aK,()),aJ,aI,aC,()) vf))<=1048576) (.f7 (True) (.f7 (True) (.f7 (List.length aJ<=6/\List.length (L9 ((aR,aK,()),aJ,aI,aC,()) vf)<=5864062014805) (.f7 (List.length aJ<=6/\List.length (Prod.fst (Prod.snd (P6 ((aR,aK,()),aJ,aI,aC,()) vf)))<=1048576) (.f7 (List.length aJ<=6/\List.length (L9 ((aR,aK,()),aJ,aI,aC,()) vf)<=5864062014805/\∀ (s:D5),s∈L9 ((aR,aK,()),aJ,aI,aC,()) vf->List.length (Prod.fst (Prod.snd s))<=4294967280) (.f7 (True) (cond (!decide (Prod.fst (V0 ((aR,aK,()),aJ,aI,aC,()) vf)=Prod.fst (V0 ((aR,aK,()),aJ,aI,aC,()) vf))) (.ret ((false,()))) (.f7 (True) (cond (!decide (Prod.fst (xk ((aR,aK,()),aJ,aI,aC,()) vf)=Prod.fst (xk ((aR,aK,()),aJ,aI,aC,()) vf))) (.ret ((false,()))) (cond (!W0 (Ty.arr 10 e8) (Prod.fst (wx ((aR,aK,()),aJ,aI,aC,()) vf)) (Prod.fst (wx ((aR,aK,()),aJ,aI,aC,()) vf))) (.ret ((false,()))) (.f7 (r9 IntKind.i64 (vf+(1:Int))) (.ctL (g9 (d8 Tryz.prog 8) 8) (St.mk [(5,AV.ptr 1031 []),(38,AV.val e8 AJ),(39,AV.val e8 (vf+(1:Int)))] [(1031,i7.var w5 ((aR,aK,()),aJ,aI,aC,()))])))))))))))))))))) (.ret ((true,()))):=by kernel_rfl
theorem Yp {w:f9} {p:Nat} (h:p<w.2.1.length):xk w p=((P6 w p).2.1,0,()):=by
  unfold xk;exact if_neg (λ c=>Cr.2 ⟨by omega,by omega⟩ c)
attribute [local irreducible] G7 V0 xk wx in
theorem b1o:RF.Valid Tryz.prog 8:=by
  refine p9.n9 Je rfl rfl Tryz.func8 (c:=d8 Tryz.prog 8) rfl rfl JS rfl ?_;rintro ⟨(n0:Int),(l:List H2),⟨⟩⟩ hs -
  have hl:l.length<=1048576:=c36 hs;refine j7 (n:=1000) Je JS ?_;refine i8 (VM n0 l) ?_;have hn:=Nh n0;obtain ⟨n,mD⟩:∃ n,n=R5 n0:=⟨_,rfl⟩;rw [<- mD] at hn ⊢;have hW:=Eh hn l l.length;rw [vG.2];generalize G7 n l l.length=s at hW ⊢;obtain ⟨w,sd,fl⟩:=s;have hlen:=hW.len;have aM:=hW.ok;simp only at hlen aM;simp only [j8,Tree.holds,sL];refine ⟨⟨hn,hl⟩,λ _=>?_⟩;suffices go:Go.Ex.Reach Bb Tryz.f8 (true,()) () (.code (g9 (d8 Tryz.prog 8) 8).1::.inLoop (g9 (d8 Tryz.prog 8) 8).1::(g9 (d8 Tryz.prog 8) 8).2) (Jf n ((0:Nat):Int) w.1.1 w.1.2.1 w.2.1 w.2.2.1 w.2.2.2.1) by exact go
  refine Reach.M8 Je JS (λ i:Nat=>Jf n (i:Int) w.1.1 w.1.2.1 w.2.1 w.2.2.1 w.2.2.2.1) (λ i=>i<=n.toNat) (λ i=>n.toNat - i) 1000 (λ _=>⟨u6 rfl,u6 rfl⟩) ?_ 0 (Nat.zero_le _);rintro i k1 - ih;have k1:i<=n.toNat:=k1;refine i8 (XK ..) ?_;have e1:((i:Nat):Int)+1=((i+1:Nat):Int):=by omega
  by_cases hi:i<n.toNat
  . have lp:V0 ((w.1.1,w.1.2.1,()),w.2.1,w.2.2.1,w.2.2.2.1,()) (i:Int)=(L9 w i,0,()):=Wt (w:=w) (by omega);have ap:xk ((w.1.1,w.1.2.1,()),w.2.1,w.2.2.1,w.2.2.2.1,()) (i:Int)=((P6 w i).2.1,0,()):=Yp (w:=w) (by omega);have vp:wx ((w.1.1,w.1.2.1,()),w.2.1,w.2.2.1,w.2.2.2.1,()) (i:Int)=((R3 zeroV (T5 (L9 w i))).1,0,()):=Zq (w:=w) (by omega);have heq:W0 (Ty.arr 10 e8) (R3 zeroV (T5 (L9 w i))).1 (R3 zeroV (T5 (L9 w i))).1=true:=RP (f:=W0 e8) (λ x=>decide_eq_true rfl) (R3 zeroV (T5 (L9 w i))).1;have h1:w.2.1.length<=6/\(L9 w (i:Int)).length<=5864062014805:=⟨aM.R5,Nat.le_trans (aM.sz.log i) (by omega)⟩;have h2:w.2.1.length<=6/\(P6 w (i:Int)).2.1.length<=1048576:=⟨aM.R5,Nat.le_trans (aM.sz.late i) (by omega)⟩;have h3:w.2.1.length<=6/\(L9 w (i:Int)).length<=5864062014805/\∀ s∈L9 w (i:Int),s.2.1.length<=4294967280:=⟨h1.1,h1.2,λ s hs=>Nat.le_trans (aM.sz.txt i s hs) (by omega)⟩;simp only [j8,Tree.holds,e1,lp,ap,vp,heq,sL];refine ⟨λ _=>⟨h1,λ _=>⟨h2,λ _=>⟨h3,λ _=>⟨h1.2,λ _=>⟨h2.2,λ _=>⟨h1,λ _=>⟨h2,λ _=>⟨h3,λ _=>⟨λ e=>absurd trivial e,⟨λ e=>absurd trivial e,⟨λ e=>absurd e (by decide),⟨⟨by omega,by omega⟩,λ _=>ih (i+1) (by show i+1<=n.toNat; omega) (by show n.toNat - (i+1)<n.toNat - i; omega)⟩⟩⟩⟩⟩⟩⟩⟩⟩⟩⟩⟩,λ c=>absurd (by omega) c⟩
  . obtain rfl:i=n.toNat:=by omega
    simp only [j8,Tree.holds,e1,sL];exact ⟨λ c=>absurd c (by omega),λ _=>rfl⟩
end Go.Proofs.YtijlnmgondibnaaGreatDoor
