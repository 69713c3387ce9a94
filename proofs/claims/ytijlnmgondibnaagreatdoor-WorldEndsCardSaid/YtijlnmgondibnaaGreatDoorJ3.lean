import Derived.Test.YtijlnmgondibnaaGreatDoorJ2
import Derived.Test.YtijlnmgondibnaaGreatDoorJ1
set_option linter.unusedVariables false
set_option linter.unusedSimpArgs false
set_option linter.unusedSectionVars false
namespace Go.Proofs.YtijlnmgondibnaaGreatDoor
open Go.Ex
set_option maxRecDepth 100000
theorem Rf {b:Int} {l:List u7} (h1:0<=b/\b<=16777215) (h2:l.length<=16) (h3:l.any F3=false):J4 (b,l,())=0:=by
  unfold J4;rw [if_neg (by rw [yp.2 h1]; decide),if_neg (by show ¬ (16:Int)<(l.length:Int); omega),if_neg (by rw [h3]; decide)]
theorem Qb {l:List u7} {k:Nat} (h:l.any F3=false):(l.drop k).any F3=false:=by
  rw [List.any_eq_false] at h ⊢;exact λ x hx=>h x (aDx hx)
theorem Xj {k:Nat} {l:List u7} (h:J4 ((k:Int),l,())=0) (hl:1<=l.length) (hb:k+l.length<=16777215) :
    T7 ((k:Int),l,()) ((k:Int)+1)=((((k+1:Nat):Int),l.drop 1,()),0,())/\J4 (((k+1:Nat):Int),l.drop 1,())=0:=by
  have aH:=yA h;have ha:ahd (k:Int) ((k:Int)+1)=1:=by unfold ahd; rw [if_neg (by omega)]; omega
  constructor
  . unfold T7;rw [if_neg (by rw [h]; decide),if_neg (by show ¬ (k:Int)+(l.length:Int)<(k:Int)+1; omega)];simp only;rw [ha];rfl
  . exact Rf ⟨by omega,by omega⟩ (by rw [aAo]; have:=aH.2.1; simp only at this; omega) (Qb aH.2.2)
section
variable {said:Nat->List u7} {B:List C7} {S:Nat->List u7} {Q:List V9} {w:d9}
structure BH (B:List C7) (S:Nat->List u7) (Q:List V9) (p m:Nat) (x:o5):Prop where
  log:x.2.1=B++(Q.take m).map wZ
  from_:x.2.2.1=(((C9 p (Q.take m)).length:Int),(S p).drop (C9 p (Q.take m)).length,())
  ok:J4 x.2.2.1=0
theorem c1D {p m q:Nat} {x:o5} {s:u7} (h:BH B S Q p m x) (hQ:Q[m]?=some (q,s)) (hq:q<=5) (bc:∀ p,C9 p Q <+: S p) (cj:∀ p,(S p).length<=16777215) :
    BH B S Q p (m+1) (Y0 p x (G9 q (C9 q (Q.take m)).length s))/\(Y0 p x (G9 q (C9 q (Q.take m)).length s)).2.2.2=x.2.2.2/\(Y0 p x (G9 q (C9 q (Q.take m)).length s)).1=x.1:=by
  have hm:m<Q.length:=by
    by_cases hm:m<Q.length
    . exact hm
    . rw [aCd (by omega)] at hQ; cases hQ
  have eL:Q.take (m+1)=Q.take m++[(q,s)]:=by
    rw [aGd,hQ]; rfl
  have fG:∀ p,(C9 p (Q.take (m+1))).length<=(S p).length:=λ p=>((zo (p:=p) (Q:=Q) (i:=m+1)).trans (bc p)).length_le;have hk:(C9 q (Q.take m)).length<=16777300:=by
    have h1:=((zo (p:=q) (Q:=Q) (i:=m)).trans (bc q)).length_le;have:=cj q;omega
  have hw:who (G9 q (C9 q (Q.take m)).length s)=q:=Zh hq;have hn:nth (G9 q (C9 q (Q.take m)).length s)=(C9 q (Q.take m)).length:=QO hk;have ht:xJ (G9 q (C9 q (Q.take m)).length s)=s:=c3H;have nu:x.2.1++[((q:Int),s,())]=B++(Q.take (m+1)).map wZ:=by
    rw [h.log,eL,aCw,aAj]; rfl
  by_cases e:q=p
  . subst e;have hc:=fG q;rw [eL,zf] at hc;have h1:C9 q [(q,s)]=[s]:=by simp [C9]
    rw [h1,aAd] at hc;simp only [aBn] at hc;have aH:=h.ok;rw [h.from_] at aH;obtain ⟨g1,g2⟩:=Xj aH (by rw [aAo]; omega) (by rw [aAo]; have:=cj q; omega);have hl:T7 x.2.2.1 (nth (G9 q (C9 q (Q.take m)).length s)+1)=(((((C9 q (Q.take m)).length+1:Nat):Int),((S q).drop (C9 q (Q.take m)).length).drop 1,()),0,()):=by
      rw [h.from_,hn]; exact g1
    rw [KU hw (by rw [hl]),hl,hw,ht];refine ⟨⟨nu,?_,g2⟩,rfl,rfl⟩;show (((((C9 q (Q.take m)).length+1:Nat):Int),((S q).drop (C9 q (Q.take m)).length).drop 1,()):FrD)=_;rw [eL,zf,h1,aAd,aBm]; rfl
  . rw [Fl (λ c=>e (by have:=c.1; rw [hw] at this; exact_mod_cast this)),hw,ht];refine ⟨⟨nu,?_,h.ok⟩,rfl,rfl⟩;have h1:C9 p [(q,s)]=[]:=by simp [C9,e]
    rw [eL,zf,h1,aAv];exact h.from_
theorem RL {p m:Nat} {x:o5} {l:List u7} (h:BH B S Q p m x) (hl:∀ i,i<l.length->(R8 Q)[m+i]?=l[i]?) (hq:∀ y∈Q,y.1<=5) (bc:∀ p,C9 p Q <+: S p) (cj:∀ p,(S p).length<=16777215) :
    ∀ {i},i<=l.length->BH B S Q p (m+i) (M4 p x l i)/\(M4 p x l i).2.2.2=x.2.2.2/\(M4 p x l i).1=x.1
  | 0,_=>⟨h,rfl,rfl⟩
  | i+1,hi=>by
    obtain ⟨g1,g2,g3⟩:=RL h hl hq bc cj (show i<=l.length by omega);have h1:=hl i (by omega);rw [So,aAf (show i<l.length by omega)] at h1;cases hQ:Q[m+i]? with
    | none=>rw [hQ] at h1; cases h1
    | some y =>
      obtain ⟨q,s⟩:=y;rw [hQ] at h1;have h2:G9 q (C9 q (Q.take (m+i))).length s=l[i]:=by simpa using h1
      have hy:=hq (q,s) (aDy hQ);obtain ⟨k1,k2,k3⟩:=c1D (p:=p) g1 hQ hy bc cj;rw [M4,show l.getD i []=G9 q (C9 q (Q.take (m+i))).length s by rw [h2,aAb,aAf (show i<l.length by omega)]; rfl];exact ⟨k1,k2.trans g2,k3.trans g3⟩
theorem Inv.le5 (h:Inv said B S Q w):∀ y∈Q,y.1<=5:=λ y hy=>by have:=h.inQ y hy; have:=h.H8; omega
theorem Inv.take (h:Inv said B S Q w) {n:n8} {p:Nat} (hp:n.2.2.1=p) (bV:p<w.2.1.length) (hv:R5 w.1.2.1 p=true) (hm:w.2.2.1[n.2.2.2.2.1.toNat]?=some n.2.2.2.2.2.2.1) :
    Inv said B S Q (U4 w n):=by
  by_cases he:(N9 w n).2.2.1≠0
  . rw [U4,if_pos he]; exact h
  rw [U4,if_neg he,hp];have iM:N9 w n=E6 (w.2.1.getD p g8).2.2.2.1 (n.2.2.2.2.1,n.2.2.2.2.2.2.1,()):=by rw [N9,hp]; rfl
  rw [iM] at he ⊢;have lL:=aBt.1 he;obtain ⟨⟨m,hM⟩,eN⟩:=h.mem p bV hv;rw [h.ord] at hm;obtain ⟨a1,a2,a3,a4,a5,a6⟩:=Ad lL;have fe:=RP (F:=λ i=>(R8 Q)[i]?) lL hM.wait hm;obtain ⟨r,hr⟩:∃ r,r=E6 (w.2.1.getD p g8).2.2.2.1 (n.2.2.2.2.1,n.2.2.2.2.2.2.1,()):=⟨_,rfl⟩;rw [<- hr] at lL a1 a2 a3 a5 a6 fe ⊢;have ku:=hM.next;have fe:∀ i,i<r.2.1.length->(R8 Q)[m+i]?=r.2.1[i]?:=λ i hi=>by
    have:=fe i hi;rw [ku] at this;exact this
  have hH:BH B S Q p m (xq (D3 w (p:Int)) r.1):=⟨hM.log,hM.from_,hM.ok⟩;obtain ⟨k1,k2,k3⟩:=RL hH fe h.le5 h.xI h.short (aAk _);refine h.F1 (p:=p) (λ _=>?_) (λ _ _=>⟨m+r.2.1.length,?_⟩)
  . rw [k2];exact h.rcv p bV
  . refine ⟨?_,?_,?_,k1.log,k1.from_,k1.ok⟩
    . rcases Nat.eq_zero_or_pos r.2.1.length with h0|h0
      . rw [h0]; exact hM.le
      . have h1:=fe (r.2.1.length - 1) (by omega);rw [aAf (show r.2.1.length - 1<r.2.1.length by omega)] at h1;have h2:m+(r.2.1.length - 1)<(R8 Q).length:=by
          by_cases h2:m+(r.2.1.length - 1)<(R8 Q).length
          . exact h2
          . rw [aCd (by omega)] at h1; cases h1
        rw [Sp] at h2;omega
    . rw [k2];show r.1.1=_;rw [a5,ku]; omega
    . rw [k2];intro x hx;rcases a2 x hx with rfl|hx
      . exact hm
      . exact hM.wait x hx
theorem Inv.ER (h:Inv said B S Q w) {n:n8} (h0:0<=n.2.2.2.2.1) (hm:yP S w.2.2.1 n) (ha:j8 w n.2.2.1=true):∃ Q',Inv said B S Q' (C3 w n):=by
  by_cases hk:known w n.2.1≠0
  . exact ⟨Q,by rw [Uj hk]; exact h⟩
  by_cases c1:n.1=1
  . rw [UD hk c1]; exact h.order hk (hm.1 c1)
  by_cases c3:n.1=3
  . refine ⟨Q,?_⟩;rw [UC hk c3]; exact h.Ig (h.asks h0 4)
  by_cases c2:n.1=2
  . refine ⟨Q,?_⟩;rw [Vc hk c2];obtain ⟨p,hp,bV,hv,-⟩:=zp.1 ha;exact h.take hp bV hv (hm.2 c2)
  . exact ⟨Q,by rw [Vb c1 c3 c2]; exact h⟩
theorem QV {s:u7} (h:(y6 s).2.1=0):0<=(y6 s).1.2.2.2.2.1/\(y6 s).1.2.2.2.2.1<=16777215:=(Dc (Pt h).1).seq
theorem Inv.VO (h:Inv said B S Q w) {bC:Int} {s:u7} (hs:AD S w.2.2.1 w.1.1 s):∃ Q',Inv said B S Q' (O7 w bC s):=by
  by_cases c:bC=1/\(y6 s).2.1=0/\(y6 s).1.2.2.2.1=w.1.1/\j8 w (y6 s).1.2.2.1=true
  . rw [LO c];exact h.ER (QV c.2.1).1 ((hs c.2.1).2 c.2.2.1) c.2.2.2
  . exact ⟨Q,by rw [La c]; exact h⟩
theorem Inv.move (h:Inv said B S Q w) (k bC:Int):∃ Q',Inv said B S Q' (w8 w k bC).1:=by
  by_cases c1:I4 bC 1 3=false
  . exact ⟨Q,by rw [RQ c1]; exact h⟩
  by_cases c2:I4 k 0 ((w.2.2.2.1.length:Int) - 1)=false
  . exact ⟨Q,by rw [TY c1 c2]; exact h⟩
  have hk:=N5.1 (aEn _▸c2:I4 k 0 ((w.2.2.2.1.length:Int) - 1)=true);by_cases c3:bC=3
  . by_cases c4:(w.2.2.2.1.length:Int)=60
    . exact ⟨Q,by rw [TX c1 c2 c3 c4]; exact h⟩
    . refine ⟨Q,?_⟩;rw [Mg c1 c2 c3 c4];exact h.copy (by omega) c4
  . rw [CV c1 c2 c3];refine (h.drop k).VO ?_;refine h.msg _ ?_;rw [aAb,aAf (by omega)]; exact aCn _
end
end Go.Proofs.YtijlnmgondibnaaGreatDoor
namespace Go.Proofs.YtijlnmgondibnaaGreatDoor
open Go.Ex
set_option maxRecDepth 100000
theorem Bg {x:Int} (h:0<=x/\x<=255) {p:Nat} (hp:p<8):R5 x p=bit x p:=by
  have key:∀ n:Fin 256,∀ i:Fin 8,R5 ((n.val:Nat):Int) i.val=bit ((n.val:Nat):Int) i.val:=by decide +kernel
  have:=key ⟨x.toNat,by omega⟩ ⟨p,hp⟩;simpa [show ((x.toNat:Nat):Int)=x by omega] using this
theorem XV {k i:Nat} (hk:k<8) (hi:i<8):bit (IntKind.wrap .u8 (1*2^min ((k:Nat):Int).toNat IntKind.u8.bits)) i=decide (i=k):=by
  have key:∀ k:Fin 8,∀ i:Fin 8,bit (IntKind.wrap .u8 (1*2^min ((k.val:Nat):Int).toNat IntKind.u8.bits)) i.val=decide (i.val=k.val):=by decide +kernel
  exact key ⟨k,hk⟩ ⟨i,hi⟩
theorem RA (i:Nat):bit 0 i=false:=by
  show (0:Nat).testBit i=false;simp
theorem Kv {w:d9} (hv:0<=w.1.2.1/\w.1.2.1<=255):∀ {k:Nat},k<=8->w4 .u8 (E7 w k)/\∀ i,i<8->bit (E7 w k) i=(decide (i<k) && R5 w.1.2.1 i && !j8 w i)
  | 0,_=>⟨u8_in.2 ⟨aDo 0,by show (0:Int)<=255; decide⟩,λ i _=>by
      show bit 0 i=_;rw [RA]; simp⟩
  | k+1,hk=>by
    obtain ⟨h1,h2⟩:=Kv hv (show k<=8 by omega);rw [E7,Rg];by_cases a:j8 w k=true
    . rw [if_pos a];refine ⟨h1,λ i hi=>?_⟩;rw [h2 i hi];by_cases e:i=k
      . subst e;rw [a]; simp
      . rw [show decide (i<k+1)=decide (i<k) by by_cases c:i<k<;>simp [c]<;>omega]
    . rw [if_neg a];refine ⟨HO,λ i hi=>?_⟩;rw [NU u8s h1 Oh,OC u8s (u8_in.2 hv) (V7 _ _),XV (by omega) hi,h2 i hi,<- Bg hv hi];by_cases e:i=k
      . subst e;have a':j8 w i=false:=by simpa using a
        rw [a']; simp
      . rw [show decide (i<k+1)=decide (i<k) by by_cases c:i<k<;>simp [c]<;>omega];simp [e]
theorem JS {v:vX} {g:Int} (h:¬ (T9 v g 0).2.1≠0):(T9 v g 0).1=(v.1+1,bOr .u8 (T8 .u8 v.2.1 g) 0,())/\v.1<16777215/\0<=v.1:=by
  unfold T9 at h ⊢;by_cases c1:R3 v≠0
  . rw [if_pos c1] at h; exact absurd c1 h
  rw [if_neg c1] at h ⊢;split at h
  . exact absurd (by decide) h
  rename_i c2;rw [if_neg c2];split at h
  . exact absurd (by decide) h
  rename_i c3;rw [if_neg c3];split at h
  . exact absurd (by decide) h
  rename_i c4;rw [if_neg c4];split at h
  . exact absurd (by decide) h
  rename_i c5;rw [if_neg c5];refine ⟨rfl,?_⟩;unfold R3 at c1;split at c1
  . exact absurd (by decide) c1
  . rename_i c6;omega
theorem members {w:d9} (hf:w.2.1.length<=6) (hv:0<=w.1.2.1/\w.1.2.1<=255) (hn:¬ (P7 w).2.1≠0) :
    (C0 w).1.1=w.1.1+1/\(0<=(C0 w).1.2.1/\(C0 w).1.2.1<=255)/\∀ p,p<w.2.1.length->R5 (C0 w).1.2.1 p=j8 w p:=by
  obtain ⟨h1,h2⟩:=JS hn;have he:(C0 w).1=(w.1.1+1,bOr .u8 (T8 .u8 w.1.2.1 (E7 w w.2.1.length)) 0,()):=h1;obtain ⟨g1,g2⟩:=Kv hv (show w.2.1.length<=8 by omega);rw [he];refine ⟨rfl,u8_in.1 HO,λ p hp=>?_⟩;have z0:w4 .u8 (0:Int):=u8_in.2 ⟨by decide,by decide⟩;show R5 (bOr .u8 (T8 .u8 w.1.2.1 (E7 w w.2.1.length)) 0) p=j8 w p;rw [Bg (u8_in.1 HO) (by omega),NU u8s AY z0,Tb u8s (u8_in.2 hv) g1,g2 p (by omega),RA,<- Bg hv (by omega),decide_eq_true hp];cases hm:R5 w.1.2.1 p with
  | true=>simp
  | false =>
    have:j8 w p=false:=by
      cases ha:j8 w p with
      | false=>rfl
      | true=>have:=(K4.1 ha).2.1; rw [hm] at this; cases this
    rw [this]; rfl
theorem KZ {w:d9}:∀ {k:Nat},J7 w k=[]\/∃ i,i<k/\j8 w i=true/\J7 w k=(w.2.1.getD i g8).2.1
  | 0=>.inl rfl
  | k+1=>by
    rw [J7]
    split
    . rename_i h; exact .inr ⟨k,by omega,h.1,rfl⟩
    . rcases KZ (w:=w) (k:=k) with h|⟨i,h1,h2,h3⟩
      . exact .inl h
      . exact .inr ⟨i,by omega,h2,h3⟩
theorem Mv {f:Nat->o5->o5} {l:List o5} {p:Nat} (hp:p<l.length):(l.mapIdx f).getD p g8=f p (l.getD p g8):=by
  rw [aAb,aHr,aAb,aAf hp]; rfl
theorem ZS {α:Type} {l:List α} {c:Nat}:l.drop (min c l.length)=l.drop c:=by
  by_cases h:c<=l.length
  . rw [aCb h]
  . rw [Nat.min_eq_right (by omega),aGl,aDs (by omega)]
section
variable {said:Nat->List u7} {B:List C7} {S:Nat->List u7} {Q:List V9} {w:d9}
theorem Inv.long (h:Inv said B S Q w) {p0:Nat} (kr:p0<w.2.1.length) (oL:j8 w p0=true) :
    ∃ m,m<=Q.length/\J7 w w.2.1.length=B++(Q.take m).map wZ/\∀ p,p<w.2.1.length->j8 w p=true->∀ j,Eg said B S Q p (w.2.1.getD p g8) j->j<=m:=by
  rcases KZ (w:=w) (k:=w.2.1.length) with hL|⟨i,hi,ue,hL⟩
  . have hz:∀ p,p<w.2.1.length->j8 w p=true->(w.2.1.getD p g8).2.1=[]:=λ p hp ft=>by
      have:=Fz ft hp;rw [hL] at this;exact aDr (by simpa using this)
    obtain ⟨⟨j,hj⟩,-⟩:=h.mem p0 kr (K4.1 oL).2.1;have h0:=hj.log;rw [hz p0 kr oL] at h0;have hB:B=[]:=(aBi.1 h0.symm).1;refine ⟨0,aAr _,by rw [hL,hB]; rfl,λ p hp ft j hj=>?_⟩;have h0:=hj.log;rw [hz p hp ft] at h0;have h1:=(aBi.1 h0.symm).2;have h2:=congrArg List.length h1;rw [aAl,aAn] at h2;have:=hj.le;simp only [aCi] at h2;omega
  . obtain ⟨⟨m,hm⟩,-⟩:=h.mem i hi (K4.1 ue).2.1;refine ⟨m,hm.le,by rw [hL,hm.log],λ p hp ft j hj=>?_⟩;have:=Fz ft hp;rw [hL,hm.log,hj.log,aAd,aAd,aAl,aAl,aAn,aAn] at this;have h1:=hj.le;have h2:=hm.le;omega
theorem Inv.change (h:Inv said B S Q w) (hv:0<=w.1.2.1/\w.1.2.1<=255) (hn:¬ (P7 w).2.1≠0) :
    ∃ B' S',Inv said B' S' [] (C0 w)/\(∀ p,p<w.2.1.length->j8 w p=true->(C0 w).2.1.getD p g8=((w.2.1.getD p g8).1,B',(0,S' p,()),(0,[],()),(0,[],()),())) /\
      (∀ p,p<w.2.1.length->(w.2.1.getD p g8).2.1 <+: ((C0 w).2.1.getD p g8).2.1):=by
  obtain ⟨fa,kV,kl⟩:=members h.H8 hv hn;have hlen:(C0 w).2.1.length=w.2.1.length:=aDh ..;have bW:∀ p:Nat,p<w.2.1.length->(C0 w).2.1.getD p g8=vD w (J7 w w.2.1.length) p (w.2.1.getD p g8):=λ p hp=>Mv hp;have ib:∀ p:Nat,p<w.2.1.length->j8 w p=false->(C0 w).2.1.getD p g8=((w.2.1.getD p g8).1,(w.2.1.getD p g8).2.1,(w.2.1.getD p g8).2.2.1,(w.2.1.getD p g8).2.2.2.1,(0,[],()),()):=λ p hp ha=>by
    rw [bW p hp,vD,if_neg (by rw [ha]; decide)]
  have nq:∀ S',∀ s∈w.2.2.2.1,AD S' [] (w.1.1+1) s:=λ S' s hs e=>by
    have:=(h.msg s hs e).1;exact ⟨by omega,λ e2=>absurd e2 (by omega)⟩
  by_cases hex:∃ p0:Nat,p0<w.2.1.length/\j8 w p0=true
  . obtain ⟨p0,kr,oL⟩:=hex;obtain ⟨m,vi,hL,jU⟩:=h.long kr oL;rw [hL] at bW;obtain ⟨S',jh⟩:∃ S':Nat->List u7,S'=λ p=>if p<w.2.1.length/\j8 w p=true then (S p).drop (C9 p (Q.take m)).length else []:=⟨_,rfl⟩
    have gF:∀ p:Nat,p<w.2.1.length->j8 w p=true->S' p=(S p).drop (C9 p (Q.take m)).length:=λ p hp ha=>by rw [jh]; exact if_pos ⟨hp,ha⟩
    have eW:∀ p:Nat,j8 w p=false->S' p=[]:=λ p ha=>by rw [jh]; exact if_neg (λ c=>by rw [c.2] at ha; cases ha)
    have jC:∀ p:Nat,p<w.2.1.length->j8 w p=true->(C0 w).2.1.getD p g8=((w.2.1.getD p g8).1,B++(Q.take m).map wZ,(0,S' p,()),(0,[],()),(0,[],()),()):=λ p hp ha=>by
      obtain ⟨⟨j,hj⟩,-⟩:=h.mem p hp (K4.1 ha).2.1;have jU:=jU p hp ha j hj;rw [bW p hp,vD,if_pos ha,ZS,hj.from_];simp only;have hd:(B++(Q.take m).map wZ).drop (w.2.1.getD p g8).2.1.length=((Q.take m).drop j).map wZ:=by
        rw [hj.log,aAd,aAl,aAn,aCb hj.le,<- aBm,List.drop_left,List.map_drop]
      rw [hd,Tm,Cy,aBm,gF p hp ha];have fK:C9 p (Q.take m)=C9 p (Q.take j)++C9 p ((Q.take m).drop j):=by
        rw [<- zf];congr 1;rw [show Q.take j=(Q.take m).take j by rw [aCs,aCb jU],aBy]
      rw [fK,aAd]
    refine ⟨B++(Q.take m).map wZ,S',?_,jC,λ p hp=>?_⟩
    . refine ⟨by rw [hlen]; exact h.H8,h.way,rfl,λ x hx=>(by cases hx),λ p=>aEt,λ p=>?_,λ s hs=>?_,λ p hp=>?_,λ p hp hm=>?_,λ p hp hm=>?_,λ s hs=>?_⟩
      . rw [jh];dsimp only
        split
        . rw [aAo]; have:=h.short p; omega
        . exact aAr _
      . rw [fa]; exact nq S' s hs
      . rw [hlen] at hp;cases ha:j8 w p with
        | true=>rw [jC p hp ha]; exact ⟨rfl,λ q hq=>by cases hq⟩
        | false=>rw [ib p hp ha]; exact ⟨rfl,λ q hq=>by cases hq⟩
      . rw [hlen] at hp;rw [kl p hp] at hm;rw [jC p hp hm];obtain ⟨⟨j,hj⟩,eN⟩:=h.mem p hp (K4.1 hm).2.1;have aH:=hj.ok;rw [hj.from_] at aH;have mY:=yA aH;have jU:=jU p hp hm j hj;have bU:S' p=((S p).drop (C9 p (Q.take j)).length).drop ((C9 p (Q.take m)).length - (C9 p (Q.take j)).length):=by
          rw [gF p hp hm,aBm];congr 1;have:(C9 p (Q.take j)).length<=(C9 p (Q.take m)).length:=by
            have:=(zo (p:=p) (Q:=Q.take m) (i:=j)).length_le;rw [aCs,aCb jU] at this;exact this
          omega
        refine ⟨⟨0,aAr _,rfl,λ q hq=>(by cases hq),by simp,by simp [C9],?_⟩,?_⟩
        . refine Rf ⟨by decide,by decide⟩ ?_ ?_
          . rw [bU,aAo]; have:=mY.2.1; simp only at this; omega
          . rw [bU]; exact Qb mY.2.2
        . rw [eN,EW,Cy,gF p hp hm,aAj];congr 1;have bc:=(zo (p:=p) (Q:=Q) (i:=m)).trans (h.xI p)
          conv=>lhs; rw [<- aBy (C9 p (Q.take m)).length (S p)]
          rw [<- aHb.1 bc]
      . rw [hlen] at hp;rw [kl p hp] at hm;refine ⟨eW p hm,?_⟩;rw [EW,Cy];have bc:=(zo (p:=p) (Q:=Q) (i:=m)).trans (h.xI p);cases iB:R5 w.1.2.1 p with
        | true =>
          rw [(h.mem p hp iB).2];exact (aGo _).2 bc
        | false =>
          obtain ⟨e1,e2⟩:=h.out p hp iB;rw [e1] at bc;rw [List.prefix_nil.1 bc,aAv];exact e2
      . rw [hlen];rcases aAi.1 hs with hs|hs
        . exact h.Nf s hs
        . obtain ⟨y,hy,rfl⟩:=aDa.1 hs;have:=h.inQ y (aHq hy);show 0<=((y.1:Nat):Int)/\((y.1:Nat):Int)<_;omega
    . cases ha:j8 w p with
      | true =>
        rw [jC p hp ha];obtain ⟨⟨j,hj⟩,-⟩:=h.mem p hp (K4.1 ha).2.1;have jU:=jU p hp ha j hj;rw [hj.log];refine (aGo _).2 (List.IsPrefix.map wZ ?_);rw [show Q.take j=(Q.take m).take j by rw [aCs,aCb jU]];exact List.take_prefix ..
      | false=>rw [ib p hp ha]; exact aCh
  . have bH:∀ p:Nat,p<w.2.1.length->j8 w p=false:=λ p hp=>by
      cases ha:j8 w p with
      | false=>rfl
      | true=>exact absurd ⟨p,hp,ha⟩ hex
    refine ⟨[],λ _=>[],?_,λ p hp ha=>(by rw [bH p hp] at ha; cases ha),λ p hp=>by rw [ib p hp (bH p hp)]; exact aCh⟩;refine ⟨by rw [hlen]; exact h.H8,h.way,rfl,λ x hx=>(by cases hx),λ p=>aEt,λ p=>aAr _,λ s hs=>?_,λ p hp=>?_,λ p hp hm=>?_,λ p hp hm=>⟨rfl,aEt⟩,λ s hs=>(by cases hs)⟩
    . rw [fa]; exact nq _ s hs
    . rw [hlen] at hp;rw [ib p hp (bH p hp)]; exact ⟨rfl,λ q hq=>by cases hq⟩
    . rw [hlen] at hp;rw [kl p hp,bH p hp] at hm; cases hm
end
end Go.Proofs.YtijlnmgondibnaaGreatDoor
namespace Go.Proofs.YtijlnmgondibnaaGreatDoor
open Go.Ex
set_option maxRecDepth 100000
attribute [local irreducible] Go.Ex.exec
section
variable {H:Array Go.Obj} {S:Nat->Prop} {O:List Nat} {cs:List Value}
theorem QW {α β:Type} {R:List Nat->List Value->α->Prop} {R':List Nat->List Value->β->Prop} {sz:Nat} {f:α->β} (hr:∀ O cs x,R O cs x->R' O cs (f x)):∀ {l:List α} {O:List Nat} {cs:List Value},j5 R sz O cs l->j5 R' sz O cs (l.map f)
  | [],_,_,h=>h
  | _::_,_,_,⟨O1,O2,e,h1,h2⟩=>⟨O1,O2,e,hr _ _ _ h1,QW hr h2⟩
theorem WV {l:List o5} (h:i6 H S (.d0 true xL) O cs l):i6 H S (.d0 true vM) O cs (l.map toM):=by
  have e:(l.map toM).length=l.length:=aAl ..;rcases h with ⟨a,b,c⟩|⟨b,off,cap,O',h1,h2,h3,h4,h5,h6⟩
  . exact .inl ⟨a,b,by rw [c]; rfl⟩
  . refine .inr ⟨b,off,cap,O',?_,?_,h3,?_,?_,h6⟩
    . rw [h1]; exact congrArg (λ n:Nat=>[Value.slice (some ⟨b,off,none⟩) n cap]) e.symm
    . exact aAx (aFq e) h2
    . exact aAx (aFq (congrArg (λ n:Nat=>off+n*vM.size) e)) h4
    . have:=QW (R':=i6 H S vM) (f:=toM) (λ _ _ _ h=>h) h5;have e2:e8 H b off (List.length (l.map toM)*vM.size)=e8 H b off (List.length l*xL.size):=congrArg (λ n:Nat=>e8 H b off (n*vM.size)) e;show j5 (i6 H S vM) vM.size O' (e8 H b off (List.length (l.map toM)*vM.size)) (l.map toM);rw [e2];exact this
theorem YZ {l:List o5} (h:i6 H S (.d0 true vM) O cs (l.map toM)):i6 H S (.d0 true xL) O cs l:=by
  have e:(l.map toM).length=l.length:=aAl ..;rcases h with ⟨a,b,c⟩|⟨b,off,cap,O',h1,h2,h3,h4,h5,h6⟩
  . exact .inl ⟨a,b,List.map_eq_nil_iff.1 c⟩
  . refine .inr ⟨b,off,cap,O',?_,?_,h3,?_,?_,h6⟩
    . rw [h1]; exact congrArg (λ n:Nat=>[Value.slice (some ⟨b,off,none⟩) n cap]) e
    . exact aAx (aFq e.symm) h2
    . exact aAx (aFq (congrArg (λ n:Nat=>off+n*vM.size) e.symm)) h4
    . have e2:e8 H b off (List.length (l.map toM)*vM.size)=e8 H b off (List.length l*xL.size):=congrArg (λ n:Nat=>e8 H b off (n*vM.size)) e;have h5:j5 (i6 H S vM) vM.size O' (e8 H b off (List.length (l.map toM)*vM.size)) (l.map toM):=h5;rw [e2] at h5;exact j5.Ni (R:=i6 H S xL) (f:=toM) (λ _ _ _ h=>h) h5
theorem Xp {w:d9} (h:i6 H S s9 O cs w):i6 H S wF O cs (vK w):=by
  obtain ⟨v,al,r⟩:=w;obtain ⟨P1,P2,e,r1,P3,P4,e',r2,r3⟩:=h;exact ⟨P1,P2,e,r1,P3,P4,e',WV r2,r3⟩
theorem c33 {w:d9} (h:i6 H S wF O cs (vK w)):i6 H S s9 O cs w:=by
  obtain ⟨v,al,r⟩:=w;obtain ⟨P1,P2,e,r1,P3,P4,e',r2,r3⟩:=h;exact ⟨P1,P2,e,r1,P3,P4,e',YZ r2,r3⟩
end
def Ko:r9:={ ps:=[.rw s9],rs:=[f7],pre:=λ x=>zr x.1,fn:=λ x=>((M0 x.1).2,()),out:=λ x=>((M0 x.1).1,()) }
theorem FZ {w:d9} (h:(P7 w).2.1≠0):M0 w=(w,(P7 w).2.1):=by rw [M0]; exact if_pos h
theorem Bj {w:d9} (h:¬ (P7 w).2.1≠0):M0 w=(C0 w,0):=by rw [M0]; exact if_neg h
attribute [local irreducible] M0 C0 P7 in
theorem Vi:Ko.Valid Tryz.prog 25:=by
  refine ⟨UX.ent,?_,λ h=>by cases h⟩;rintro w S vs ⟨(x:d9),⟨⟩⟩ L hS ed (bc:zr x) ⟨v,us,L1,L2,rfl,rfl,⟨b,off,O,rfl,hr,hf,rfl⟩,rfl,rfl⟩ - aK hL;by_cases hn:(P7 x).2.1≠0
  . have hs:i6 w.heap (λ c=>S c\/c∈b::O) I0 [] (e8 w.heap b off s9.size) x:=hr.wq (S':=λ c=>S c\/c∈b::O) (λ c h=>.inr (aAz _ h)) (λ c h=>.inl h) rfl;refine (b3F.run w (λ c=>S c\/c∈b::O) [.pointer (some ⟨b,off,none⟩)] (x,()) [] ?_ (ed.sub (λ c h=>.inl h)) ⟨bc.H8,hn⟩ ⟨_,[],[],[],rfl,rfl,⟨rfl,b,off,rfl,.inr aBd,?_,hs⟩,rfl,rfl⟩ trivial aAy (by simp)).mono ?_
    . rintro c (h|h)
      . exact hS c h
      . exact (hL c (by simpa using h)).2
    . exact R0.y8 hf
    rintro e w' ⟨us,O2,Lo,S',e1,hp,s1,s2,h1,h2,db,fI⟩;obtain ⟨v1,us1,P1,P2,cs,rfl,rfl,rfl,⟨rfl,rfl,hk⟩,rfl,rfl⟩:=h1;have dZ:∀ c,c<w.heap.size->w'.heap[c]?=w.heap[c]?:=λ c hc=>hp.frame c hc (by simp);have eo:∀ c∈b::O,¬ S c/\c<w.heap.size:=λ c hc=>hL c (by simpa using hc);have hb:=dZ b (eo b aBd).2;have fq:=FZ hn;refine ⟨[_],[],b::O,S,e1,⟨hp.os,hp.tape,hp.out,hp.size,λ c hc hn=>dZ c hc⟩,λ _ h=>h,λ c h=>.inl h,⟨_,[],[],[],_,rfl,rfl,rfl,⟨rfl,?_,?_⟩,rfl,rfl⟩,⟨b,off,O,[],[],rfl,?_,?_,by simp,rfl,rfl⟩,?_,?_⟩
    . show [Value.int .i64 _]=[Value.int .i64 (M0 x).2];rw [fq]; rfl
    . show w4 .i64 (M0 x).2;rw [fq]; exact hk
    . show i6 w'.heap S s9 O (e8 w'.heap b off s9.size) (M0 x).1;rw [fq,l7 hb];exact hr.x7 (λ c hc=>dZ c (hc.elim (λ h=>(eo c (aAz _ h)).2) (hS c))) (λ _ h=>h)
    . exact R0.x7 hb hf
    . simpa using aK
    . intro c hc;have hc:c∈b::O:=by simpa using hc
      exact ⟨(eo c hc).1,.inr (by simpa using hc),aAs (eo c hc).2 hp.size⟩
  . have fq:=Bj hn;have oG:=Zv x;refine (UX.run w S [.pointer (some ⟨b,off,none⟩)] (vK x,()) (b::O++[]) hS ed ⟨?_,?_,?_⟩ ⟨_,[],b::O,[],rfl,rfl,⟨b,off,O,rfl,Xp hr,hf,rfl⟩,rfl,rfl⟩ trivial aK hL).mono ?_
    . show vK x=vK (wC (vK x)); rw [oG]
    . show zr (wC (vK x)); rw [oG]; exact bc
    . show ¬ (P7 (wC (vK x))).2.1≠0; rw [oG]; exact hn
    rintro e w' ⟨us,O2,Lo,S',e1,hp,s1,s2,h1,h2,h3,h4⟩;refine ⟨us,O2,Lo,S',e1,hp,s1,s2,?_,?_,h3,h4⟩
    . have h1:N2 w'.heap S' [f7] O2 us ((0:Int),()):=h1;show N2 w'.heap S' [f7] O2 us ((M0 x).2,());rw [fq]; exact h1
    . obtain ⟨b',ar,O',us',L',e',la,qp,e2,h'⟩:=h2;refine ⟨b',ar,O',us',L',e',?_,qp,e2,h'⟩;have la:i6 w'.heap S' wF O' (e8 w'.heap b' ar wF.size) (vK (C0 (wC (vK x)))):=la;show i6 w'.heap S' s9 O' (e8 w'.heap b' ar s9.size) (M0 x).1;rw [fq];rw [oG] at la;exact c33 la
end Go.Proofs.YtijlnmgondibnaaGreatDoor
namespace Go.Proofs.YtijlnmgondibnaaGreatDoor
open Go.Ex
set_option maxRecDepth 100000
attribute [local irreducible] Go.Ex.exec
end Go.Proofs.YtijlnmgondibnaaGreatDoor
namespace Go.Proofs.YtijlnmgondibnaaGreatDoor
open Go.Ex
set_option maxRecDepth 100000
structure Sz (c:Nat) (w:d9):Prop where
  log:∀ i:Nat,(w.2.1.getD i g8).2.1.length<=c
  ord:w.2.2.1.length<=c
  txt:∀ i:Nat,∀ s∈(w.2.1.getD i g8).2.1,s.2.1.length<=200
  late:∀ i:Nat,(w.2.1.getD i g8).2.2.1.2.1.length<=16
theorem Sz.mono {c d:Nat} {w:d9} (h:Sz c w) (hd:c<=d):Sz d w:=⟨λ i=>aAx (h.log i) hd,aAx h.ord hd,h.txt,h.late⟩
structure M3 (k:Nat) (w w':d9):Prop where
  view:w'.1=w.1
  len:w'.2.1.length=w.2.1.length
  log:∀ i:Nat,(w.2.1.getD i g8).2.1 <+: (w'.2.1.getD i g8).2.1
  fal:∀ i:Nat,(w'.2.1.getD i g8).1=(w.2.1.getD i g8).1
  sz:∀ c,Sz c w->Sz (c+k) w'
theorem M3.same {w w':d9} (h1:w'.1=w.1) (h2:w'.2.1=w.2.1) (h3:w'.2.2.1=w.2.2.1):M3 0 w w' :=
  ⟨h1,by rw [h2],λ i=>by rw [h2]; exact aCh,λ i=>by rw [h2],λ c h=>⟨by rw [h2]; exact h.log,by rw [h3]; exact h.ord,by rw [h2]; exact h.txt,by rw [h2]; exact h.late⟩⟩
theorem M3.more {k l:Nat} {w w':d9} (h:M3 k w w') (hl:k<=l):M3 l w w':=⟨h.view,h.len,h.log,h.fal,λ c hc=>(h.sz c hc).mono (by omega)⟩
theorem M3.trans {k l:Nat} {w w' w'':d9} (h:M3 k w w') (h':M3 l w' w''):M3 (k+l) w w'' :=
  ⟨h'.view.trans h.view,h'.len.trans h.len,λ i=>(h.log i).trans (h'.log i),λ i=>(h'.fal i).trans (h.fal i),λ c hc=>by rw [<- aBo]; exact h'.sz _ (h.sz c hc)⟩
theorem Y2.DP {P:n8->Prop} {w w':d9} (h:Y2 P w w'):M3 0 w w':=.same h.view h.all h.ord
theorem M3.set {k:Nat} {w:d9} {p:Nat} {x:o5} (h1:(w.2.1.getD p g8).2.1 <+: x.2.1) (h2:x.1=(w.2.1.getD p g8).1) (h3:x.2.1.length<=(w.2.1.getD p g8).2.1.length+k)
    (h4:(∀ s∈(w.2.1.getD p g8).2.1,s.2.1.length<=200)->∀ s∈x.2.1,s.2.1.length<=200) (h5:(w.2.1.getD p g8).2.2.1.2.1.length<=16->x.2.2.1.2.1.length<=16):M3 k w (w.1,w.2.1.set p x,w.2.2):=by
  have hg:∀ i,(w.2.1.set p x).getD i g8=x/\p=i\/(w.2.1.set p x).getD i g8=w.2.1.getD i g8:=λ i=>by
    rw [K8]
    split
    . rename_i e; exact .inl ⟨rfl,e.1⟩
    . exact .inr rfl
  refine ⟨rfl,aBj ..,λ i=>?_,λ i=>?_,λ c hc=>⟨λ i=>?_,aAx hc.ord (aDb _ _),λ i=>?_,λ i=>?_⟩⟩
  . rcases hg i with ⟨e,rfl⟩|e
    . show _ <+: ((w.2.1.set p x).getD p g8).2.1; rw [e]; exact h1
    . show _ <+: ((w.2.1.set p x).getD i g8).2.1; rw [e]; exact aCh
  . rcases hg i with ⟨e,rfl⟩|e
    . show ((w.2.1.set p x).getD p g8).1=_; rw [e]; exact h2
    . show ((w.2.1.set p x).getD i g8).1=_; rw [e]
  . rcases hg i with ⟨e,rfl⟩|e
    . show ((w.2.1.set p x).getD p g8).2.1.length<=_; rw [e]; have:=hc.log p; omega
    . show ((w.2.1.set p x).getD i g8).2.1.length<=_; rw [e]; have:=hc.log i; omega
  . rcases hg i with ⟨e,rfl⟩|e
    . show ∀ s∈((w.2.1.set p x).getD p g8).2.1,_; rw [e]; exact h4 (hc.txt p)
    . show ∀ s∈((w.2.1.set p x).getD i g8).2.1,_; rw [e]; exact hc.txt i
  . rcases hg i with ⟨e,rfl⟩|e
    . show ((w.2.1.set p x).getD p g8).2.2.1.2.1.length<=_; rw [e]; exact h5 (hc.late p)
    . show ((w.2.1.set p x).getD i g8).2.2.1.2.1.length<=_; rw [e]; exact hc.late i
theorem Sj {w:d9} {k f t q:Int} {x:u7}:M3 0 w (M7 w k f t q x):=by
  obtain ⟨h1,h2,h3⟩:=FR (w:=w) (k:=k) (f:=f) (t:=t) (s:=q) (x:=x);exact .same h2 h1 h3
theorem SO (w:d9) (p:Int) (t:u7):M3 0 w (P5 w p t).1:=by
  rw [P5]
  split
  . exact .same rfl rfl rfl
  split
  . exact .same rfl rfl rfl
  split
  . exact .same rfl rfl rfl
  split
  . exact .same rfl rfl rfl
  . rename_i hl;obtain ⟨g1,g2,g3⟩:=Jq hl;have aH:=yA g2;refine M3.trans (w':=setFrom w p (L9 (H5 w p) t).1) (k:=0) ?_ Sj;refine M3.set (k:=0) aCh rfl (aAk _) id (λ _=>?_);rw [g1]; exact aH.2.1
theorem Uc (w:d9) (p:Int):M3 0 w (F7 w p).1:=by
  rw [F7]
  split
  . exact .same rfl rfl rfl
  . obtain ⟨h1,h2,h3⟩:=Gp (p:=p) (l:=K6 w p) (w:=w) (K6 w p).length;exact (M3.same h2 h1 h3).trans Sj
theorem b8Q (w:d9) (n:n8):M3 16 w (P9 w n):=by
  rw [P9]
  split
  . exact (M3.same rfl rfl rfl).more (by omega)
  . rename_i he;obtain ⟨-,-,a3,-⟩:=Ad (aBt.1 he);have h0:M3 0 w (S3 w n.2.1 (W5 (D3 w n.2.1) (V5 w n).1)):=M3.set aCh rfl (aAk _) id id;obtain ⟨h1,h2,h3⟩:=LF (f:=n.2.1) (first:=(D3 w n.2.1).2.2.2.2.1.1) (l:=(V5 w n).2.1) (w:=S3 w n.2.1 (W5 (D3 w n.2.1) (V5 w n).1)) (V5 w n).2.1.length;refine (h0.trans (l:=16) ⟨h2,by rw [h1],λ i=>by rw [h1]; exact aCh,λ i=>by rw [h1],λ c hc=>⟨λ i=>?_,?_,by rw [h1]; exact hc.txt,by rw [h1]; exact hc.late⟩⟩).more (by omega)
    . rw [h1]; have:=hc.log i; omega
    . rw [h3];have:=hc.ord;have a3:(V5 w n).2.1.length<=16:=a3;omega
theorem b8V {s:wv} {x:Int} (h:(T7 s x).2.1=0):(T7 s x).1.2.1.length<=s.2.1.length:=by
  unfold T7 at h ⊢
  split
  . rename_i h1; rw [if_pos h1] at h; exact absurd h h1
  . rename_i h1;rw [if_neg h1] at h
    split
    . rename_i h2; rw [if_pos h2] at h; exact absurd h (by decide)
    . exact aAo ..▸Nat.sub_le _ _
theorem Up (q:Int) (x:o5) (t:u7):(Y0 q x t).1=x.1/\(x.2.2.1.2.1.length<=16->(Y0 q x t).2.2.1.2.1.length<=16):=by
  by_cases h:who t=q/\(T7 x.2.2.1 (nth t+1)).2.1=0
  . rw [KU h.1 h.2];exact ⟨rfl,λ h2=>aAx (b8V h.2) h2⟩
  . rw [Fl h];exact ⟨rfl,id⟩
theorem Zg (t:u7):(xJ t).length<=t.length:=by
  unfold xJ;exact aAx (CQ _).2 (CQ _).2
theorem Vf {q:Int} {x:o5} {l:List u7} (hl:∀ t∈l,F3 t=false):∀ {i},i<=l.length->x.2.1 <+: (M4 q x l i).2.1/\(M4 q x l i).1=x.1/\(x.2.2.1.2.1.length<=16->(M4 q x l i).2.2.1.2.1.length<=16) /\
    ((∀ s∈x.2.1,s.2.1.length<=200)->∀ s∈(M4 q x l i).2.1,s.2.1.length<=200)
  | 0,_=>⟨aCh,rfl,id,id⟩
  | i+1,hi=>by
    obtain ⟨h1,h2,h3,h4⟩:=Vf (q:=q) (x:=x) hl (show i<=l.length by omega);obtain ⟨g1,g2⟩:=Up q (M4 q x l i) (l.getD i []);have g3:=RJ q (M4 q x l i) (l.getD i []);rw [M4];refine ⟨h1.trans (by rw [g3]; exact aFa ..),g1.trans h2,λ h=>g2 (h3 h),λ h s hs=>?_⟩;rw [g3] at hs;rcases aAi.1 hs with hs|hs
    . exact h4 h s hs
    . rw [aBe] at hs;rw [hs];have hm:l.getD i []∈l:=by rw [aAb,aAf (by omega)]; exact aCn _
      exact aAx (Zg _) (KY (hl _ hm))
theorem c02 (w:d9) (n:n8):M3 16 w (U4 w n):=by
  rw [U4]
  split
  . exact (M3.same rfl rfl rfl).more (by omega)
  . rename_i he;obtain ⟨a1,-,a3,-⟩:=Ad (aBt.1 he);obtain ⟨h1,h2,h3,h4⟩:=Vf (q:=n.2.2.1) (x:=xq (D3 w n.2.2.1) (N9 w n).1) (λ t ht=>(a1 t ht).2) (aAk (N9 w n).2.1.length);have h5:=Mu (q:=n.2.2.1) (x:=xq (D3 w n.2.2.1) (N9 w n).1) (l:=(N9 w n).2.1) (N9 w n).2.1.length;refine M3.set (k:=16) h1 h2 ?_ h4 h3;rw [h5];have a3:(N9 w n).2.1.length<=16:=a3;exact aHv a3 _
theorem b5y (w:d9) (n:n8):M3 16 w (C3 w n):=by
  rw [C3]
  split
  . exact (M3.same rfl rfl rfl).more (by omega)
  split
  . exact b8Q w n
  split
  . obtain ⟨h1,h2,h3⟩:=AZ (w:=w) (n:=n) 4;exact (M3.same h2 h1 h3).more (by omega)
  split
  . exact c02 w n
  . exact (M3.same rfl rfl rfl).more (by omega)
theorem Dm (w:d9) (k bC:Int):M3 16 w (w8 w k bC).1:=by
  have h0:M3 16 w w:=(M3.same rfl rfl rfl).more (by omega);rw [w8]
  split
  . exact h0
  split
  . exact h0
  split
  . exact h0
  split
  . exact (M3.same (w:=w) (w':=BE w k.toNat) rfl rfl rfl).more (aAr 16)
  . refine (M3.trans (k:=0) (l:=16) (w':=yg w k) (M3.same (w:=w) (w':=yg w k) rfl rfl rfl) ?_).more (aAk 16);show M3 16 (yg w k) (O7 (yg w k) bC (w.2.2.2.1.getD k.toNat []));rw [O7]
    split
    . exact b5y _ _
    . exact (M3.same rfl rfl rfl).more (by omega)
abbrev H6:=Int×Int×Int×yY×Unit
def N6 (w:d9) (d:H6):d9×Int :=
  if d.1=1 then P5 w d.2.1 d.2.2.2.1 else if d.1=2 then F7 w d.2.1 else if d.1=3 then w8 w d.2.1 d.2.2.1 else if d.1=4 then wA w d.2.1 else if d.1=5 then M0 w else (w,1)
structure Ok (c:Nat) (said:Nat->List u7) (w:d9):Prop where
  mem:0<=w.1.2.1/\w.1.2.1<=255
  sz:Sz c w
  inv:∃ B S Q,Inv said B S Q w
structure Good (w:d9):Prop where
  move:Cp w
  change:zr w
theorem Ok.H8 {c:Nat} {said:Nat->List u7} {w:d9} (h:Ok c said w):w.2.1.length<=6:=by
  obtain ⟨B,S,Q,hI⟩:=h.inv;exact hI.H8
theorem Inv.note {said:Nat->List u7} {B:List C7} {S:Nat->List u7} {Q:List V9} {w:d9} (h:Inv said B S Q w) {s:u7} (hs:s∈w.2.2.2.1) (h1:(y6 s).2.1=0) (h2:(y6 s).1.2.2.2.1=w.1.1) (h3:j8 w (y6 s).1.2.2.1=true) {c:Nat} (hc:Sz c w) (dQ:c<=1000000000000):xP w (y6 s).1:=by
  obtain ⟨p,hp,bV,hv,-⟩:=zp.1 h3;obtain ⟨⟨m,hM⟩,-⟩:=h.mem p bV hv;have hm:=(h.msg s hs h1).2 h2;refine ⟨h.H8,by omega,QV h1,?_,aAx hc.ord dQ,λ hk t ht=>?_⟩
  . rw [hp]; exact aAx (hc.log p) dQ
  . have cI:D3 w (y6 s).1.2.2.1=w.2.1.getD p g8:=by rw [hp]; rfl
    unfold N9 at ht;rw [cI] at ht;have dy:∃ i:Nat,(R8 Q)[i]?=some t:=by
      by_cases he:(E6 (w.2.1.getD p g8).2.2.2.1 ((y6 s).1.2.2.2.2.1,(y6 s).1.2.2.2.2.2.2.1,())).2.2.1=0
      . obtain ⟨a1,-⟩:=Ad he;rcases (a1 t ht).1 with e|⟨q,hq,e⟩
        . refine ⟨(y6 s).1.2.2.2.2.1.toNat,?_⟩;rw [e,<- h.ord];exact hm.2 hk
        . exact ⟨_,by rw [e]; exact hM.wait q hq⟩
      . rw [c4h he] at ht; cases ht
    obtain ⟨i,hi⟩:=dy;rw [So] at hi;cases hQ:Q[i]? with
    | none=>rw [hQ] at hi; cases hi
    | some y =>
      rw [hQ] at hi;have e:G9 y.1 (C9 y.1 (Q.take i)).length y.2=t:=by simpa using hi
      have hy:=h.le5 y (aDy hQ);have h5:=((zo (p:=y.1) (Q:=Q) (i:=i)).trans (h.xI y.1)).length_le;have h6:=h.short y.1;exact ⟨y.1,_,y.2,hy,by omega,e.symm⟩
theorem Ok.Aj {c:Nat} {said:Nat->List u7} {w:d9} (h:Ok c said w) (hc:c<=1000000000000):Good w:=by
  obtain ⟨B,S,Q,hI⟩:=h.inv;exact ⟨⟨hI.H8,hI.way,λ s hs h1 h2 h3=>hI.note hs h1 h2 h3 h.sz hc⟩,hI.H8,λ i=>aAx (h.sz.log i) (by omega),λ i=>aAx (h.sz.late i) (by omega)⟩
def Z0 (said:Nat->List u7) (d:H6) (e:Int):Nat->List u7:=if d.1=1/\e=0 then vV said d.2.1.toNat (said d.2.1.toNat++[d.2.2.2.1]) else said
structure zy (c:Nat) (said:Nat->List u7) (w:d9) (d:H6) (w':d9) (e:Int):Prop where
  ok:Ok (c+16) (Z0 said d e) w'
  len:w'.2.1.length=w.2.1.length
  log:∀ i:Nat,(w.2.1.getD i g8).2.1 <+: (w'.2.1.getD i g8).2.1
  fal:∀ i:Nat,i<w.2.1.length->(w'.2.1.getD i g8).1=((w.2.1.getD i g8).1 || decide (d.1=4/\e=0/\d.2.1=i))
  mem:∀ i:Nat,i<w.2.1.length->R5 w'.1.2.1 i=true->R5 w.1.2.1 i=true
theorem zy.DP {c:Nat} {said:Nat->List u7} {w w':d9} {d:H6} {e:Int} (h:Ok c said w) (hm:M3 16 w w') (hi:∃ B S Q,Inv (Z0 said d e) B S Q w') (hf:d.1≠4):zy c said w d w' e :=
  ⟨⟨by rw [hm.view]; exact h.mem,hm.sz c h.sz,hi⟩,hm.len,hm.log,λ i _=>by rw [hm.fal i,show decide (d.1=4/\e=0/\d.2.1=i)=false from decide_eq_false (λ c=>hf c.1),aDj],λ i _ h=>by rw [hm.view] at h; exact h⟩
theorem MB {w:d9} {p:Int} (h:¬ K1 w p≠0):j8 w p=true:=by
  unfold K1 at h;split at h
  . rename_i h1; exact absurd h1 h
  . split at h
    . rename_i h2; exact h2
    . exact absurd (by decide) h
theorem Ab {w:d9} {p:Int}:¬ known w p≠0↔0<=p/\p<(w.2.1.length:Int):=by
  unfold known
  split
  . rename_i h;have:=N5.1 h;constructor
    . intro _; omega
    . intro _ h2; exact h2 rfl
  . rename_i h;constructor
    . intro h2; exact absurd (by decide) h2
    . intro h2; exact absurd (N5.2 ⟨h2.1,by omega⟩) h
theorem zm {c:Nat} {said:Nat->List u7} {w:d9} (h:Ok c said w) (d:H6):zy c said w d (N6 w d).1 (N6 w d).2:=by
  obtain ⟨B,S,Q,hI⟩:=h.inv;have stay:∀ e:Int,(d.1=1->e≠0)->(d.1=4->e≠0)->zy c said w d w e:=λ e he hf =>
    ⟨⟨h.mem,h.sz.mono (by omega),B,S,Q,by rw [Z0,if_neg (λ c=>he c.1 c.2)]; exact hI⟩,rfl,λ _=>aCh,λ i _=>by rw [show decide (d.1=4/\e=0/\d.2.1=i)=false from decide_eq_false (λ c=>hf c.1 c.2.1),aDj],λ _ _ h=>h⟩
  unfold N6;by_cases c1:d.1=1
  . rw [if_pos c1];have jq:=(SO w d.2.1 d.2.2.2.1).more (aAr 16);have hf:d.1=4->False:=λ e=>by omega
    rw [P5] at jq ⊢;by_cases a:K1 w d.2.1≠0
    . rw [if_pos a]; exact stay _ (λ _=>a) (λ e=>(hf e).elim)
    rw [if_neg a] at jq ⊢;by_cases b:(150:Int)<d.2.2.2.1.length
    . rw [if_pos b]; exact stay 2 (λ _=>by decide) (λ e=>(hf e).elim)
    rw [if_neg b] at jq ⊢;by_cases b2:(w.2.2.2.1.length:Int)=60
    . rw [if_pos b2]; exact stay 8 (λ _=>by decide) (λ e=>(hf e).elim)
    rw [if_neg b2] at jq ⊢;by_cases b3:(L9 (H5 w d.2.1) d.2.2.2.1).2.1≠0
    . rw [if_pos b3]; exact stay _ (λ _=>b3) (λ e=>(hf e).elim)
    rw [if_neg b3] at jq ⊢;obtain ⟨p,hp,bV,hv,-⟩:=zp.1 (MB a);refine zy.DP h jq ?_ (λ e=>hf e);rw [Z0,if_pos ⟨c1,rfl⟩,hp];rw [hp] at b3;exact ⟨_,_,_,hI.say bV hv b3⟩
  rw [if_neg c1];by_cases c2:d.1=2
  . rw [if_pos c2];have jq:=(Uc w d.2.1).more (aAr 16);rw [F7] at jq ⊢;by_cases a:K1 w d.2.1≠0
    . rw [if_pos a]; exact stay _ (λ e=>absurd e c1) (λ e=>by omega)
    rw [if_neg a] at jq ⊢;obtain ⟨p,hp,bV,hv,-⟩:=zp.1 (MB a);refine zy.DP h jq ?_ (by omega);rw [Z0,if_neg (λ c=>c1 c.1),hp];exact ⟨_,_,_,hI.again bV hv⟩
  rw [if_neg c2];by_cases c3:d.1=3
  . rw [if_pos c3];refine zy.DP h (Dm _ _ _) ?_ (by omega);rw [Z0,if_neg (λ c=>c1 c.1)];obtain ⟨Q',h'⟩:=hI.move d.2.1 d.2.2.1;exact ⟨_,_,_,h'⟩
  rw [if_neg c3];by_cases c4:d.1=4
  . rw [if_pos c4];unfold wA;by_cases a:known w d.2.1≠0
    . rw [if_pos a]; exact stay _ (λ e=>absurd e c1) (λ _=>a)
    rw [if_neg a];have hk:=Ab.1 a;obtain ⟨p,hp⟩:∃ p:Nat,d.2.1=p:=⟨d.2.1.toNat,by omega⟩;rw [hp] at hk ⊢;have bV:p<w.2.1.length:=by omega
    have hg:∀ i,(w.2.1.set p (true,(w.2.1.getD p g8).2)).getD i g8=if p=i then (true,(w.2.1.getD p g8).2) else w.2.1.getD i g8:=λ i=>by
      rw [K8];by_cases e:p=i
      . rw [if_pos ⟨e,bV⟩,if_pos e]
      . rw [if_neg (λ h=>e h.1),if_neg e]
    have gN:∀ i,((w.2.1.set p (true,(w.2.1.getD p g8).2)).getD i g8).2=(w.2.1.getD i g8).2:=λ i=>by
      rw [hg]; split
      . rename_i e; rw [e]
      . rfl
    refine ⟨⟨h.mem,⟨λ i=>?_,aAx h.sz.ord (aDb _ _),λ i=>?_,λ i=>?_⟩,B,S,Q,?_⟩,aBj ..,λ i=>?_,λ i hi=>?_,λ _ _ h=>h⟩
    . show ((w.2.1.set p (true,(w.2.1.getD p g8).2)).getD i g8).2.1.length<=_;rw [gN]; exact aAx (h.sz.log i) (aDb _ _)
    . show ∀ s∈((w.2.1.set p (true,(w.2.1.getD p g8).2)).getD i g8).2.1,_;rw [gN]; exact h.sz.txt i
    . show ((w.2.1.set p (true,(w.2.1.getD p g8).2)).getD i g8).2.2.1.2.1.length<=_;rw [gN]; exact h.sz.late i
    . rw [Z0,if_neg (λ c=>c1 c.1)]; exact hI.Wi p
    . show _ <+: ((w.2.1.set p (true,(w.2.1.getD p g8).2)).getD i g8).2.1;rw [gN]; exact aCh
    . show ((w.2.1.set p (true,(w.2.1.getD p g8).2)).getD i g8).1=_;rw [hg];by_cases e:p=i
      . rw [if_pos e,decide_eq_true ⟨c4,rfl,by rw [hp,e]⟩,Bool.or_true]
      . rw [if_neg e,decide_eq_false (λ c=>e (by have:=c.2.2; omega)),aDj]
  rw [if_neg c4];by_cases c5:d.1=5
  . rw [if_pos c5];by_cases a:(P7 w).2.1≠0
    . rw [FZ a]; exact stay _ (λ e=>absurd e c1) (λ e=>absurd e c4)
    rw [Bj a];obtain ⟨B',S',si,h1,h2⟩:=hI.change h.mem a;obtain ⟨fa,kV,kl⟩:=members hI.H8 h.mem a;have hlen:(C0 w).2.1.length=w.2.1.length:=aDh ..;have bW:∀ i:Nat,i<w.2.1.length->(C0 w).2.1.getD i g8=vD w (J7 w w.2.1.length) i (w.2.1.getD i g8):=λ i hi=>Mv hi;have eP:∀ i:Nat,¬ i<w.2.1.length->(C0 w).2.1.getD i g8=g8:=λ i hi=>by
      rw [aAb,aCd (by rw [hlen]; omega)]; rfl
    have oQ:(J7 w w.2.1.length).length<=c/\∀ s∈J7 w w.2.1.length,s.2.1.length<=200:=by
      rcases KZ (w:=w) (k:=w.2.1.length) with e|⟨i,-,-,e⟩
      . rw [e]; exact ⟨aAr _,λ s hs=>by cases hs⟩
      . rw [e]; exact ⟨h.sz.log i,h.sz.txt i⟩
    have fq:∀ i x,(vD w (J7 w w.2.1.length) i x).2.1=J7 w w.2.1.length\/(vD w (J7 w w.2.1.length) i x).2.1=x.2.1:=λ i x=>by
      unfold vD; split
      . exact .inl rfl
      . exact .inr rfl
    have cK:∀ i x,(vD w (J7 w w.2.1.length) i x).2.2.1.2.1.length<=x.2.2.1.2.1.length:=λ i x=>by
      unfold vD; split
      . exact aAo ..▸Nat.sub_le _ _
      . exact aAk _
    refine ⟨⟨kV,⟨λ i=>?_,aAr _,λ i=>?_,λ i=>?_⟩,B',S',[],?_⟩,hlen,λ i=>?_,λ i hi=>?_,λ i hi hm=>?_⟩
    . by_cases hi:i<w.2.1.length
      . rw [bW i hi];have:=h.sz.log i;rcases fq i (w.2.1.getD i g8) with e|e
        . rw [e]; omega
        . rw [e]; omega
      . rw [eP i hi]; exact aAr _
    . by_cases hi:i<w.2.1.length
      . rw [bW i hi];rcases fq i (w.2.1.getD i g8) with e|e
        . rw [e]; exact oQ.2
        . rw [e]; exact h.sz.txt i
      . rw [eP i hi]; exact λ s hs=>by cases hs
    . by_cases hi:i<w.2.1.length
      . rw [bW i hi]; exact aAx (cK _ _) (h.sz.late i)
      . rw [eP i hi]; exact aAr _
    . rw [Z0,if_neg (λ c=>c1 c.1)]; exact si
    . by_cases hi:i<w.2.1.length
      . exact h2 i hi
      . have e:w.2.1.getD i g8=g8:=by rw [aAb,aCd (by omega)]; rfl
        rw [e]; exact aEt
    . rw [bW i hi,IW,decide_eq_false (λ c=>c4 c.1),aDj]
    . rw [kl i hi] at hm; exact (K4.1 hm).2.1
  . rw [if_neg c5]; exact stay _ (λ e=>absurd e c1) (λ e=>absurd e c4)
attribute [local irreducible] Go.Ex.exec
def H8 (n:Int):Int:=rest n 6+1
theorem NG (n:Int):1<=H8 n/\H8 n<=6:=by have:=Pw (a:=n) (n:=6) (by omega); unfold H8; omega
def GH:r9:={ ps:=[.v f7],rs:=[f7],pre:=λ _=>True,fn:=λ x=>(H8 x.1,()),out:=λ _=>() }
noncomputable def GI:Env:={ P:=Tryz.prog,tt:=tt,E3:=[(39,HT)],res:=[Go.ResultVar.tmp 2],rs:=[Ty.int IntKind.i64],ps:=[PK.v f7],D5:=[],nt:=6 }
theorem OZ:B8 GI:=C4 s7 ⟨b84,trivial⟩
theorem Pj:D7 GI Tryz.f13:=⟨rfl,rfl⟩
theorem We (x0:Int):exec GI 1000 [.code (d8 Tryz.prog 13)] (w9 GH.ps ((x0,()))) =
  .f8 ((6:Int)<=(1000000000:Int)) (.f8 (w4 IntKind.i64 (rest x0 (6:Int)+(1:Int))) (.ret ((rest x0 (6:Int)+(1:Int),())))):=by kernel_rfl
theorem c2t:GH.Valid Tryz.prog 13:=by
  refine r9.p7 OZ rfl rfl Tryz.func13 (c:=d8 Tryz.prog 13) rfl rfl Pj rfl ?_;rintro ⟨(n:Int),⟨⟩⟩ - -
  refine j6 (n:=1000) OZ Pj ?_;refine i7 (We n) ?_;have:=NG n;have:=Pw (a:=n) (n:=6) (by omega);simp only [j7,Tree.holds,sL];exact ⟨by decide,λ _=>⟨by omega,λ _=>rfl⟩⟩
def wm (n:Int):d9:=((0,Av n,()),List.replicate n.toNat g8,[],[],())
def Hy:r9:={ ps:=[.v f7],rs:=[.box true none s9,f7],pre:=λ x=>LE.le (α:=Int) 1 x.1/\LE.le (α:=Int) x.1 6,fn:=λ x=>(some (wm x.1),0,()),out:=λ _=>() }
theorem c4d {n:Int} (h:1<=n/\n<=6):DR n=(some (wm n),0,()):=if_pos (N5.2 h)
theorem b9b:Hy.Valid Tryz.prog 14:=by
  refine ⟨Tj.ent,λ w S vs x L hS ed bc hK iy fP eo=>?_,λ h=>by cases h⟩;obtain ⟨(n:Int),⟨⟩⟩:=x;have:=Tj.run w S vs (n,()) L hS ed trivial hK iy fP eo;rw [show GS.fn (n,())=Hy.fn (n,()) from c4d bc] at this;exact this
def Ho:r9:={ ps:=[.rw s9,.v xo],rs:=[f7],pre:=λ x=>Good x.1,fn:=λ x=>((N6 x.1 x.2.1).2,()),out:=λ x=>((N6 x.1 x.2.1).1,()) }
noncomputable def Ip:Env:={ P:=Tryz.prog,tt:=tt,E3:=[(15,GU),(26,EA),(18,Em),(37,Hp),(25,Ko)],res:=[Go.ResultVar.tmp 4],rs:=[Ty.int IntKind.i64],ps:=[PK.rw s9,PK.v xo],D5:=[],nt:=39 }
theorem Rn:B8 Ip:=C4 s7 ⟨c1X,UM,a91,b9n,Vi,trivial⟩
theorem SI:D7 Ip Tryz.f51:=⟨rfl,rfl⟩
theorem YI (ai:Int) (af:Int) (ab:List o5) (ae:List yY) (aa:List yY) (bz:Int) (aJ:Int) (aM:Int) (aX:yY):exec Ip 1000 [.code (d8 Tryz.prog 51)] (w9 Ho.ps ((((ai,af,()),ab,ae,aa,()),(bz,aJ,aM,aX,()),()))) =
  cond (decide (bz=(1:Int))) (.f8 (List.length ab<=6) (.ret ((Prod.snd (P5 ((ai,af,()),ab,ae,aa,()) aJ aX),Prod.fst (P5 ((ai,af,()),ab,ae,aa,()) aJ aX),())))) (cond (decide (bz=(2:Int))) (.f8 (List.length ab<=6) (.ret ((Prod.snd (F7 ((ai,af,()),ab,ae,aa,()) aJ),Prod.fst (F7 ((ai,af,()),ab,ae,aa,()) aJ),())))) (cond (decide (bz=(3:Int))) (.f8 (Cp ((ai,af,()),ab,ae,aa,())) (.ret ((Prod.snd (w8 ((ai,af,()),ab,ae,aa,()) aJ aM),Prod.fst (w8 ((ai,af,()),ab,ae,aa,()) aJ aM),())))) (cond (decide (bz=(4:Int))) (.f8 (List.length ab<=6) (.ret ((Prod.snd (wA ((ai,af,()),ab,ae,aa,()) aJ),Prod.fst (wA ((ai,af,()),ab,ae,aa,()) aJ),())))) (cond (decide (bz=(5:Int))) (.f8 (zr ((ai,af,()),ab,ae,aa,())) (.ret ((Prod.snd (M0 ((ai,af,()),ab,ae,aa,())),Prod.fst (M0 ((ai,af,()),ab,ae,aa,())),())))) (.ret (((1:Int),((ai,af,()),ab,ae,aa,()),()))))))):=by kernel_rfl
attribute [local irreducible] N6 P5 F7 w8 wA M0 in
theorem b9p:Ho.Valid Tryz.prog 51:=by
  refine r9.p7 Rn rfl rfl Tryz.func51 (c:=d8 Tryz.prog 51) rfl rfl SI rfl ?_;rintro ⟨⟨⟨(v0:Int),(v1:Int),⟨⟩⟩,(al:List o5),(od:List yY),(wy:List yY),⟨⟩⟩,⟨(k:Int),(who:Int),(bC:Int),(t:yY),⟨⟩⟩,⟨⟩⟩ (hg:Good ((v0,v1,()),al,od,wy,())) -
  refine j6 (n:=1000) Rn SI ?_;refine i7 (YI v0 v1 al od wy k who bC t) ?_;simp only [j7,Tree.holds,sL];have key:∀ r:d9×Int,N6 ((v0,v1,()),al,od,wy,()) (k,who,bC,t,())=r->(((r.2,r.1,()):Int×d9×Unit)=((N6 ((v0,v1,()),al,od,wy,()) (k,who,bC,t,())).2,(N6 ((v0,v1,()),al,od,wy,()) (k,who,bC,t,())).1,())):=by rintro r rfl; rfl
  have e0:=N6.eq_1 ((v0,v1,()),al,od,wy,()) (k,who,bC,t,());refine ⟨λ c=>⟨hg.move.H8,λ _=>key _ (e0.trans (if_pos c))⟩,λ c1=>⟨λ c=>⟨hg.move.H8,λ _=>key _ (e0.trans ((if_neg c1).trans (if_pos c)))⟩,λ c2=>⟨λ c=>⟨hg.move,λ _=>key _ (e0.trans ((if_neg c1).trans ((if_neg c2).trans (if_pos c))))⟩,λ c3=>⟨λ c=>⟨hg.move.H8,λ _=>key _ (e0.trans ((if_neg c1).trans ((if_neg c2).trans ((if_neg c3).trans (if_pos c)))))⟩,
    λ c4=>⟨λ c=>⟨hg.change,λ _=>key _ (e0.trans ((if_neg c1).trans ((if_neg c2).trans ((if_neg c3).trans ((if_neg c4).trans (if_pos c))))))⟩,λ c5=>key (_,_) (e0.trans ((if_neg c1).trans ((if_neg c2).trans ((if_neg c3).trans ((if_neg c4).trans (if_neg c5))))))⟩⟩⟩⟩⟩
end Go.Proofs.YtijlnmgondibnaaGreatDoor
namespace Go.Proofs.YtijlnmgondibnaaGreatDoor
open Go.Ex
set_option maxRecDepth 100000
theorem JW {n i:Nat}:(List.replicate n g8).getD i g8=g8:=by
  rw [aAb,aFm]
  split<;>rfl
theorem NN {n:Int} (h:1<=n/\n<=6):Ok 0 (λ _=>[]) (wm n):=by
  have hr:∀ i,(wm n).2.1.getD i g8=g8:=λ i=>JW;have hl:(wm n).2.1.length=n.toNat:=aCc ..;refine ⟨V7 (k:=.u8) _,⟨λ i=>?_,aAr _,λ i=>?_,λ i=>?_⟩,[],λ _=>[],[],?_⟩
  . rw [hr]; exact aAr _
  . rw [hr]; exact λ s hs=>by cases hs
  . rw [hr]; exact aAr _
  . refine ⟨by rw [hl]; omega,aAr _,rfl,λ x hx=>(by cases hx),λ p=>aEt,λ p=>aAr _,λ s hs=>(by cases hs),λ p hp=>?_,λ p hp hv=>?_,λ p hp hv=>⟨rfl,aCh⟩,λ s hs=>(by cases hs)⟩
    . rw [hr]; exact ⟨rfl,λ q hq=>by cases hq⟩
    . rw [hr];exact ⟨⟨0,aAk _,rfl,λ q hq=>(by cases hq),rfl,rfl,rfl⟩,rfl⟩
theorem Zw {n:Int} (h:1<=n/\n<=6):∀ p:Nat,p<n.toNat->R5 (wm n).1.2.1 p=true:=by
  have key:∀ k:Fin 7,1<=k.val->∀ p:Fin 7,p.val<k.val->R5 (Av ((k.val:Nat):Int)) p.val=true:=by decide +kernel
  intro p hp;have:=key ⟨n.toNat,by omega⟩ (by show 1<=n.toNat; omega) ⟨p,by omega⟩ hp;simpa [wm,show ((n.toNat:Nat):Int)=n by omega] using this
def BJ:H6:=(0,0,0,[],())
def HN (k bC:Int):H6:=(3,k,bC,[],())
theorem ZQ (w:d9) (k bC:Int):N6 w (HN k bC)=w8 w k bC:=by
  unfold N6 HN;rw [if_neg (show ¬ (3:Int)=1 by decide),if_neg (show ¬ (3:Int)=2 by decide),if_pos rfl]
theorem Ok.yN {c:Nat} {said:Nat->List u7} {w:d9} (h:Ok c said w) (k bC:Int):Ok (c+16) said (w8 w k bC).1:=by
  have:=(zm h (HN k bC)).ok;rw [ZQ] at this;exact this
def Bv (p:Int) (t:u7):H6:=(1,p,0,t,())
theorem OM (w:d9) (p:Int) (t:u7):N6 w (Bv p t)=P5 w p t:=by
  unfold N6 Bv;exact if_pos rfl
theorem Ok.d0d {c:Nat} {said:Nat->List u7} {w:d9} (h:Ok c said w) (p:Int) (t:u7):∃ said',Ok (c+16) said' (P5 w p t).1:=by
  have:=(zm h (Bv p t)).ok;rw [OM] at this;exact ⟨_,this⟩
attribute [local irreducible] Go.Ex.exec
abbrev Eb:yY:=[115,101,116,32]
abbrev spT:yY:=[32]
def Cc (i:Nat) (d:H6):H6:=if d.1=1 then (d.1,d.2.1,d.2.2.1,Eb++E4 (Int.tmod i 10)++spT++E4 i,()) else d
abbrev wg:=d9×List (List u7)×List Int
def yx (n:Int) (s:wg) (d:H6):wg :=
  if (N6 s.1 d).2≠0\/d.2.1<0\/n<=d.2.1 then ((N6 s.1 d).1,s.2) else
  ((N6 s.1 d).1,if d.1=1 then s.2.1.set d.2.1.toNat (s.2.1.getD d.2.1.toNat []++[d.2.2.2.1]) else s.2.1,if d.1=4 then s.2.2++[d.2.1] else s.2.2)
def G3 (n:Int) (l:List H6):Nat->wg
  | 0=>(wm n,List.replicate n.toNat [],[])
  | i+1=>yx n (G3 n l i) (Cc i (l.getD i BJ))
def Jf:r9:={ ps:=[.v f7,.v (.d0 false xo)],rs:=[.box true none s9,.d0 true (.d0 true .str),.d0 true f7,.bool],pre:=λ x=>(LE.le (α:=Int) 1 x.1/\LE.le (α:=Int) x.1 6)/\List.length (α:=H6) x.2.1<=1048576,fn:=λ x=>(some (G3 x.1 x.2.1 (List.length (α:=H6) x.2.1)).1,(G3 x.1 x.2.1 (List.length (α:=H6) x.2.1)).2.1,(G3 x.1 x.2.1 (List.length (α:=H6) x.2.1)).2.2,true,()),out:=λ _=>() }
noncomputable def CN:Env:={ P:=Tryz.prog,tt:=tt,E3:=[(14,Hy),(50,IY),(51,Ho)],res:=[Go.ResultVar.tmp 4,Go.ResultVar.tmp 5,Go.ResultVar.tmp 6,Go.ResultVar.tmp 7],rs:=[Ty.box true none s9,Ty.d0 true (Ty.d0 true Ty.str),Ty.d0 true f7,Ty.bool],ps:=[PK.v f7,PK.v (Ty.d0 false xo)],D5:=[(7,[(0,none),(8,none),(10,some (Ty.d0 true (Ty.d0 true Ty.str))),(11,some Is),(28,none),(29,none),(30,none)])],nt:=91 }
theorem Ml:B8 CN:=C4 s7 ⟨b9b,UR,b9p,trivial⟩
theorem Mp:D7 CN Tryz.f23:=⟨rfl,rfl⟩
theorem c3k (x0:Int) (x1:List (Int×Int×Int×yY×Unit)):exec CN 1000 [.code (d8 Tryz.prog 23)] (w9 Jf.ps ((x0,x1,()))) =
  .f8 ((1:Int)<=x0/\x0<=(6:Int)) (.f8 ((0:Int)<=x0/\x0<=x0/\x0<=(140737488355328:Int)/\x0*(↑(Ty.wb (Ty.d0 true Ty.str)):Int)<=(140737488355328:Int)) (.ctL (f9 (d8 Tryz.prog 23) 7) (St.mk [(0,AV.val f7 x0),(8,AV.ptr 1017 []),(10,AV.at_ 1000010 []),(11,AV.at_ 1000011 []),(28,AV.val (Ty.d0 false xo) x1),(29,AV.val f7 (↑(List.length x1):Int)),(30,AV.val f7 (0:Int))] [(1017,g9.var s9 (((0:Int),Av x0,()),List.replicate (Int.toNat x0) g8,[],[],())),(1000010,g9.own (Ty.d0 true (Ty.d0 true Ty.str)) (List.replicate (Int.toNat x0) [])),(1000011,g9.own Is [])]))):=by kernel_rfl
def Mm (v0:Int) (v28:List (Int×Int×Int×yY×Unit)) (xk:Int) (v30:Int) (dG:Int) (cN:Int) (dF:List o5) (cM:List yY) (cm:List yY) (cr:List (List yY)) (bs:List Int):St:=St.mk [(0,AV.val f7 v0),(8,AV.ptr 1017 []),(10,AV.at_ 1000010 []),(11,AV.at_ 1000011 []),(28,AV.val (Ty.d0 false xo) v28),(29,AV.val f7 xk),(30,AV.val f7 v30)] [(1017,g9.var s9 ((dG,cN,()),dF,cM,cm,())),(1000010,g9.own (Ty.d0 true (Ty.d0 true Ty.str)) cr),(1000011,g9.own Is bs)]
theorem b9A (v0:Int) (v28:List (Int×Int×Int×yY×Unit)) (xk:Int) (v30:Int) (dG:Int) (cN:Int) (dF:List o5) (cM:List yY) (cm:List yY) (cr:List (List yY)) (bs:List Int):exec CN 1000 (.code (f9 (d8 Tryz.prog 23) 7).1::.inLoop (f9 (d8 Tryz.prog 23) 7).1::(f9 (d8 Tryz.prog 23) 7).2) (Mm v0 v28 xk v30 dG cN dF cM cm cr bs) =
  let q2:=(List.getD v28 (Int.toNat v30) ((0:Int),(0:Int),(0:Int),[],())); let q4:=(ByteArray.data (ByteArray.mk #[115,101,116,32])); let q6:=(30,AV.val f7 (v30+(1:Int))); let q7:=(1000010,g9.own (Ty.d0 true (Ty.d0 true Ty.str)) cr); let q8:=(List.set [(0:Int)] (Int.toNat (↑0:Int)) q2.2.1); let q9:=(29,AV.val f7 xk); let Ag:=((dG,cN,()),dF,cM,cm,()); let wk:=(w4 IntKind.i64 (v30+(1:Int))); let wj:=(0,AV.val f7 v0); let yB:=(Int.toNat q2.2.1); let DG:=(1000011,g9.own Is (bs++List.set [(0:Int)] (Int.toNat (↑0:Int)) q2.2.1)); let DF:=o7; let q3:=(28,AV.val (Ty.d0 false (Ty.pair f7 (Ty.pair f7 DF))) v28); let q5:=(Ty.pair View (Ty.pair (Ty.d0 true (Ty.pair Ty.bool (Ty.pair (Ty.d0 true DF) (Ty.pair T1 (Ty.pair (Ty.pair f7 (Ty.pair (Ty.d0 false DF) Ty.unit)) (Ty.pair (Ty.pair f7 (Ty.pair (Ty.d0 false DF) Ty.unit)) Ty.unit)))))) (Ty.pair (Ty.d0 true Ty.str) (Ty.pair (Ty.d0 true Ty.str) Ty.unit)))); let q1:=(1017,g9.var q5 (N6 Ag q2).1); let DE:=(ByteArray.data (ByteArray.mk #[32])); let Gz:=(Array.toList q4++E4 (Int.tmod v30 (10:Int))++Array.toList DE++E4 v30); let MU:=(1000010,g9.own (Ty.d0 true (Ty.d0 true Ty.str)) (List.set cr yB (List.getD cr yB []++List.set [[]] (Int.toNat (↑0:Int)) Gz))); let DD:=(List.length bs+List.length q8); let DC:=q2.2.2.2; let MW:=(N6 Ag (Prod.fst q2,Prod.fst q2.2,Prod.fst q2.2.2,Array.toList q4++E4 (Int.tmod v30 (10:Int))++Array.toList DE++E4 v30,Prod.snd DC)); let q0:=(1017,g9.var q5 MW.1); let MV:=(1000010,g9.own (Ty.d0 true (Ty.d0 true Ty.str)) (List.set cr yB (List.getD cr yB []++List.set [[]] (Int.toNat (↑0:Int)) DC.1))); cond (decide (v30<xk)) (.f8 ((0:Int)<=v30/\v30<(↑(List.length v28):Int)) (cond (decide (Prod.fst q2=(1:Int))) (.f8 ((0:Int)<(10:Int)) (.f8 (True) (.f8 (List.length (Array.toList q4)+List.length (E4 (Int.tmod v30 (10:Int)))<=Go.maxLen) (.f8 (List.length (Array.toList q4++E4 (Int.tmod v30 (10:Int)))+List.length (Array.toList DE)<=Go.maxLen) (.f8 (True) (.f8 (List.length (Array.toList q4++E4 (Int.tmod v30 (10:Int))++Array.toList DE)+List.length (E4 v30)<=Go.maxLen) (.f8 (Good Ag) (cond (decide (Prod.snd MW≠(0:Int))) (.f8 wk (.ctL (f9 (d8 Tryz.prog 23) 7) (St.mk [wj,(8,AV.ptr 1017 []),(10,AV.at_ 1000010 []),(11,AV.at_ 1000011 []),q3,q9,q6] [q0,q7,(1000011,g9.own Is bs)]))) (cond (decide (Prod.fst q2.2<(0:Int))) (.f8 wk (.ctL (f9 (d8 Tryz.prog 23) 7) (St.mk [wj,(8,AV.ptr 1017 []),(10,AV.at_ 1000010 []),(11,AV.at_ 1000011 []),q3,q9,q6] [q0,q7,(1000011,g9.own Is bs)]))) (cond (decide (v0<=Prod.fst q2.2)) (.f8 wk (.ctL (f9 (d8 Tryz.prog 23) 7) (St.mk [wj,(8,AV.ptr 1017 []),(10,AV.at_ 1000010 []),(11,AV.at_ 1000011 []),q3,q9,q6] [q0,q7,(1000011,g9.own Is bs)]))) (cond (decide (Prod.fst q2=(1:Int))) (.f8 ((0:Int)<=Prod.fst q2.2/\Prod.fst q2.2<(↑(List.length cr):Int)) (.f8 ((0:Int)<=Prod.fst q2.2/\Prod.fst q2.2<(↑(List.length cr):Int)) (.f8 ([]++[Step.idx q2.2.1]=[]++[Step.idx q2.2.1]/\List.length (List.getD cr yB [])+List.length (List.set [[]] (Int.toNat (↑0:Int)) Gz)<=140737488355328/\(List.length (List.getD cr yB [])+List.length (List.set [[]] (Int.toNat (↑0:Int)) Gz))*Ty.wb Ty.str<=140737488355328) (cond (decide (Prod.fst q2=(4:Int))) (.f8 (List.length bs+List.length q8<=140737488355328/\DD*Ty.wb f7<=140737488355328) (.f8 wk (.ctL (f9 (d8 Tryz.prog 23) 7) (St.mk [wj,(8,AV.ptr 1017 []),(10,AV.at_ 1000010 []),(11,AV.at_ 1000011 []),q3,q9,q6] [q0,MU,DG])))) (.f8 wk (.ctL (f9 (d8 Tryz.prog 23) 7) (St.mk [wj,(8,AV.ptr 1017 []),(10,AV.at_ 1000010 []),(11,AV.at_ 1000011 []),q3,q9,q6] [q0,MU,(1000011,g9.own Is bs)]))))))) (cond (decide (Prod.fst q2=(4:Int))) (.f8 (List.length bs+List.length q8<=140737488355328/\DD*Ty.wb f7<=140737488355328) (.f8 wk (.ctL (f9 (d8 Tryz.prog 23) 7) (St.mk [wj,(8,AV.ptr 1017 []),(10,AV.at_ 1000010 []),(11,AV.at_ 1000011 []),q3,q9,q6] [q0,q7,DG])))) (.f8 wk (.ctL (f9 (d8 Tryz.prog 23) 7) (St.mk [wj,(8,AV.ptr 1017 []),(10,AV.at_ 1000010 []),(11,AV.at_ 1000011 []),q3,q9,q6] [q0,q7,(1000011,g9.own Is bs)]))))))))))))))) (.f8 (Good Ag) (cond (decide (Prod.snd (N6 Ag q2)≠(0:Int))) (.f8 wk (.ctL (f9 (d8 Tryz.prog 23) 7) (St.mk [wj,(8,AV.ptr 1017 []),(10,AV.at_ 1000010 []),(11,AV.at_ 1000011 []),q3,q9,q6] [q1,q7,(1000011,g9.own Is bs)]))) (cond (decide (Prod.fst q2.2<(0:Int))) (.f8 wk (.ctL (f9 (d8 Tryz.prog 23) 7) (St.mk [wj,(8,AV.ptr 1017 []),(10,AV.at_ 1000010 []),(11,AV.at_ 1000011 []),q3,q9,q6] [q1,q7,(1000011,g9.own Is bs)]))) (cond (decide (v0<=Prod.fst q2.2)) (.f8 wk (.ctL (f9 (d8 Tryz.prog 23) 7) (St.mk [wj,(8,AV.ptr 1017 []),(10,AV.at_ 1000010 []),(11,AV.at_ 1000011 []),q3,q9,q6] [q1,q7,(1000011,g9.own Is bs)]))) (cond (decide (Prod.fst q2=(1:Int))) (.f8 ((0:Int)<=Prod.fst q2.2/\Prod.fst q2.2<(↑(List.length cr):Int)) (.f8 ((0:Int)<=Prod.fst q2.2/\Prod.fst q2.2<(↑(List.length cr):Int)) (.f8 ([]++[Step.idx q2.2.1]=[]++[Step.idx q2.2.1]/\List.length (List.getD cr yB [])+List.length (List.set [[]] (Int.toNat (↑0:Int)) DC.1)<=140737488355328/\(List.length (List.getD cr yB [])+List.length (List.set [[]] (Int.toNat (↑0:Int)) DC.1))*Ty.wb Ty.str<=140737488355328) (cond (decide (Prod.fst q2=(4:Int))) (.f8 (List.length bs+List.length q8<=140737488355328/\DD*Ty.wb f7<=140737488355328) (.f8 wk (.ctL (f9 (d8 Tryz.prog 23) 7) (St.mk [wj,(8,AV.ptr 1017 []),(10,AV.at_ 1000010 []),(11,AV.at_ 1000011 []),q3,q9,q6] [q1,MV,DG])))) (.f8 wk (.ctL (f9 (d8 Tryz.prog 23) 7) (St.mk [wj,(8,AV.ptr 1017 []),(10,AV.at_ 1000010 []),(11,AV.at_ 1000011 []),q3,q9,q6] [q1,MV,(1000011,g9.own Is bs)]))))))) (cond (decide (Prod.fst q2=(4:Int))) (.f8 (List.length bs+List.length q8<=140737488355328/\DD*Ty.wb f7<=140737488355328) (.f8 wk (.ctL (f9 (d8 Tryz.prog 23) 7) (St.mk [wj,(8,AV.ptr 1017 []),(10,AV.at_ 1000010 []),(11,AV.at_ 1000011 []),q3,q9,q6] [q1,q7,DG])))) (.f8 wk (.ctL (f9 (d8 Tryz.prog 23) 7) (St.mk [wj,(8,AV.ptr 1017 []),(10,AV.at_ 1000010 []),(11,AV.at_ 1000011 []),q3,q9,q6] [q1,q7,(1000011,g9.own Is bs)]))))))))))) (.ret ((some Ag,cr,bs,true,()))):=by kernel_rfl
def C2:Nat->d9->d9×Bool
  | 0,w=>(w,decide ((w.2.2.2.1.length:Int)=0))
  | k+1,w=>if (w.2.2.2.1.length:Int)=0 then (w,true) else if (w8 w 0 1).2≠0 then ((w8 w 0 1).1,false) else C2 k (w8 w 0 1).1
theorem Af {k:Nat} {w:d9} (h:(w.2.2.2.1.length:Int)=0):C2 k w=(w,true):=by
  cases k with
  | zero=>rw [C2,decide_eq_true h]
  | succ k=>rw [C2,if_pos h]
structure Fit (most:Int) (w:d9):Prop where
  nn:0<=most/\most<=1000000
  ok:∃ c said,Ok c said w/\c<=100000000000
def Kq:r9:={ ps:=[.rw s9,.v f7],rs:=[.bool],pre:=λ x=>Fit x.2.1 x.1,fn:=λ x=>((C2 (Int.toNat x.2.1) x.1).2,()),out:=λ x=>((C2 (Int.toNat x.2.1) x.1).1,()) }
noncomputable def Df:Env:={ P:=Tryz.prog,tt:=tt,E3:=[(17,GW),(18,Em)],res:=[Go.ResultVar.tmp 4],rs:=[Ty.bool],ps:=[PK.rw s9,PK.v f7],D5:=[(2,[(0,none),(5,none),(6,none)])],nt:=18 }
theorem MG:B8 Df:=C4 s7 ⟨c1Q,a91,trivial⟩
theorem MJ:D7 Df Tryz.f16:=⟨rfl,rfl⟩
theorem b9D (ai:Int) (af:Int) (ab:List o5) (ae:List yY) (aa:List yY) (x1:Int):exec Df 1000 [.code (d8 Tryz.prog 16)] (w9 Kq.ps ((((ai,af,()),ab,ae,aa,()),x1,()))) =
  .ctL (f9 (d8 Tryz.prog 16) 2) (St.mk [(0,AV.ptr 2000000 []),(5,AV.val f7 x1),(6,AV.val f7 (0:Int))] [(2000000,g9.var s9 ((ai,af,()),ab,ae,aa,()))]):=by kernel_rfl
def MH (v5:Int) (v6:Int) (az:Int) (an:Int) (aj:List o5) (ak:List yY) (ah:List yY):St:=St.mk [(0,AV.ptr 2000000 []),(5,AV.val f7 v5),(6,AV.val f7 v6)] [(2000000,g9.var s9 ((az,an,()),aj,ak,ah,()))]
theorem b8g (v5:Int) (v6:Int) (az:Int) (an:Int) (aj:List o5) (ak:List yY) (ah:List yY):exec Df 1000 (.code (f9 (d8 Tryz.prog 16) 2).1::.inLoop (f9 (d8 Tryz.prog 16) 2).1::(f9 (d8 Tryz.prog 16) 2).2) (MH v5 v6 az an aj ak ah) =
  cond (decide (v6<v5)) (.f8 (True) (cond (decide ((↑(List.length ah):Int)=(0:Int))) (.ret ((true,((az,an,()),aj,ak,ah,()),()))) (.f8 (Cp ((az,an,()),aj,ak,ah,())) (cond (decide (Prod.snd (w8 ((az,an,()),aj,ak,ah,()) (0:Int) (1:Int))≠(0:Int))) (.ret ((false,Prod.fst (w8 ((az,an,()),aj,ak,ah,()) (0:Int) (1:Int)),()))) (.f8 (w4 IntKind.i64 (v6+(1:Int))) (.ctL (f9 (d8 Tryz.prog 16) 2) (St.mk [(0,AV.ptr 2000000 []),(5,AV.val f7 v5),(6,AV.val f7 (v6+(1:Int)))] [(2000000,g9.var s9 (w8 ((az,an,()),aj,ak,ah,()) (0:Int) (1:Int)).1)]))))))) (.f8 (True) (.ret ((decide ((↑(List.length ah):Int)=(0:Int)),((az,an,()),aj,ak,ah,()),())))):=by kernel_rfl
attribute [local irreducible] w8 in
theorem b3C:Kq.Valid Tryz.prog 16:=by
  refine r9.p7 MG rfl rfl Tryz.func16 (c:=d8 Tryz.prog 16) rfl rfl MJ rfl ?_;rintro ⟨⟨⟨(v0:Int),(v1:Int),⟨⟩⟩,(al:List o5),(od:List yY),(wy:List yY),⟨⟩⟩,(most:Int),⟨⟩⟩ (hf:Fit most ((v0,v1,()),al,od,wy,())) -
  refine j6 (n:=1000) MG MJ ?_;refine i7 (b9D v0 v1 al od wy most) ?_;obtain ⟨c0,said,aH,eT⟩:=hf.ok;have hm:=hf.nn;obtain ⟨w0,rk⟩:∃ w:d9,w=((v0,v1,()),al,od,wy,()):=⟨_,rfl⟩;rw [<- rk] at aH;have key:∀ (w:d9) (i:Nat),C2 most.toNat w0=C2 (most.toNat - i) w->∀ r:d9×Bool,C2 (most.toNat - i) w=r->(((r.2,r.1,()):Bool×d9×Unit)=((C2 most.toNat w0).2,(C2 most.toNat w0).1,())):=by
    rintro w i e r rfl; rw [e]
  suffices go:Go.Ex.Reach Df Tryz.f16 ((C2 most.toNat w0).2,()) ((C2 most.toNat w0).1,()) (.code (f9 (d8 Tryz.prog 16) 2).1::.inLoop (f9 (d8 Tryz.prog 16) 2).1::(f9 (d8 Tryz.prog 16) 2).2) (MH most ((0:Nat):Int) w0.1.1 w0.1.2.1 w0.2.1 w0.2.2.1 w0.2.2.2.1) by
    subst rk; exact go
  refine Reach.N4 MG MJ (λ i:Nat×d9=>MH most (i.1:Int) i.2.1.1 i.2.1.2.1 i.2.2.1 i.2.2.2.1 i.2.2.2.2.1) (λ i=>i.1<=most.toNat/\C2 most.toNat w0=C2 (most.toNat - i.1) i.2/\Ok (c0+16*i.1) said i.2)
    (λ i=>most.toNat - i.1) 1000 (λ _=>⟨w6 rfl,w6 rfl⟩) ?_ (0,w0) ⟨aAr _,rfl,aH⟩
  rintro ⟨i,w⟩ ⟨k1,k2,k3⟩ - ih;have k1:i<=most.toNat:=k1;have k2:C2 most.toNat w0=C2 (most.toNat - i) w:=k2;have k3:Ok (c0+16*i) said w:=k3;have ih1:i<most.toNat->C2 most.toNat w0=C2 (most.toNat - (i+1)) (w8 w 0 1).1->_:=λ h e=>ih (i+1,(w8 w 0 1).1) ⟨by show i+1<=most.toNat; omega,e,by rw [show c0+16*(i+1)=c0+16*i+16 by omega]; exact k3.yN 0 1⟩ (by show most.toNat - (i+1)<most.toNat - i; omega);refine i7 (b8g ..) ?_;have e1:((i:Nat):Int)+1=((i+1:Nat):Int):=by omega
  obtain ⟨⟨u0,u1,⟨⟩⟩,ual,uod,uwy,⟨⟩⟩:=w;simp only [j7,Tree.holds,e1,sL];have e2:i<most.toNat->C2 (most.toNat - i) ((u0,u1,()),ual,uod,uwy,())=if (uwy.length:Int)=0 then (((u0,u1,()),ual,uod,uwy,()),true) else if (w8 ((u0,u1,()),ual,uod,uwy,()) 0 1).2≠0 then ((w8 ((u0,u1,()),ual,uod,uwy,()) 0 1).1,false) else C2 (most.toNat - (i+1)) (w8 ((u0,u1,()),ual,uod,uwy,()) 0 1).1:=λ h=>by
    rw [show most.toNat - i=(most.toNat - (i+1))+1 by omega,C2]
  refine ⟨λ c=>⟨λ d=>?_,λ d=>⟨(k3.Aj (by omega)).move,λ _=>⟨λ e=>?_,λ e=>⟨G6.2 ⟨by omega,by omega⟩,λ _=>?_⟩⟩⟩⟩,λ c=>?_⟩
  . exact key _ i k2 (_,_) ((e2 (by omega)).trans (if_pos d))
  . exact key _ i k2 (_,_) ((e2 (by omega)).trans ((if_neg d).trans (if_pos e)))
  . exact ih1 (by omega) (k2.trans ((e2 (by omega)).trans ((if_neg d).trans (if_neg (by simpa using e)))))
  . obtain rfl:i=most.toNat:=by omega
    exact key _ _ k2 (_,_) (by rw [aHl]; rfl)
def Hs:r9:={ ps:=[.v (.d0 false f7),.v f7],rs:=[f7],pre:=λ _=>True,fn:=λ x=>(idxOf (λ y=>decide ((show Int from x.2.1)=y)) x.1,()),out:=λ _=>() }
noncomputable def Ec:Env:={ P:=Tryz.prog,tt:=tt,E3:=[],res:=[Go.ResultVar.tmp 4],rs:=[Ty.int IntKind.i64],ps:=[PK.v (Ty.d0 false f7),PK.v f7],D5:=[(2,[(0,none),(1,none),(7,none),(8,none)])],nt:=19 }
theorem JO:B8 Ec:=C4 s7 trivial
theorem KH:D7 Ec Tryz.f69:=⟨rfl,rfl⟩
theorem Wt (x0:List Int) (x1:Int):exec Ec 1000 [.code (d8 Tryz.prog 69)] (w9 Hs.ps ((x0,x1,()))) =
  .ctL (f9 (d8 Tryz.prog 69) 2) (St.mk [(0,AV.val (Ty.d0 false f7) x0),(1,AV.val f7 x1),(7,AV.val f7 (↑(List.length x0):Int)),(8,AV.val f7 (0:Int))] []):=by kernel_rfl
def QG (v0:List Int) (v1:Int) (v7:Int) (v8:Int):St:=St.mk [(0,AV.val (Ty.d0 false f7) v0),(1,AV.val f7 v1),(7,AV.val f7 v7),(8,AV.val f7 v8)] []
theorem YR (v0:List Int) (v1:Int) (v7:Int) (v8:Int):exec Ec 1000 (.code (f9 (d8 Tryz.prog 69) 2).1::.inLoop (f9 (d8 Tryz.prog 69) 2).1::(f9 (d8 Tryz.prog 69) 2).2) (QG v0 v1 v7 v8) =
  cond (decide (v8<v7)) (.f8 ((0:Int)<=v8/\v8<(↑(List.length v0):Int)) (cond (decide (v1=List.getD v0 (Int.toNat v8) (0:Int))) (.ret ((v8,()))) (.f8 (w4 IntKind.i64 (v8+(1:Int))) (.ctL (f9 (d8 Tryz.prog 69) 2) (St.mk [(0,AV.val (Ty.d0 false f7) v0),(1,AV.val f7 v1),(7,AV.val f7 v7),(8,AV.val f7 (v8+(1:Int)))] []))))) (.ret (((-1:Int),()))):=by kernel_rfl
theorem b9j:Hs.Valid Tryz.prog 69:=by
  refine r9.p7 JO rfl rfl Tryz.func69 (c:=d8 Tryz.prog 69) rfl rfl KH rfl ?_;rintro ⟨(l:List (Int)),(x:Int),⟨⟩⟩ - ⟨⟨hl,-⟩,-⟩;have hl:l.length<=9223372036854775807:=hl;refine j6 (n:=1000) JO KH ?_;refine i7 (Wt l x) ?_;refine Reach.N4 JO KH (λ i:Nat=>QG l x (l.length:Int) (i:Int) ) (λ i=>i<=l.length/\idxOf (λ y=>decide (x=y)) l=X9 (λ y=>decide (x=y)) (l.drop i) i)
    (λ i=>l.length - i) 1000 (λ _=>⟨w6 rfl,w6 rfl⟩) ?_ 0 ⟨by omega,rfl⟩
  rintro i ⟨k1,k2⟩ - ih;refine i7 (YR ..) ?_;simp only [j7,Tree.holds,sL];refine ⟨λ h=>?_,λ h=>?_⟩
  . rw [FF (show i<l.length by omega) 0,X9] at k2;have key:∀ b:Bool,(b=true↔x=l.getD i 0)->(b=true->(((i:Int),()):Int×Unit)=(idxOf (λ y=>decide (x=y)) l,()))/\(b=false->idxOf (λ y=>decide (x=y)) l=X9 (λ y=>decide (x=y)) (l.drop (i+1)) (i+1)):=λ b hb=>by
      refine ⟨λ c=>?_,λ c=>?_⟩
      . rw [k2,if_pos (decide_eq_true (hb.1 c))]
      . rw [k2,if_neg (λ h9=>by rw [hb.2 (of_decide_eq_true h9)] at c; cases c)]
    refine ⟨by omega,λ _=>⟨λ c=>?_,λ c=>⟨by omega,λ _=>ih (i+1) ⟨by omega,?_⟩ (by omega)⟩⟩⟩
    . exact (key true ⟨λ _=>c,λ _=>rfl⟩).1 rfl
    . exact (key false ⟨λ h9=>(by cases h9),λ h9=>(c h9).elim⟩).2 rfl
  . rw [aDs (by omega)] at k2;show (((-1:Int),()):Int×Unit)=(idxOf (λ y=>decide (x=y)) l,());rw [k2]; rfl
def IB:r9:={ ps:=[.v (.d0 false f7),.v f7],rs:=[.bool],pre:=λ _=>True,fn:=λ x=>(decide ((show Int from x.2.1)∈(show List (Int) from x.1)),()),out:=λ _=>() }
noncomputable def Ij:Env:={ P:=Tryz.prog,tt:=tt,E3:=[(69,Hs)],res:=[Go.ResultVar.tmp 4],rs:=[Ty.bool],ps:=[PK.v (Ty.d0 false f7),PK.v f7],D5:=[],nt:=9 }
theorem Ri:B8 Ij:=C4 s7 ⟨b9j,trivial⟩
theorem SD:D7 Ij Tryz.f52:=⟨rfl,rfl⟩
theorem YB (x0:List Int) (x1:Int):exec Ij 1000 [.code (d8 Tryz.prog 52)] (w9 IB.ps ((x0,x1,()))) =
  .f8 (True) (.ret ((decide ((0:Int)<=idxOf (λ y=>decide (x1=y)) x0),()))):=by kernel_rfl
theorem b7e:IB.Valid Tryz.prog 52:=by
  refine r9.p7 Ri rfl rfl Tryz.func52 (c:=d8 Tryz.prog 52) rfl rfl SD rfl ?_;rintro ⟨(l:List (Int)),(x:Int),⟨⟩⟩ - -
  refine j6 (n:=1000) Ri SD ?_;refine i7 (YB l x) ?_;refine ⟨trivial,λ _=>?_⟩;show ((decide (0<=idxOf (λ y=>decide (x=y)) l),()):Bool×Unit)=(decide (x∈l),());rw [EV];have:l.any (λ y=>decide (x=y))=true↔x∈l:=by
    rw [aEr];exact ⟨λ⟨y,h1,h2⟩=>by rw [of_decide_eq_true h2]; exact h1,λ h=>⟨x,h,decide_eq_true rfl⟩⟩
  cases e:l.any (λ y=>decide (x=y)) with
  | true=>rw [decide_eq_true (this.1 e)]
  | false=>rw [decide_eq_false (λ h=>by rw [this.2 h] at e; cases e)]
def P8 (w:d9) (Q4:List Int):Nat->List Int
  | 0=>[]
  | p+1=>if R5 w.1.2.1 p=true/\¬ (p:Int)∈Q4 then P8 w Q4 p++[(p:Int)] else P8 w Q4 p
theorem KV (w:d9) (Q4:List Int):∀ p,(P8 w Q4 p).length<=p
  | 0=>aAk _
  | p+1=>by
    have:=KV w Q4 p;rw [P8]
    split
    . rw [aAd]; simp only [aBn]; omega
    . omega
def Hr:r9:={ ps:=[.rd I0,.v f7,.v (.d0 false f7)],rs:=[.d0 true f7],pre:=λ x=>LE.le (α:=Int) 0 x.2.1/\LE.le (α:=Int) x.2.1 6,fn:=λ x=>(P8 x.1 x.2.2.1 (Int.toNat x.2.1),()),out:=λ _=>() }
noncomputable def BZ:Env:={ P:=Tryz.prog,tt:=tt,E3:=[(29,IQ),(52,IB)],res:=[Go.ResultVar.tmp 6],rs:=[Ty.d0 true f7],ps:=[PK.rd I0,PK.v f7,PK.v (Ty.d0 false f7)],D5:=[(3,[(0,none),(2,none),(7,some Is),(9,none),(10,none)])],nt:=32 }
theorem KM:B8 BZ:=C4 s7 ⟨b6S,b7e,trivial⟩
theorem Li:D7 BZ Tryz.f24:=⟨rfl,rfl⟩
theorem YK (ai:Int) (af:Int) (ab:List o5) (ae:List yY) (aa:List yY) (x1:Int) (x2:List Int):exec BZ 1000 [.code (d8 Tryz.prog 24)] (w9 Hr.ps ((((ai,af,()),ab,ae,aa,()),x1,x2,()))) =
  .ctL (f9 (d8 Tryz.prog 24) 3) (St.mk [(0,AV.N1 I0 ((ai,af,()),ab,ae,aa,())),(2,AV.val (Ty.d0 false f7) x2),(7,AV.at_ 1000007 []),(9,AV.val f7 x1),(10,AV.val f7 (0:Int))] [(1000007,g9.own Is [])]):=by kernel_rfl
def KN (bI:Int) (aZ:Int) (bA:List o5) (bp:List yY) (aY:List yY) (v2:List Int) (v9:Int) (v10:Int) (cg:List Int):St:=St.mk [(0,AV.N1 I0 ((bI,aZ,()),bA,bp,aY,())),(2,AV.val (Ty.d0 false f7) v2),(7,AV.at_ 1000007 []),(9,AV.val f7 v9),(10,AV.val f7 v10)] [(1000007,g9.own Is cg)]
theorem Zk (bI:Int) (aZ:Int) (bA:List o5) (bp:List yY) (aY:List yY) (v2:List Int) (v9:Int) (v10:Int) (cg:List Int):exec BZ 1000 (.code (f9 (d8 Tryz.prog 24) 3).1::.inLoop (f9 (d8 Tryz.prog 24) 3).1::(f9 (d8 Tryz.prog 24) 3).2) (KN bI aZ bA bp aY v2 v9 v10 cg) =
  cond (decide (v10<v9)) (.f8 (True) (.f8 ((0:Int)<=v10) (cond (decide (U2 IntKind.u8 (aZ / (2:Int)^min (Int.toNat v10) (IntKind.bits IntKind.u8)) (1:Int)=(1:Int))) (.f8 (True) (cond (!decide (v10∈v2)) (.f8 (List.length cg+List.length (List.set [(0:Int)] (Int.toNat (↑0:Int)) v10)<=140737488355328/\(List.length cg+List.length (List.set [(0:Int)] (Int.toNat (↑0:Int)) v10))*Ty.wb f7<=140737488355328) (.f8 (w4 IntKind.i64 (v10+(1:Int))) (.ctL (f9 (d8 Tryz.prog 24) 3) (St.mk [(0,AV.N1 I0 ((bI,aZ,()),bA,bp,aY,())),(2,AV.val (Ty.d0 false f7) v2),(7,AV.at_ 1000007 []),(9,AV.val f7 v9),(10,AV.val f7 (v10+(1:Int)))] [(1000007,g9.own Is (cg++List.set [(0:Int)] (Int.toNat (↑0:Int)) v10))])))) (.f8 (w4 IntKind.i64 (v10+(1:Int))) (.ctL (f9 (d8 Tryz.prog 24) 3) (St.mk [(0,AV.N1 I0 ((bI,aZ,()),bA,bp,aY,())),(2,AV.val (Ty.d0 false f7) v2),(7,AV.at_ 1000007 []),(9,AV.val f7 v9),(10,AV.val f7 (v10+(1:Int)))] [(1000007,g9.own Is cg)]))))) (.f8 (w4 IntKind.i64 (v10+(1:Int))) (.ctL (f9 (d8 Tryz.prog 24) 3) (St.mk [(0,AV.N1 I0 ((bI,aZ,()),bA,bp,aY,())),(2,AV.val (Ty.d0 false f7) v2),(7,AV.at_ 1000007 []),(9,AV.val f7 v9),(10,AV.val f7 (v10+(1:Int)))] [(1000007,g9.own Is cg)])))))) (.ret ((cg,()))):=by kernel_rfl
theorem b9k:Hr.Valid Tryz.prog 24:=by
  refine r9.p7 KM rfl rfl Tryz.func24 (c:=d8 Tryz.prog 24) rfl rfl Li rfl ?_;rintro ⟨⟨⟨(v0:Int),(v1:Int),⟨⟩⟩,(al:List o5),(od:List yY),(wy:List yY),⟨⟩⟩,(n:Int),(Q4:List Int),⟨⟩⟩ ⟨(h0:0<=n),(h6:n<=6)⟩ -
  refine j6 (n:=1000) KM Li ?_;refine i7 (YK v0 v1 al od wy n Q4) ?_;obtain ⟨w,hw⟩:∃ w:d9,w=((v0,v1,()),al,od,wy,()):=⟨_,rfl⟩;show Go.Ex.Reach BZ Tryz.f24 (P8 ((v0,v1,()),al,od,wy,()) Q4 n.toNat,()) () (.code (f9 (d8 Tryz.prog 24) 3).1::.inLoop (f9 (d8 Tryz.prog 24) 3).1::(f9 (d8 Tryz.prog 24) 3).2) (KN v0 v1 al od wy Q4 n ((0:Nat):Int) (P8 ((v0,v1,()),al,od,wy,()) Q4 0));rw [<- hw];refine Reach.N4 KM Li (λ p:Nat=>KN v0 v1 al od wy Q4 n (p:Int) (P8 w Q4 p)) (λ p=>p<=n.toNat) (λ p=>n.toNat - p) 1000 (λ _=>⟨w6 rfl,w6 rfl⟩) ?_ 0 (aAr _);rintro p k1 - ih;have k1:p<=n.toNat:=k1;refine i7 (Zk ..) ?_;have e1:((p:Nat):Int)+1=((p+1:Nat):Int):=by omega
  have jD:Ty.wb f7=8:=rfl;have hl:=KV w Q4 p;have ih1:p<n.toNat->_:=λ h=>ih (p+1) (by show p+1<=n.toNat; omega) (by show n.toNat - (p+1)<n.toNat - p; omega);have hm:R5 w.1.2.1 p=true↔U2 .u8 (v1 / 2^min p IntKind.u8.bits) 1=1:=by rw [hw]; exact decide_eq_true_iff
  simp only [j7,Tree.holds,e1,jD,sL];refine ⟨λ c=>⟨by omega,λ _=>⟨λ d=>⟨λ e=>⟨by omega,λ _=>⟨G6.2 ⟨by omega,by omega⟩,λ _=>?_⟩⟩,λ e=>⟨G6.2 ⟨by omega,by omega⟩,λ _=>?_⟩⟩,λ d=>⟨G6.2 ⟨by omega,by omega⟩,λ _=>?_⟩⟩⟩,λ c=>?_⟩
  . have:=ih1 (by omega);rw [show P8 w Q4 (p+1)=P8 w Q4 p++[(p:Int)] from if_pos ⟨hm.2 d,by simpa using e⟩] at this;exact this
  . have:=ih1 (by omega);rw [show P8 w Q4 (p+1)=P8 w Q4 p from if_neg (λ h=>h.2 (by simpa using e))] at this;exact this
  . have:=ih1 (by omega);rw [show P8 w Q4 (p+1)=P8 w Q4 p from if_neg (λ h=>d (hm.1 h.1))] at this;exact this
  . obtain rfl:p=n.toNat:=by omega
    rfl
theorem Sw {w:d9} {d:H6} (he:(N6 w d).2=0) (hd:d.1=1\/d.1=4):0<=d.2.1/\d.2.1<(w.2.1.length:Int):=by
  have hk:¬ known w d.2.1≠0:=by
    unfold N6 at he;rcases hd with hd|hd
    . rw [if_pos hd,P5] at he;by_cases a:K1 w d.2.1≠0
      . rw [if_pos a] at he; exact absurd he a
      . unfold K1 at a;split at a
        . rename_i h; exact absurd h a
        . rename_i h; exact h
    . rw [if_neg (by omega),if_neg (by omega),if_neg (by omega),if_pos hd,wA] at he;split at he
      . rename_i h; exact absurd he h
      . rename_i h; exact h
  exact Ab.1 hk
def W7 (s:wg) (p:Nat):List u7:=s.2.1.getD p []
structure Ch (n:Int) (i:Nat) (s:wg):Prop where
  ok:Ok (16*i) (W7 s) s.1
  len:s.1.2.1.length=n.toNat
  said:s.2.1.length=n.toNat
  H8:s.2.2.length<=i
  each:∀ p,(W7 s p).length<=i
  Q4:∀ p:Nat,p<n.toNat->(s.1.2.1.getD p g8).1=decide ((p:Int)∈s.2.2)
theorem c3G {n:Int} (hn:1<=n/\n<=6) {i:Nat} {s:wg} (h:Ch n i s) (d:H6):Ch n (i+1) (yx n s d):=by
  have hd:=zm h.ok d;have mz:16*i+16=16*(i+1):=by omega
  have hlen:=h.len;rw [yx];by_cases c:(N6 s.1 d).2≠0\/d.2.1<0\/n<=d.2.1
  . rw [if_pos c];have h1:¬ (d.1=1/\(N6 s.1 d).2=0):=λ e=>by
      have:=Sw e.2 (.inl e.1);rcases c with c|c|c
      . exact c e.2
      . omega
      . omega
    have h4:¬ (d.1=4/\(N6 s.1 d).2=0):=λ e=>by
      have:=Sw e.2 (.inr e.1);rcases c with c|c|c
      . exact c e.2
      . omega
      . omega
    refine ⟨?_,hd.len.trans h.len,h.said,Nat.le_succ_of_le h.H8,λ p=>Nat.le_succ_of_le (h.each p),λ p hp=>?_⟩
    . have:=hd.ok;rw [Z0,if_neg h1,mz] at this;exact this
    . rw [hd.fal p (by omega),h.Q4 p hp,decide_eq_false (λ e:d.1=4/\_/\_=>h4 ⟨e.1,e.2.1⟩),aDj]
  . rw [if_neg c];have he:(N6 s.1 d).2=0:=aBt.1 (λ e=>c (.inl e));have hw:0<=d.2.1/\d.2.1<n:=⟨Int.not_lt.1 (λ e=>c (.inr (.inl e))),Int.not_le.1 (λ e=>c (.inr (.inr e)))⟩;obtain ⟨q,hq⟩:∃ q:Nat,d.2.1=q:=⟨d.2.1.toNat,by omega⟩;have sQ:q<s.2.1.length:=by rw [h.said]; omega
    have eN:∀ x:List u7,W7 (((N6 s.1 d).1,s.2.1.set q x,s.2.2):wg)=vV (W7 s) q x:=λ x=>by
      funext p
      show (s.2.1.set q x).getD p []=_;unfold vV;rw [aAb,aFj];by_cases e:p=q
      . subst e; rw [if_pos rfl,if_pos rfl,if_pos sQ]; rfl
      . rw [if_neg (Ne.symm e),if_neg e];show _=s.2.1.getD p [];rw [aAb]
    rw [hq];refine ⟨?_,hd.len.trans h.len,?_,?_,λ p=>?_,λ p hp=>?_⟩
    . have:=hd.ok;rw [mz] at this;by_cases e:d.1=1
      . rw [Z0,if_pos ⟨e,he⟩,hq] at this;rw [if_pos e];have h2:=eN (s.2.1.getD q []++[d.2.2.2.1]);show Ok _ (W7 (((N6 s.1 d).1,s.2.1.set q (s.2.1.getD q []++[d.2.2.2.1]),s.2.2):wg)) _;rw [h2];exact this
      . rw [Z0,if_neg (λ c=>e c.1)] at this;rw [if_neg e];exact this
    . show (if d.1=1 then _ else _:List (List u7)).length=_
      split
      . rw [aBj]; exact h.said
      . exact h.said
    . show (if d.1=4 then _ else _:List Int).length<=_;have:=h.H8
      split
      . rw [aAd]; simp only [aBn]; omega
      . omega
    . show ((if d.1=1 then s.2.1.set q (s.2.1.getD q []++[d.2.2.2.1]) else s.2.1).getD p []).length<=_;have h3:=h.each p;have h4:=h.each q
      split
      . have h2:=congrFun (eN (s.2.1.getD q []++[d.2.2.2.1])) p;have h2:(s.2.1.set q (s.2.1.getD q []++[d.2.2.2.1])).getD p []=vV (W7 s) q (s.2.1.getD q []++[d.2.2.2.1]) p:=h2;rw [h2];unfold vV
        split
        . rw [aAd]; simp only [aBn];have h4:(s.2.1.getD q []).length<=i:=h4;omega
        . omega
      . have h3:(s.2.1.getD p []).length<=i:=h3;omega
    . show ((N6 s.1 d).1.2.1.getD p g8).1=decide ((p:Int)∈(if d.1=4 then s.2.2++[(q:Int)] else s.2.2));rw [hd.fal p (by omega),h.Q4 p hp];by_cases e:d.1=4
      . rw [if_pos e];by_cases e2:q=p
        . subst e2;rw [decide_eq_true (p:=d.1=4/\(N6 s.1 d).2=0/\d.2.1=(q:Int)) ⟨e,he,hq⟩,Bool.or_true,decide_eq_true (aBs _ (aBe.2 rfl))]
        . rw [decide_eq_false (λ c:d.1=4/\_/\_=>e2 (by have:=c.2.2; omega)),aDj];apply decide_eq_decide.2;rw [aAi,aBe];constructor
          . exact .inl
          . rintro (h|h)
            . exact h
            . exact absurd h (by omega)
      . rw [if_neg e,decide_eq_false (λ c:d.1=4/\_/\_=>e c.1),aDj]
theorem CE {n:Int} (hn:1<=n/\n<=6) (l:List H6):∀ i,Ch n i (G3 n l i)
  | 0=>by
    have hl:(wm n).2.1.length=n.toNat:=aCc ..;have hs:W7 (G3 n l 0)=λ _=>[]:=by
      funext p
      show (List.replicate n.toNat ([]:List u7)).getD p []=[];rw [aAb,aFm]
      split<;>rfl
    refine ⟨by rw [hs]; exact NN hn,hl,aCc ..,aAk _,λ p=>(by rw [hs]; exact aAk _),λ p hp=>?_⟩;show ((List.replicate n.toNat g8).getD p g8).1=_;rw [JW]; rfl
  | i+1=>c3G hn (CE hn l i) _
theorem LG {n:Int} {s:wg} {d:H6} (h:(N6 s.1 d).2≠0\/d.2.1<0\/n<=d.2.1):yx n s d=((N6 s.1 d).1,s.2):=by rw [yx]; exact if_pos h
theorem Kh {n:Int} {s:wg} {d:H6} (h1:(N6 s.1 d).2=0) (h2:¬ d.2.1<0) (h3:¬ n<=d.2.1):yx n s d=((N6 s.1 d).1,if d.1=1 then s.2.1.set d.2.1.toNat (s.2.1.getD d.2.1.toNat []++[d.2.2.2.1]) else s.2.1,if d.1=4 then s.2.2++[d.2.1] else s.2.2):=by
  rw [yx]; exact if_neg (λ h=>h.elim (λ e=>e h1) (λ h=>h.elim h2 h3))
attribute [local irreducible] N6 in
set_option maxHeartbeats 4000000 in
theorem b5z:Jf.Valid Tryz.prog 23:=by
  refine r9.p7 Ml rfl rfl Tryz.func23 (c:=d8 Tryz.prog 23) rfl rfl Mp rfl ?_;rintro ⟨(n:Int),(l:List H6),⟨⟩⟩ ⟨(hn:1<=n/\n<=6),(hl:l.length<=1048576)⟩ -
  refine j6 (n:=1000) Ml Mp ?_;refine i7 (c3k n l) ?_;have jD:Ty.wb (.d0 true .str)=24:=rfl;simp only [j7,Tree.holds,jD,sL];refine ⟨hn,λ _=>⟨⟨by omega,by omega,by omega,by omega⟩,λ _=>?_⟩⟩;have hW:=CE hn l;show Go.Ex.Reach CN Tryz.f23 (some (G3 n l l.length).1,(G3 n l l.length).2.1,(G3 n l l.length).2.2,true,()) () (.code (f9 (d8 Tryz.prog 23) 7).1::.inLoop (f9 (d8 Tryz.prog 23) 7).1::(f9 (d8 Tryz.prog 23) 7).2) (Mm n l (l.length:Int) ((0:Nat):Int) (G3 n l 0).1.1.1 (G3 n l 0).1.1.2.1 (G3 n l 0).1.2.1 (G3 n l 0).1.2.2.1 (G3 n l 0).1.2.2.2.1 (G3 n l 0).2.1 (G3 n l 0).2.2);refine Reach.N4 Ml Mp (λ i:Nat=>Mm n l (l.length:Int) (i:Int) (G3 n l i).1.1.1 (G3 n l i).1.1.2.1 (G3 n l i).1.2.1 (G3 n l i).1.2.2.1 (G3 n l i).1.2.2.2.1 (G3 n l i).2.1 (G3 n l i).2.2) (λ i=>i<=l.length) (λ i=>l.length - i) 1000 (λ _=>⟨w6 rfl,w6 rfl⟩) ?_ 0 (aAr _);rintro i k1 - ih;have k1:i<=l.length:=k1;have hS:=hW i;have ih1:∀ s':wg,i<l.length->s'=yx n (G3 n l i) (Cc i (l.getD i BJ))->_:=λ s' h e=>by
    have:=ih (i+1) (by show i+1<=l.length; omega) (by show l.length - (i+1)<l.length - i; omega);rw [show G3 n l (i+1)=s' from e.symm] at this;exact this
  generalize hs:G3 n l i=s at hS ih1 ⊢;have hg:=(hS.ok.Aj (by omega));have hle:s.2.1.length=n.toNat:=hS.said;have fM:s.2.2.length<=i:=hS.H8;have qt:∀ p,(s.2.1.getD p []).length<=i:=hS.each;refine i7 (b9A ..) ?_;have e1:((i:Nat):Int)+1=((i+1:Nat):Int):=by omega
  have pa:Ty.wb .str=16:=rfl;have sv:Ty.wb (.int .i64)=8:=rfl;have jo:maxLen=9223372036854775807:=by decide
  have fx:(E4 (Int.tmod (i:Int) 10)).length<=20:=Dw (by have:=Int.tmod_nonneg (a:=(i:Int)) 10 (by omega); omega) (by have:=aEi (i:Int) (show (0:Int)<10 by decide); omega);have ml:(E4 (i:Int)).length<=20:=Dw (by omega) (by omega);obtain ⟨d,hd⟩:∃ d,d=l.getD i BJ:=⟨_,rfl⟩;rw [<- hd] at ih1;simp only [BJ] at hd;simp only [j7,Tree.holds,e1,pa,sv,sL];rw [<- hd];clear hd;obtain ⟨dk,dw,dh,dt,⟨⟩⟩:=d;obtain ⟨w,sd,fl⟩:=s;have dy:-9223372036854775808<=((i+1:Nat):Int)/\((i+1:Nat):Int)<=9223372036854775807:=⟨by omega,by omega⟩;have qs:=qt dw.toNat;simp only at hle fM qs;dsimp only at hg ⊢;refine ⟨λ c=>⟨by omega,λ _=>⟨λ c1=>?_,λ c1=>?_⟩⟩,λ c=>?_⟩
  . have kI:Cc i (dk,dw,dh,dt,())=(dk,dw,dh,Eb++E4 (Int.tmod i 10)++spT++E4 i,()):=if_pos c1;have ih1:=λ s' h e=>ih1 s' h (by rw [kI]; exact e);have wy:=LG (n:=n) (s:=(w,sd,fl)) (d:=(dk,dw,dh,Eb++E4 (Int.tmod i 10)++spT++E4 i,()));have wn:=Kh (n:=n) (s:=(w,sd,fl)) (d:=(dk,dw,dh,Eb++E4 (Int.tmod i 10)++spT++E4 i,()));refine ⟨by decide,λ _=>⟨?_,λ _=>⟨?_,λ _=>⟨?_,λ _=>⟨hg,λ _=>?_⟩⟩⟩⟩⟩
    . rw [jo]; omega
    . simp only [aAd,aAh,aCi,jo]; omega
    . simp only [aAd,aAh,aCi,jo]; omega
    refine ⟨λ e=>⟨dy,λ _=>?_⟩,λ e=>⟨λ b=>⟨dy,λ _=>?_⟩,λ b=>⟨λ b2=>⟨dy,λ _=>?_⟩,λ b2=>⟨λ k1=>⟨by omega,λ _=>⟨by omega,λ _=>⟨⟨by omega,by omega⟩,λ _=>⟨λ k4=>by omega,λ k4=>⟨dy,λ _=>?_⟩⟩⟩⟩⟩,λ k1=>absurd c1 k1⟩⟩⟩⟩
    . exact ih1 (_,_,_) (by omega) (wy (.inl e)).symm
    . exact ih1 (_,_,_) (by omega) (wy (.inr (.inl b))).symm
    . exact ih1 (_,_,_) (by omega) (wy (.inr (.inr b2))).symm
    . exact ih1 (_,_,_) (by omega) (by
        rw [wn (by simpa using e) b b2];simp only;rw [if_pos c1,if_neg k4]; rfl)
  . have kI:Cc i (dk,dw,dh,dt,())=(dk,dw,dh,dt,()):=if_neg c1;have ih1:=λ s' h e=>ih1 s' h (by rw [kI]; exact e);have wy:=LG (n:=n) (s:=(w,sd,fl)) (d:=(dk,dw,dh,dt,()));have wn:=Kh (n:=n) (s:=(w,sd,fl)) (d:=(dk,dw,dh,dt,()));refine ⟨hg,λ _=>?_⟩;refine ⟨λ e=>⟨dy,λ _=>?_⟩,λ e=>⟨λ b=>⟨dy,λ _=>?_⟩,λ b=>⟨λ b2=>⟨dy,λ _=>?_⟩,λ b2=>⟨λ k1=>absurd k1 c1,λ k1=>⟨λ k4=>⟨⟨by omega,by omega⟩,λ _=>⟨dy,λ _=>?_⟩⟩,λ k4=>⟨dy,λ _=>?_⟩⟩⟩⟩⟩⟩
    . exact ih1 (_,_,_) (by omega) (wy (.inl e)).symm
    . exact ih1 (_,_,_) (by omega) (wy (.inr (.inl b))).symm
    . exact ih1 (_,_,_) (by omega) (wy (.inr (.inr b2))).symm
    . exact ih1 (_,_,_) (by omega) (by
        rw [wn (by simpa using e) b b2];simp only;rw [if_neg c1,if_pos k4]; rfl)
    . exact ih1 (_,_,_) (by omega) (by
        rw [wn (by simpa using e) b b2];simp only;rw [if_neg c1,if_neg k4])
  . obtain rfl:i=l.length:=by omega
    rw [hs]; rfl
def Ek:r9:={ ps:=[.v (.d0 false o7),.v (.d0 false o7)],rs:=[.bool],pre:=λ _=>True,fn:=λ x=>(decide ((show List (s8) from x.1)=(show List (s8) from x.2.1)),()),out:=λ _=>() }
noncomputable def Ev:Env:={ P:=Tryz.prog,tt:=tt,E3:=[],res:=[Go.ResultVar.tmp 4],rs:=[Ty.bool],ps:=[PK.v K5,PK.v K5],D5:=[(4,[(0,none),(1,none),(12,none),(13,none)])],nt:=26 }
theorem JN:B8 Ev:=C4 s7 trivial
theorem KG:D7 Ev Tryz.f21:=⟨rfl,rfl⟩
theorem Xg (x0:List (Int×yY×Unit)) (x1:List (Int×yY×Unit)):exec Ev 1000 [.code (d8 Tryz.prog 21)] (w9 Ek.ps ((x0,x1,()))) =
  cond (decide ((↑(List.length x0):Int)≠(↑(List.length x1):Int))) (.ret ((false,()))) (.ctL (f9 (d8 Tryz.prog 21) 4) (St.mk [(0,AV.val K5 x0),(1,AV.val K5 x1),(12,AV.val f7 (↑(List.length x0):Int)),(13,AV.val f7 (0:Int))] [])):=by kernel_rfl
def PT (v0:List (Int×yY×Unit)) (v1:List (Int×yY×Unit)) (v12:Int) (wT:Int):St:=St.mk [(0,AV.val K5 v0),(1,AV.val K5 v1),(12,AV.val f7 v12),(13,AV.val f7 wT)] []
theorem YE (v0:List (Int×yY×Unit)) (v1:List (Int×yY×Unit)) (v12:Int) (wT:Int):exec Ev 1000 (.code (f9 (d8 Tryz.prog 21) 4).1::.inLoop (f9 (d8 Tryz.prog 21) 4).1::(f9 (d8 Tryz.prog 21) 4).2) (PT v0 v1 v12 wT) =
  cond (decide (wT<v12)) (.f8 ((0:Int)<=wT/\wT<(↑(List.length v0):Int)) (.f8 ((0:Int)<=wT/\wT<(↑(List.length v1):Int)) (cond (!eqD o7 (List.getD v0 (Int.toNat wT) ((0:Int),[],())) (List.getD v1 (Int.toNat wT) ((0:Int),[],()))) (.ret ((false,()))) (.f8 (w4 IntKind.i64 (wT+(1:Int))) (.ctL (f9 (d8 Tryz.prog 21) 4) (St.mk [(0,AV.val K5 v0),(1,AV.val K5 v1),(12,AV.val f7 v12),(13,AV.val f7 (wT+(1:Int)))] [])))))) (.ret ((true,()))):=by kernel_rfl
theorem Uy:Ek.Valid Tryz.prog 21:=by
  refine r9.p7 JN rfl rfl Tryz.func21 (c:=d8 Tryz.prog 21) rfl rfl KG rfl ?_;rintro ⟨(l:List (s8)),(m:List (s8)),⟨⟩⟩ - ⟨⟨hl,-⟩,-⟩;have hl:l.length<=9223372036854775807:=hl;refine j6 (n:=1000) JN KG ?_;refine i7 (Xg l m) ?_;have fin:∀ {b:Bool},(b=true↔l=m)->((b,()):Bool×Unit)=(decide (l=m),()):=λ {b} h=>by
    cases b with
    | true=>rw [decide_eq_true (h.1 rfl)]
    | false=>rw [decide_eq_false (λ e=>by cases h.2 e)]
  simp only [j7,Tree.holds,sL];refine ⟨λ c=>fin ⟨λ h=>(by cases h),λ h=>absurd (congrArg (λ q:List (s8)=>(q.length:Int)) h) c⟩,λ c=>?_⟩;refine Reach.N4 JN KG (λ i:Nat=>PT l m (l.length:Int) (i:Int)) (λ i=>i<=l.length/\∀ j,j<i->l.getD j (0,[],())=m.getD j (0,[],()))
    (λ i=>l.length - i) 1000 (λ _=>⟨w6 rfl,w6 rfl⟩) ?_ 0 ⟨aAr _,λ j hj=>by omega⟩
  rintro i ⟨k1,k2⟩ - ih;refine i7 (YE ..) ?_;have c:l.length=m.length:=by omega
  simp only [j7,Tree.holds,sL];refine ⟨λ d1=>⟨by omega,λ _=>⟨by omega,λ _=>⟨λ d2=>fin ⟨λ h=>(by cases h),λ h=>absurd (congrArg (λ q:List (s8)=>q.getD i (0,[],())) h) (RD d2)⟩,λ d2=>⟨by omega,λ _=>ih (i+1) ⟨by omega,λ j hj=>?_⟩ (by omega)⟩⟩⟩⟩,λ d1=>fin ⟨λ _=>eq_of_getD c (λ j hj=>k2 j (by omega)),λ _=>rfl⟩⟩;rcases aEd j i with h|h
  . exact k2 j h
  . obtain rfl:j=i:=by omega
    exact Ks.1 d2
noncomputable def W9:{ f:Int->List H6->Nat->wg // f=G3 }:=Classical.choice ⟨⟨G3,rfl⟩⟩
noncomputable def wO:{ f:Nat->d9->d9×Bool // f=C2 }:=Classical.choice ⟨⟨C2,rfl⟩⟩
def Wa (g:Int->List H6->Nat->wg):r9:={ ps:=[.v f7,.v (.d0 false xo)],rs:=[.box true none s9,.d0 true (.d0 true .str),.d0 true f7,.bool],pre:=λ x=>(LE.le (α:=Int) 1 x.1/\LE.le (α:=Int) x.1 6)/\List.length (α:=H6) x.2.1<=1048576,fn:=λ x=>(some (g x.1 x.2.1 (List.length (α:=H6) x.2.1)).1,(g x.1 x.2.1 (List.length (α:=H6) x.2.1)).2.1,(g x.1 x.2.1 (List.length (α:=H6) x.2.1)).2.2,true,()),out:=λ _=>() }
noncomputable def Cb:r9:={ ps:=[.v f7,.v (.d0 false xo)],rs:=[.box true none s9,.d0 true (.d0 true .str),.d0 true f7,.bool],pre:=λ x=>(LE.le (α:=Int) 1 x.1/\LE.le (α:=Int) x.1 6)/\List.length (α:=H6) x.2.1<=1048576,fn:=λ x=>(some (W9.1 x.1 x.2.1 (List.length (α:=H6) x.2.1)).1,(W9.1 x.1 x.2.1 (List.length (α:=H6) x.2.1)).2.1,(W9.1 x.1 x.2.1 (List.length (α:=H6) x.2.1)).2.2,true,()),out:=λ _=>() }
theorem UB:Cb.Valid Tryz.prog 23:=by
  have e:Cb=Jf:=(show Cb=Wa W9.1 from rfl).trans (by rw [W9.2]; rfl);rw [e]; exact b5z
def VF (g:Nat->d9->d9×Bool):r9:={ ps:=[.rw s9,.v f7],rs:=[.bool],pre:=λ x=>Fit x.2.1 x.1,fn:=λ x=>((g (Int.toNat x.2.1) x.1).2,()),out:=λ x=>((g (Int.toNat x.2.1) x.1).1,()) }
noncomputable def Cr:r9:={ ps:=[.rw s9,.v f7],rs:=[.bool],pre:=λ x=>Fit x.2.1 x.1,fn:=λ x=>((wO.1 (Int.toNat x.2.1) x.1).2,()),out:=λ x=>((wO.1 (Int.toNat x.2.1) x.1).1,()) }
theorem UY:Cr.Valid Tryz.prog 16:=by
  have e:Cr=Kq:=(show Cr=VF wO.1 from rfl).trans (by rw [wO.2]; rfl);rw [e]; exact b3C
abbrev Z7:List H6:=List.set [((0:Int),(0:Int),(0:Int),([]:yY),())] (Int.toNat ((0:Nat):Int)) (1,1,0,[],())
def Jd:r9:={ ps:=[],rs:=[.bool],pre:=λ _=>True,fn:=λ _=>(true,()),out:=λ _=>() }
noncomputable def CM:Env:={ P:=Tryz.prog,tt:=tt,E3:=[(23,Cb),(16,Cr),(19,DJ),(21,Ek)],res:=[Go.ResultVar.tmp 0],rs:=[Ty.bool],ps:=[],D5:=[(5,[(1,none),(2,some (Ty.d0 true (Ty.d0 true Ty.str))),(30,none)])],nt:=54 }
theorem Mj:B8 CM:=C4 s7 ⟨UB,UY,Ti,Uy,trivial⟩
theorem Mo:D7 CM Tryz.f12:=⟨rfl,rfl⟩
theorem c3m:exec CM 1000 [.code (d8 Tryz.prog 12)] (w9 Jd.ps (())) =
  .f8 (((1:Int)<=(3:Int)/\(3:Int)<=(6:Int))/\List.length Z7<=1048576) (.f8 ((0:Int)<=(1:Int)/\(1:Int)<(↑(List.length (Subtype.val W9 (3:Int) Z7 (List.length Z7)).2.1):Int)) (cond (decide ((↑(List.length (List.getD (Subtype.val W9 (3:Int) Z7 (List.length Z7)).2.1 (Int.toNat (1:Int)) [])):Int)≠(1:Int))) (.ret ((false,()))) (.f8 (Fit (50:Int) (Subtype.val W9 (3:Int) Z7 (List.length Z7)).1) (cond (!Prod.snd (Subtype.val wO (Int.toNat (50:Int)) (Subtype.val W9 (3:Int) Z7 (List.length Z7)).1)) (.ret ((false,()))) (.ctL (f9 (d8 Tryz.prog 12) 5) (St.mk [(1,AV.ptr 1011 []),(2,AV.at_ 1000002 []),(30,AV.val f7 (0:Int))] [(1011,g9.var s9 (Subtype.val wO (Int.toNat (50:Int)) (Subtype.val W9 (3:Int) Z7 (List.length Z7)).1).1),(1000002,g9.own (Ty.d0 true (Ty.d0 true Ty.str)) (Subtype.val W9 (3:Int) Z7 (List.length Z7)).2.1)])))))):=by kernel_rfl
def Mk (v30:Int) (ch:Int) (bL:Int) (bX:List o5) (bK:List yY) (bu:List yY) (eJ:List (List yY)):St:=St.mk [(1,AV.ptr 1011 []),(2,AV.at_ 1000002 []),(30,AV.val f7 v30)] [(1011,g9.var s9 ((ch,bL,()),bX,bK,bu,())),(1000002,g9.own (Ty.d0 true (Ty.d0 true Ty.str)) eJ)]
theorem b9B (v30:Int) (ch:Int) (bL:Int) (bX:List o5) (bK:List yY) (bu:List yY) (eJ:List (List yY)):exec CM 1000 (.code (f9 (d8 Tryz.prog 12) 5).1::.inLoop (f9 (d8 Tryz.prog 12) 5).1::(f9 (d8 Tryz.prog 12) 5).2) (Mk v30 ch bL bX bK bu eJ) =
  cond (decide (v30<(3:Int))) (.f8 (List.length bX<=6/\List.length (xd ((ch,bL,()),bX,bK,bu,()) v30)<=5864062014805) (cond (decide (Prod.fst (wc ((ch,bL,()),bX,bK,bu,()) v30).2≠(0:Int))) (.ret ((false,()))) (.f8 ((0:Int)<=(1:Int)/\(1:Int)<(↑(List.length eJ):Int)) (.f8 ((0:Int)<=(0:Int)/\(0:Int)<(↑(List.length (List.getD eJ (Int.toNat (1:Int)) [])):Int)) (.f8 (True) (cond (!decide (Prod.fst (wc ((ch,bL,()),bX,bK,bu,()) v30)=List.set [((0:Int),[],())] (Int.toNat (↑0:Int)) ((1:Int),List.getD (List.getD eJ (Int.toNat (1:Int)) []) (Int.toNat (0:Int)) [],()))) (.ret ((false,()))) (.f8 (w4 IntKind.i64 (v30+(1:Int))) (.ctL (f9 (d8 Tryz.prog 12) 5) (St.mk [(1,AV.ptr 1011 []),(2,AV.at_ 1000002 []),(30,AV.val f7 (v30+(1:Int)))] [(1011,g9.var s9 ((ch,bL,()),bX,bK,bu,())),(1000002,g9.own (Ty.d0 true (Ty.d0 true Ty.str)) eJ)]))))))))) (.ret ((true,()))):=by kernel_rfl
def yL:H6:=(1,1,0,[],())
theorem VQ:(G3 3 [yL] 1).2.1.length=3/\((G3 3 [yL] 1).2.1.getD 1 []).length=1/\(C2 50 (G3 3 [yL] 1).1).2=true:=by decide +kernel
theorem VS:(List.range 3).all (λ p=>decide (wc (C2 50 (G3 3 [yL] 1).1).1 (p:Int)=([(1,((G3 3 [yL] 1).2.1.getD 1 []).getD 0 [],())],0,())))=true:=by decide +kernel
theorem Ra {said:Nat->List u7}:∀ (k:Nat) {c:Nat} {w:d9},Ok c said w->Ok (c+16*k) said (C2 k w).1
  | 0,_,_,h=>h
  | k+1,c,w,h=>by
    rw [C2]
    split
    . exact ⟨h.mem,h.sz.mono (by omega),h.inv⟩
    split
    . have:=h.yN 0 1;exact ⟨this.mem,this.sz.mono (by omega),this.inv⟩
    . have:=Ra k (h.yN 0 1);rw [show c+16*(k+1)=c+16+16*k by omega];exact this
attribute [local irreducible] G3 C2 wc in
theorem b5A:Jd.Valid Tryz.prog 12:=by
  refine r9.p7 Mj rfl rfl Tryz.func12 (c:=d8 Tryz.prog 12) rfl rfl Mo rfl ?_;rintro ⟨⟩ - -
  refine j6 (n:=1000) Mj Mo ?_;refine i7 (c3m ) ?_;have hw:W9.1 3 Z7 (List.length Z7)=G3 3 [yL] 1:=by rw [W9.2]; rfl
  obtain ⟨s,hs⟩:∃ s,s=G3 3 [yL] 1:=⟨_,rfl⟩;obtain ⟨ha,hb,hc⟩:=VQ;have hd:=VS;have aH:=(CE (n:=3) (by decide) [yL] 1).ok;rw [hw];rw [<- hs] at ha hb hc hd aH ⊢;obtain ⟨u,hu⟩:∃ u,u=(C2 50 s.1).1:=⟨_,rfl⟩;have tU:wO.1 (Int.toNat 50) s.1=C2 50 s.1:=by rw [wO.2]; rfl
  have fg:=Ra 50 aH;rw [tU];rw [<- hu] at fg hd;rw [<- hu];have nz:(s.2.1.length:Int)=3:=by omega
  have cV:((s.2.1.getD (Int.toNat 1) []).length:Int)=1:=by show ((s.2.1.getD 1 []).length:Int)=1; omega
  simp only [j7,Tree.holds,nz,cV,hc,sL];refine ⟨⟨by omega,by decide⟩,λ _=>⟨by omega,λ _=>⟨λ c=>absurd rfl c,λ _=>⟨⟨by decide,⟨_,_,aH,by decide⟩⟩,λ _=>⟨λ c=>absurd c (by decide),?_⟩⟩⟩⟩⟩;suffices go:Go.Ex.Reach CM Tryz.f12 (true,()) () (.code (f9 (d8 Tryz.prog 12) 5).1::.inLoop (f9 (d8 Tryz.prog 12) 5).1::(f9 (d8 Tryz.prog 12) 5).2) (Mk ((0:Nat):Int) u.1.1 u.1.2.1 u.2.1 u.2.2.1 u.2.2.2.1 s.2.1) by exact go
  refine Reach.N4 Mj Mo (λ p:Nat=>Mk (p:Int) u.1.1 u.1.2.1 u.2.1 u.2.2.1 u.2.2.2.1 s.2.1) (λ p=>p<=3) (λ p=>3 - p) 1000 (λ _=>⟨w6 rfl,w6 rfl⟩) ?_ 0 (aAr _);rintro p k1 - ih;have k1:p<=3:=k1;refine i7 (b9B ..) ?_;have e1:((p:Nat):Int)+1=((p+1:Nat):Int):=by omega
  have ih1:p<3->_:=λ h=>ih (p+1) (by show p+1<=3; omega) (by show 3 - (p+1)<3 - p; omega);have hv:p<3->wc ((u.1.1,u.1.2.1,()),u.2.1,u.2.2.1,u.2.2.2.1,()) (p:Int)=([(1,(s.2.1.getD 1 []).getD 0 [],())],0,()):=λ h=>of_decide_eq_true (aBk.1 hd p (aCt.2 h));simp only [j7,Tree.holds,e1,sL];refine ⟨λ c=>⟨⟨fg.H8,aAx (fg.sz.log p) (by omega)⟩,λ _=>⟨λ d=>?_,λ _=>⟨by omega,λ _=>⟨by omega,λ _=>⟨λ e=>?_,λ _=>⟨G6.2 ⟨by omega,by omega⟩,λ _=>ih1 (by omega)⟩⟩⟩⟩⟩⟩,λ c=>rfl⟩
  . rw [hv (by omega)] at d; exact absurd rfl d
  . rw [hv (by omega)] at e; exact absurd rfl e
theorem Fx {w:d9} {Q4:List Int}:∀ {k:Nat} {x:Int},x∈P8 w Q4 k->∃ j:Nat,x=j/\j<k/\R5 w.1.2.1 j=true/\¬ (j:Int)∈Q4
  | 0,x,h=>by cases h
  | k+1,x,h=>by
    rw [P8] at h;split at h
    . rename_i c;rcases aAi.1 h with h|h
      . obtain ⟨j,h1,h2,h3⟩:=Fx h;exact ⟨j,h1,by omega,h3⟩
      . rw [aBe] at h;exact ⟨k,h,by omega,c.1,c.2⟩
    . obtain ⟨j,h1,h2,h3⟩:=Fx h;exact ⟨j,h1,by omega,h3⟩
theorem XE {w:d9} {Q4:List Int} {k i:Nat} (hi:i<(P8 w Q4 k).length):∃ j:Nat,(P8 w Q4 k).getD i 0=j/\j<k/\R5 w.1.2.1 j=true/\¬ (j:Int)∈Q4 :=
  Fx (by rw [aAb,aAf hi]; exact aCn _)
theorem XK {w:d9} {p:Nat} (h:p<w.2.1.length):wc w p=(xd w p,0,()):=by
  unfold wc;exact if_neg (λ c=>Ab.2 ⟨by omega,by omega⟩ c)
end Go.Proofs.YtijlnmgondibnaaGreatDoor
namespace Go.Proofs.YtijlnmgondibnaaGreatDoor
open Go.Ex
set_option maxRecDepth 100000
structure VOk (w:d9):Prop where
  K0:R3 w.1=0
  mem:∀ i:Nat,i<8->R5 w.1.2.1 i=true->i<w.2.1.length
theorem c3K {v:vX} (h:R3 v=0):(0<=v.1/\v.1<=16777215)/\v.2.1≠0/\v.2.1<64:=by
  unfold R3 at h;split at h
  . cases h
  . omega
theorem c3L {v:vX} (h:(0<=v.1/\v.1<=16777215)/\v.2.1≠0/\v.2.1<64):R3 v=0:=by
  unfold R3; rw [if_neg (by omega)]
theorem VOk.new {n:Int} (h:1<=n/\n<=6):VOk (wm n):=by
  have key:∀ k:Fin 7,1<=k.val->R3 (0,Av ((k.val:Nat):Int),())=0/\∀ i:Fin 8,R5 (Av ((k.val:Nat):Int)) i.val=true->i.val<k.val:=by decide +kernel
  obtain ⟨h1,h2⟩:=key ⟨n.toNat,by omega⟩ (by show 1<=n.toNat; omega);have e:((n.toNat:Nat):Int)=n:=by omega
  simp only [e] at h1 h2;refine ⟨h1,λ i hi hm=>?_⟩;have:=h2 ⟨i,hi⟩ hm;rw [show (wm n).2.1.length=n.toNat from aCc ..];exact this
theorem WY {x:Int} (h:w4 .u8 x):bOr .u8 x 0=x:=by
  have key:∀ n:Fin 256,bOr .u8 ((n.val:Nat):Int) 0=((n.val:Nat):Int):=by decide +kernel
  have h:=u8_in.1 h;have:=key ⟨x.toNat,by omega⟩
  rwa [show ((x.toNat:Nat):Int)=x by omega] at this
theorem Xx {x:Int} (h:w4 .u8 x):U2 .u8 x 0=0/\U2 .u8 0 x=0:=by
  have key:∀ n:Fin 256,U2 .u8 ((n.val:Nat):Int) 0=0/\U2 .u8 0 ((n.val:Nat):Int)=0:=by decide +kernel
  have h:=u8_in.1 h;have:=key ⟨x.toNat,by omega⟩
  rwa [show ((x.toNat:Nat):Int)=x by omega] at this
theorem Zf {x:Int} (h:w4 .u8 x) (h6:bit x 6=false) (h7:bit x 7=false):x<64:=by
  have key:∀ n:Fin 256,bit ((n.val:Nat):Int) 6=false->bit ((n.val:Nat):Int) 7=false->((n.val:Nat):Int)<64:=by decide +kernel
  have h:=u8_in.1 h;have:=key ⟨x.toNat,by omega⟩;rw [show ((x.toNat:Nat):Int)=x by omega] at this;exact this h6 h7
section
variable {c:Nat} {said:Nat->List u7} {w:d9}
theorem Ms (h:Ok c said w) (hv:VOk w) (hn:¬ (P7 w).2.1≠0):(∃ p:Nat,p<w.2.1.length/\j8 w p=true)/\VOk (C0 w):=by
  have hf:=h.H8;obtain ⟨g1,g2⟩:=Kv h.mem (show w.2.1.length<=8 by omega);obtain ⟨e1,e2,e3⟩:=JS hn;have bj:w4 .u8 w.1.2.1:=u8_in.2 h.mem;have ic:half (T8 .u8 w.1.2.1 (E7 w w.2.1.length)) w.1.2.1=true:=by
    unfold P7 T9 at hn;split at hn
    . rename_i c; exact absurd c hn
    split at hn
    . exact absurd (by decide) hn
    split at hn
    . exact absurd (by decide) hn
    split at hn
    . exact absurd (by decide) hn
    split at hn
    . exact absurd (by decide) hn
    . rename_i c; simpa using c
  have br:T8 .u8 w.1.2.1 (E7 w w.2.1.length)≠0:=by
    intro e0;rw [e0] at ic;unfold half at ic;rw [(Xx bj).2] at ic;have h1:=of_decide_eq_true ic;have h2:=(PN w.1.2.1).1;have h3:wo 0=0:=by decide
    omega
  have fq:(C0 w).1=(w.1.1+1,bOr .u8 (T8 .u8 w.1.2.1 (E7 w w.2.1.length)) 0,()):=e1;rw [WY AY] at fq;have hlen:(C0 w).2.1.length=w.2.1.length:=aDh ..;have jY:∀ i,bit (T8 .u8 w.1.2.1 (E7 w w.2.1.length)) i=(bit w.1.2.1 i && !bit (E7 w w.2.1.length) i):=λ i=>Tb u8s bj g1 i;have kT:∀ i,i<8->bit w.1.2.1 i=true->i<w.2.1.length:=λ i hi hb=>hv.mem i hi (by rw [Bg h.mem hi]; exact hb);constructor
  . by_cases hex:∃ p:Nat,p<w.2.1.length/\j8 w p=true
    . exact hex
    . exfalso;apply br;refine (c3E (u8_in.1 AY).1).2 (λ i=>?_);by_cases hi:i<8
      . rw [jY i];cases hb:bit w.1.2.1 i with
        | false=>rfl
        | true =>
          have kF:=kT i hi hb;have ha:j8 w i=false:=by
            cases ha:j8 w i with
            | false=>rfl
            | true=>exact absurd ⟨i,kF,ha⟩ hex
          rw [g2 i hi,decide_eq_true kF,Bg h.mem hi,hb,ha]; rfl
      . exact OD u8s AY (by show 8<=i; omega)
  . refine ⟨?_,λ i hi hm=>?_⟩
    . rw [fq];refine c3L ⟨by show 0<=w.1.1+1/\w.1.1+1<=16777215; omega,br,Zf AY ?_ ?_⟩
      . rw [jY];cases hb:bit w.1.2.1 6 with
        | false=>rfl
        | true=>have:=kT 6 (by decide) hb; omega
      . rw [jY];cases hb:bit w.1.2.1 7 with
        | false=>rfl
        | true=>have:=kT 7 (by decide) hb; omega
    . rw [hlen];rw [fq] at hm;rw [Bg (u8_in.1 AY) hi,jY,aAa] at hm;exact kT i hi hm.1
theorem ZR (w:d9) (d:H6):(N6 w d).1.1=w.1\/(¬ (P7 w).2.1≠0/\(N6 w d).1=C0 w):=by
  unfold N6
  split
  . exact .inl (SO _ _ _).view
  split
  . exact .inl (Uc _ _).view
  split
  . exact .inl (Dm _ _ _).view
  split
  . left; unfold wA; split<;>rfl
  split
  . by_cases c:(P7 w).2.1≠0
    . rw [FZ c]; exact .inl rfl
    . rw [Bj c]; exact .inr ⟨c,rfl⟩
  . exact .inl rfl
theorem VOk.N6 (h:Ok c said w) (hv:VOk w) (d:H6):VOk (N6 w d).1:=by
  have hl:=(zm h d).len;rcases ZR w d with e|⟨c,e⟩
  . exact ⟨by rw [e]; exact hv.K0,λ i hi hm=>by rw [hl]; rw [e] at hm; exact hv.mem i hi hm⟩
  . rw [e]; exact (Ms h hv c).2
end
theorem SL {n:Int} (hn:1<=n/\n<=6) (l:List H6):∀ i,VOk (G3 n l i).1
  | 0=>VOk.new hn
  | i+1=>by
    have h:=SL hn l i;have aH:=(CE hn l i).ok;rw [G3,yx]
    split<;>exact VOk.N6 aH h _
end Go.Proofs.YtijlnmgondibnaaGreatDoor
namespace Go.Proofs.YtijlnmgondibnaaGreatDoor
open Go.Ex
set_option maxRecDepth 100000
attribute [local irreducible] Go.Ex.exec
theorem OQ {w:d9} {Q4:List Int}:∀ {k j:Nat},j<k->R5 w.1.2.1 j=true->¬ (j:Int)∈Q4->(j:Int)∈P8 w Q4 k
  | 0,j,h,_,_=>by omega
  | k+1,j,h,h1,h2=>by
    rw [P8];by_cases e:j=k
    . subst e;rw [if_pos ⟨h1,h2⟩];exact aBs _ (aBe.2 rfl)
    . have:=OQ (k:=k) (j:=j) (by omega) h1 h2
      split
      . exact aBf _ this
      . exact this
def Cs:H6:=(5,0,0,[],())
theorem TR (w:d9):N6 w Cs=M0 w:=by
  unfold N6 Cs;rw [if_neg (show ¬ (5:Int)=1 by decide),if_neg (show ¬ (5:Int)=2 by decide),if_neg (show ¬ (5:Int)=3 by decide),if_neg (show ¬ (5:Int)=4 by decide),if_pos rfl]
structure VG (n:Int) (w u:d9) (fl:List Int) (B:List C7):Prop where
  num:u.1.1=w.1.1+1
  len:u.2.1.length=n.toNat
  some_:P8 u fl n.toNat≠[]
  log:∀ j:Nat,j<n.toNat->R5 u.1.2.1 j=true->¬ (j:Int)∈fl->xd u j=B
  grow:∀ j:Nat,j<n.toNat->R5 u.1.2.1 j=true->¬ (j:Int)∈fl->(xd w j).length<=B.length
theorem b7q {n:Int} (hn:1<=n/\n<=6) {i:Nat} {s:wg} (hW:Ch n i s) (hv:VOk s.1) (br:¬ (P7 s.1).2.1≠0):∃ B,VG n s.1 (C0 s.1) s.2.2 B:=by
  obtain ⟨B0,S0,Q0,hI⟩:=hW.ok.inv;obtain ⟨B',S',si,h1,h2⟩:=hI.change hW.ok.mem br;obtain ⟨fa,kV,kl⟩:=members hI.H8 hW.ok.mem br;have hlen:(C0 s.1).2.1.length=s.1.2.1.length:=aDh ..;have hl:=hW.len;have dx:∀ j:Nat,j<n.toNat->R5 (C0 s.1).1.2.1 j=true->j8 s.1 j=true:=λ j hj hm=>by rw [<- kl j (by omega)]; exact hm
  obtain ⟨⟨p,hp,ha⟩,-⟩:=Ms hW.ok hv br;refine ⟨B',fa,hlen.trans hl,?_,λ j hj hm _=>?_,λ j hj hm _=>?_⟩
  . have tN:¬ (p:Int)∈s.2.2:=by
      have h3:=(K4.1 ha).2.2;rw [hW.Q4 p (by omega)] at h3;exact of_decide_eq_false h3
    exact List.ne_nil_of_mem (OQ (by omega) (by rw [kl p hp]; exact ha) tN)
  . show ((C0 s.1).2.1.getD j g8).2.1=B';rw [h1 j (by omega) (dx j hj hm)]
  . have:=(h2 j (by omega)).length_le;rw [h1 j (by omega) (dx j hj hm)] at this;exact this
end Go.Proofs.YtijlnmgondibnaaGreatDoor
namespace Go.Proofs.YtijlnmgondibnaaGreatDoor
open Go.Ex
set_option maxRecDepth 100000
def live (w:d9) (s:u7):Option n8:=if (y6 s).2.1=0/\(y6 s).1.2.2.2.1=w.1.1/\j8 w (y6 s).1.2.2.1=true then some (y6 s).1 else none
def notes (w:d9):List n8:=w.2.2.2.1.filterMap (live w)
def gO (p:Int) (n:n8):Bool:=decide (n.1=2) && decide (n.2.2.1=p)
def gS (p:Int) (n:n8):Bool:=decide (n.1=1) && decide (n.2.1=p)
def runN (g:n8->Bool):Option Int->List n8->Option Int
  | x,[]=>x
  | none,_::_=>none
  | some x,n::N=>if g n=true then (if n.2.2.2.2.1=x then runN g (some (x+1)) N else if n.2.2.2.2.1<x then runN g (some x) N else none) else runN g (some x) N
theorem RZ {g:n8->Bool}:∀ {N:List n8},runN g none N=none
  | []=>rfl
  | _::_=>rfl
theorem xS {g:n8->Bool}:∀ {N M:List n8} {x:Option Int},runN g x (N++M)=runN g (runN g x N) M
  | [],M,x=>by cases M<;>cases x<;>rfl
  | n::N,M,none=>by rw [aCo]; rw [runN,runN,RZ]
  | n::N,M,some x=>by
    rw [aCo,runN,runN]
    split
    . split
      . exact xS
      . split
        . exact xS
        . exact RZ.symm
    . exact xS
theorem R6 {g:n8->Bool} {n:n8} {N:List n8} {x:Int} (h:g n=false):runN g (some x) (n::N)=runN g (some x) N:=by rw [runN,if_neg (by rw [h]; decide)]
theorem Lz {g:n8->Bool} {n:n8} {N:List n8} {x:Int} (h:g n=true) (e:n.2.2.2.2.1=x):runN g (some x) (n::N)=runN g (some (x+1)) N:=by rw [runN,if_pos h,if_pos e]
theorem a70 {g:n8->Bool} {n:n8} {N:List n8} {x:Int} (h:g n=true) (e:n.2.2.2.2.1<x):runN g (some x) (n::N)=runN g (some x) N:=by rw [runN,if_pos h,if_neg (by omega),if_pos e]
theorem zg {g:n8->Bool}:∀ {N:List n8} {x r:Int},runN g (some x) N=some r->x<=r
  | [],x,r,h=>by cases h; exact aDo _
  | n::N,x,r,h=>by
    rw [runN] at h;split at h
    . split at h
      . have:=zg h; omega
      . split at h
        . exact zg h
        . cases h
    . exact zg h
theorem FP {g:n8->Bool} {n:n8} {N:List n8} {x r:Int} (h:runN g (some x) (n::N)=some r) (hg:g n=true):(n.2.2.2.2.1=x/\runN g (some (x+1)) N=some r/\x+1<=r)\/(n.2.2.2.2.1<x/\runN g (some x) N=some r):=by
  rw [runN,if_pos hg] at h;split at h
  . rename_i e; exact .inl ⟨e,h,zg h⟩
  . split at h
    . rename_i e; exact .inr ⟨e,h⟩
    . cases h
theorem Fv {g:n8->Bool}:∀ {N:List n8} {x:Int},(∀ n∈N,g n=true->n.2.2.2.2.1<x)->runN g (some x) N=some x
  | [],_,_=>rfl
  | n::N,x,h=>by
    have ih:=Fv (N:=N) (x:=x) λ m hm=>h m (aAz _ hm);cases hg:g n with
    | false=>rw [R6 hg]; exact ih
    | true=>rw [a70 hg (h n aBd hg)]; exact ih
def ext (n:n8):Nat:=if n.1=1 then 6 else if n.1=3 then 4 else 0
theorem ze {w w':d9} (h1:w'.1=w.1) (h2:w'.2.1.length=w.2.1.length) (h3:∀ i:Nat,(w'.2.1.getD i g8).1=(w.2.1.getD i g8).1):j8 w'=j8 w/\live w'=live w:=by
  have h:j8 w'=j8 w:=by funext p; unfold j8; rw [h1,h2,h3]
  exact ⟨h,by funext s; unfold live; rw [h1,h]⟩
theorem M3.live {k:Nat} {w w':d9} (h:M3 k w w'):j8 w'=j8 w/\live w'=live w:=ze h.view h.len h.fal
theorem KX {w:d9} {s:u7} {n:n8} (h:live w s=some n):y6 s=(n,0,())/\n.2.2.2.1=w.1.1/\j8 w n.2.2.1=true/\E8 n=0:=by
  unfold live at h;split at h
  . rename_i c;cases h;refine ⟨?_,c.2.1,c.2.2,(Pt c.1).1⟩;generalize y6 s=r at c ⊢;obtain ⟨a,b,⟨⟩⟩:=r;have:b=0:=c.1;rw [this]
  . cases h
theorem FL {w:d9} {k f t q:Int} {x:u7} (hc:E8 (k,f,t,w.1.1,q,[0,0,0,0,0,0],x,())=0) (ha:j8 w t=true) :
    live w (G4 (k,f,t,w.1.1,q,[0,0,0,0,0,0],x,()))=some (k,f,t,w.1.1,q,[0,0,0,0,0,0],x,()):=by
  unfold live;rw [LN hc rfl];exact if_pos ⟨rfl,rfl,ha⟩
theorem Db {k f t v q:Int} {x:u7} (h1:0<=k/\k<=255) (h2:0<=f/\f<=5) (h3:0<=t/\t<=5) (h4:0<=v/\v<=16777215) (h5:0<=q/\q<=16777215) (h6:x.length<=200):E8 (k,f,t,v,q,[0,0,0,0,0,0],x,())=0:=by
  unfold E8;rw [if_neg,if_neg,if_neg (by show ¬ 200<x.length; omega)]
  . show ¬ ([0,0,0,0,0,0]:List Int).any U5=true;decide
  . unfold wR;rw [N5.2 h1,N5.2 h2,N5.2 h3,N5.2 h4,N5.2 h5]; decide
theorem zl {w:d9} (hf:w.2.1.length<=6) {p:Int} (h:j8 w p=true):0<=p/\p<=5/\p<(w.2.1.length:Int):=by
  obtain ⟨k,h1,h2,-⟩:=zp.1 h;omega
theorem Gr {w:d9} {p:Int} (h:j8 w p=true):¬ known w p≠0:=by
  obtain ⟨k,h1,h2,-⟩:=zp.1 h;exact Ab.2 ⟨by omega,by omega⟩
structure N8 (R:Nat->Int) (w:d9):Prop where
  ord:∀ p:Nat,j8 w p=true->(w.2.1.getD p g8).2.2.2.1.2.1=[]/\runN (gO p) (some (w.2.1.getD p g8).2.2.2.1.1) (notes w)=some (w.2.2.1.length:Int)
  say:∀ p:Nat,j8 w p=true->(w.2.1.getD p g8).2.2.2.2.1.2.1=[]/\runN (gS p) (some (w.2.1.getD p g8).2.2.2.2.1.1) (notes w)=some (R p)
  nn:∀ p:Nat,j8 w p=true->0<=(w.2.1.getD p g8).2.2.2.1.1/\0<=(w.2.1.getD p g8).2.2.2.2.1.1
  liv:∀ n∈notes w,j8 w n.2.1=true
  txt:∀ n∈notes w,n.1=1->n.2.2.2.2.2.2.1.length<=150
  seq:j8 w (r7 w)=true
  cnt:w.2.2.1.length+(notes w).countP (λ n=>decide (n.1=1))<=16777214
  phi:w.2.2.2.1.length+((notes w).map ext).sum<=60
  rle:∀ p,R p<=16777215
  view:0<=w.1.1/\w.1.1<=16777215
  H8:w.2.1.length<=6
structure yb (P:n8->Prop) (k:Nat) (w w':d9):Prop where
  view:w'.1=w.1
  all:w'.2.1=w.2.1
  ord:w'.2.2.1=w.2.2.1
  way:∃ L,w'.2.2.2.1=w.2.2.2.1++L/\L.length<=k/\∀ s∈L,∃ n,y6 s=(n,0,())/\P n
theorem yb.refl {P:n8->Prop} {k:Nat} (w:d9):yb P k w w:=⟨rfl,rfl,rfl,[],by simp,aAr _,λ s h=>by cases h⟩
theorem yb.trans {P:n8->Prop} {k l:Nat} {w w' w'':d9} (h:yb P k w w') (h':yb P l w' w''):yb P (k+l) w w'':=by
  obtain ⟨L,e1,e2,e3⟩:=h.way;obtain ⟨M,f1,f2,f3⟩:=h'.way;refine ⟨h'.view.trans h.view,h'.all.trans h.all,h'.ord.trans h.ord,L++M,by rw [f1,e1,aAj],by rw [aAd]; omega,λ s hs=>?_⟩;rcases aAi.1 hs with hs|hs
  . exact e3 s hs
  . exact f3 s hs
theorem yb.one {P:n8->Prop} {w:d9} {k f t q:Int} {x:u7} (h:P (k,f,t,w.1.1,q,[0,0,0,0,0,0],x,())):yb P 1 w (M7 w k f t q x):=by
  by_cases c:(V4 (k,f,t,w.1.1,q,[0,0,0,0,0,0],x,())).2.1=0/\(w.2.2.2.1.length:Int)<60
  . rw [CY c.1 c.2];have hc:E8 (k,f,t,w.1.1,q,[0,0,0,0,0,0],x,())=0:=by
      by_cases hc:E8 (k,f,t,w.1.1,q,[0,0,0,0,0,0],x,())=0
      . exact hc
      . have:=c.1;rw [QQ hc] at this;exact absurd this hc
    refine ⟨rfl,rfl,rfl,[_],rfl,aAk _,λ s hs=>?_⟩;rw [aBe] at hs;rw [Fq hc] at hs;exact ⟨_,by rw [hs]; exact LN hc rfl,h⟩
  . rw [CX c]; exact .refl w
theorem FT {w:d9} {k f t q:Int} {x:u7} (hc:E8 (k,f,t,w.1.1,q,[0,0,0,0,0,0],x,())=0) (hr:w.2.2.2.1.length<60) :
    M7 w k f t q x=(w.1,w.2.1,w.2.2.1,w.2.2.2.1++[G4 (k,f,t,w.1.1,q,[0,0,0,0,0,0],x,())],()):=by
  rw [CY (by rw [Fq hc]) (by omega),Fq hc]
theorem SZ {w:d9} {n:n8} (h0:0<=n.2.2.2.2.1):∀ j,yb (λ m=>m.1=2/\m.2.1=r7 w/\m.2.2.2.2.1<(w.2.2.1.length:Int)) j w (F4 w n j)
  | 0=>.refl w
  | j+1=>by
    have ih:=SZ (w:=w) h0 j;rw [F4]
    split
    . rename_i c;refine ih.trans (.one ⟨rfl,?_,?_⟩)
      . show r7 (F4 w n j)=r7 w;unfold r7; rw [ih.view]
      . show n.2.2.2.2.1+(j:Int)<_;rw [ih.ord] at c; omega
    . exact ⟨ih.view,ih.all,ih.ord,by obtain ⟨L,a,b,c⟩:=ih.way; exact ⟨L,a,by omega,c⟩⟩
def U0 (x:u7) (u:d9):Nat->List n8
  | 0=>[]
  | p+1=>U0 x u p++if j8 u p=true then [(2,r7 u,(p:Int),u.1.1,(u.2.2.1.length:Int) - 1,[0,0,0,0,0,0],x,())] else []
theorem FC {x:u7} {u:d9}:∀ k,(U0 x u k).length<=k
  | 0=>aAk _
  | k+1=>by
    have:=FC (x:=x) (u:=u) k;rw [U0,aAd]
    split<;>simp<;>omega
theorem Ld {x:u7} {u:d9}:∀ {k:Nat} {n:n8},n∈U0 x u k->n.1=2/\n.2.1=r7 u/\(∃ p:Nat,n.2.2.1=p/\j8 u p=true)/\n=(2,r7 u,n.2.2.1,u.1.1,(u.2.2.1.length:Int) - 1,[0,0,0,0,0,0],x,())
  | 0,n,h=>by cases h
  | k+1,n,h=>by
    rw [U0] at h;rcases aAi.1 h with h|h
    . exact Ld h
    . split at h
      . rename_i a;rw [aBe] at h;rw [h]; exact ⟨rfl,rfl,⟨k,rfl,a⟩,rfl⟩
      . cases h
theorem Sq {x:u7} {u:d9} {p:Nat}:∀ {k:Nat} {y:Int},y=(u.2.2.1.length:Int) - 1->j8 u p=true->runN (gO p) (some y) (U0 x u k)=some (if p<k then y+1 else y)
  | 0,y,_,_=>rfl
  | k+1,y,hy,ha=>by
    rw [U0,xS,Sq hy ha];by_cases e:p=k
    . subst e;rw [if_neg (aCk _),if_pos ha,if_pos (by omega),Lz (by simp [gO]) hy.symm]; rfl
    . have oA:∀ z:Int,runN (gO p) (some z) (if j8 u k=true then [((2:Int),r7 u,(k:Int),u.1.1,(u.2.2.1.length:Int) - 1,[0,0,0,0,0,0],x,())] else [])=some z:=λ z=>by
        split
        . rw [R6 (by simp [gO]; omega)]; rfl
        . rfl
      rw [oA];by_cases h:p<k
      . rw [if_pos h,if_pos (by omega)]
      . rw [if_neg h,if_neg (by omega)]
theorem Le {x:u7} {u:d9} (hs:j8 u (r7 u)=true) (hf:u.2.1.length<=6) (hv:0<=u.1.1/\u.1.1<=16777215) (ho:1<=u.2.2.1.length/\u.2.2.1.length<=16777215) (hx:x.length<=200) :
    ∀ {k:Nat},u.2.2.2.1.length+k<=60->F6 x u k=(u.1,u.2.1,u.2.2.1,u.2.2.2.1++(U0 x u k).map G4,())
  | 0,_=>by rw [F6,U0,aFt,aAv]
  | k+1,h=>by
    have ih:=Le hs hf hv ho hx (k:=k) (by omega);have hl:=FC (x:=x) (u:=u) k;have ha:j8 (F6 x u k) k=j8 u k:=by
      obtain ⟨h1,h2,h3⟩:=Dh (x:=x) (w:=u) k;unfold j8; rw [h1,h2]
    have mH:r7 (F6 x u k)=r7 u:=by
      obtain ⟨h1,h2,h3⟩:=Dh (x:=x) (w:=u) k;unfold r7; rw [h2]
    rw [F6,ha,U0]
    split
    . rename_i a;have h5:=zl hf hs;have h6:=zl hf a;have hc:E8 (2,r7 u,(k:Int),u.1.1,(u.2.2.1.length:Int) - 1,[0,0,0,0,0,0],x,())=0:=Db (by decide) ⟨h5.1,h5.2.1⟩ ⟨h6.1,h6.2.1⟩ hv ⟨by omega,by omega⟩ hx;rw [mH,ih];refine (FT (w:=(u.1,u.2.1,u.2.2.1,u.2.2.2.1++(U0 x u k).map G4,())) hc (by show (u.2.2.2.1++(U0 x u k).map G4).length<60; rw [aAd,aAl]; omega)).trans ?_;rw [aCw,<- aAj]; rfl
    . rw [ih,aAv]
theorem c2B {x:u7} {u:d9} (hs:j8 u (r7 u)=true) (hf:u.2.1.length<=6) (hv:0<=u.1.1/\u.1.1<=16777215) (ho:1<=u.2.2.1.length/\u.2.2.1.length<=16777215) (hx:x.length<=200) {k:Nat} :
    ((U0 x u k).map G4).filterMap (live u)=U0 x u k:=by
  rw [List.filterMap_map];have:∀ n∈U0 x u k,(live u ∘ G4) n=some n:=λ n hn=>by
    obtain ⟨-,-,⟨p,e,a⟩,h⟩:=Ld hn;have h5:=zl hf hs;have h6:=zl hf a;show live u (G4 n)=some n;rw [h,e];exact FL (Db (by decide) ⟨h5.1,h5.2.1⟩ ⟨h6.1,h6.2.1⟩ hv ⟨by omega,by omega⟩ hx) a
  generalize U0 x u k=N at this
  induction N with
  | nil=>rfl
  | cons n N ih =>
    rw [aCl,this n aBd,ih λ m hm=>this m (aAz _ hm)]
def s6 (w:d9) (rest:List u7):d9:=(w.1,w.2.1,w.2.2.1,rest,())
theorem FM {w:d9} {s:u7} {rest:List u7} (h:w.2.2.2.1=s::rest):w8 w 0 1=(O7 (s6 w rest) 1 s,0):=by
  have c:¬ I4 0 0 ((w.2.2.2.1.length:Int) - 1)=false:=by
    have:I4 0 0 ((w.2.2.2.1.length:Int) - 1)=true:=N5.2 ⟨by omega,by rw [h,aAh]; omega⟩;rw [this]; decide
  rw [CV (by decide) c (by decide)];unfold yg s6;rw [h]; rfl
theorem LP {u:d9} {s:u7}:O7 u 1 s=match live u s with|some n=>C3 u n|none=>u:=by
  unfold live;by_cases c:(y6 s).2.1=0/\(y6 s).1.2.2.2.1=u.1.1/\j8 u (y6 s).1.2.2.1=true
  . rw [if_pos c,LO ⟨rfl,c⟩]
  . rw [if_neg c,La (λ e=>c e.2)]
theorem EI {r:ToD} (h:r.2.1=[]):r=(r.1,[],()):=by
  obtain ⟨a,b,⟨⟩⟩:=r;have:b=[]:=h;rw [this]
theorem xV.empty {x:Int} (h:0<=x/\x<=16777215):xV x []:=⟨h,aAr _,trivial,λ p hp=>by cases hp⟩
theorem QK {t:u7} (h:t.length<=200):F3 t=false:=by
  simp only [F3,decide_eq_false_iff_not]; omega
theorem RN {x q:Int} {t:u7} (hx:0<=x/\x<=16777215) (hq:0<=q/\q<x) (ht:t.length<=200):E6 (x,[],()) (q,t,())=((x,[],()),[],0,()):=by
  rw [KA (xV.empty hx) ⟨hq.1,by show q<=_; omega⟩ (QK ht),if_pos (.inl hq.2)]
theorem RO {x:Int} {t:u7} (hx:0<=x/\x<=16777214) (ht:t.length<=200):E6 (x,[],()) (x,t,())=((x+1,[],()),[t],0,()):=by
  rw [KA (xV.empty ⟨hx.1,by omega⟩) ⟨hx.1,hx.2⟩ (QK ht),if_neg,if_neg (by show ¬ x<x; omega)]
  . rfl
  . rintro (e|e|e)
    . have e:x<x:=e;omega
    . have e:x+16<=x:=e;omega
    . cases e
theorem CK {α:Type} {d:α}:∀ {l:List α} {i:Nat},l.set i (l.getD i d)=l
  | [],_=>rfl
  | a::l,0=>rfl
  | a::l,i+1=>by
    rw [List.set_cons_succ,List.getD_cons_succ,CK]
theorem UW {u:d9} {p:Int}:S3 u p (D3 u p)=u:=by
  unfold S3 D3;rw [CK]
theorem LL {u:d9} {n:n8} (hr:(D3 u n.2.1).2.2.2.2.1.2.1=[]) (hx:(D3 u n.2.1).2.2.2.2.1.1<=16777215) (hq:0<=n.2.2.2.2.1/\n.2.2.2.2.1<(D3 u n.2.1).2.2.2.2.1.1) (ht:n.2.2.2.2.2.2.1.length<=200):P9 u n=u:=by
  have e:V5 u n=((D3 u n.2.1).2.2.2.2.1,[],0,()):=by
    unfold V5;rw [EI hr];exact RN ⟨by omega,hx⟩ hq ht
  rw [P9,e,if_neg (λ c=>c rfl)];show S3 u n.2.1 (W5 (D3 u n.2.1) (D3 u n.2.1).2.2.2.2.1)=u;exact UW
theorem RR {u:d9} {n:n8} (hr:(D3 u n.2.1).2.2.2.2.1.2.1=[]) (hx:0<=(D3 u n.2.1).2.2.2.2.1.1/\(D3 u n.2.1).2.2.2.2.1.1<=16777214) (hq:n.2.2.2.2.1=(D3 u n.2.1).2.2.2.2.1.1) (ht:n.2.2.2.2.2.2.1.length<=200) :
    P9 u n=F6 (G9 n.2.1 n.2.2.2.2.1 n.2.2.2.2.2.2.1) (xO (S3 u n.2.1 (W5 (D3 u n.2.1) (n.2.2.2.2.1+1,[],()))) (G9 n.2.1 n.2.2.2.2.1 n.2.2.2.2.2.2.1)) u.2.1.length:=by
  have e:V5 u n=((n.2.2.2.2.1+1,[],()),[n.2.2.2.2.2.2.1],0,()):=by
    unfold V5;rw [EI hr,hq];exact RO hx ht
  rw [P9,e,if_neg (λ c=>c rfl)];show J3 n.2.1 (D3 u n.2.1).2.2.2.2.1.1 [n.2.2.2.2.2.2.1] _ 1=_;rw [J3,J3];have e2:(D3 u n.2.1).2.2.2.2.1.1+((0:Nat):Int)=n.2.2.2.2.1:=by omega
  rw [e2];show F6 _ _ (u.2.1.set _ _).length=_;rw [aBj]; rfl
theorem Ka {u:d9} {n:n8} (hr:(D3 u n.2.2.1).2.2.2.1.2.1=[]) (hx:(D3 u n.2.2.1).2.2.2.1.1<=16777215) (hq:0<=n.2.2.2.2.1/\n.2.2.2.2.1<(D3 u n.2.2.1).2.2.2.1.1) (ht:n.2.2.2.2.2.2.1.length<=200):U4 u n=u:=by
  have e:N9 u n=((D3 u n.2.2.1).2.2.2.1,[],0,()):=by
    unfold N9;rw [EI hr];exact RN ⟨by omega,hx⟩ hq ht
  rw [U4,e,if_neg (λ c=>c rfl)];show S3 u n.2.2.1 (xq (D3 u n.2.2.1) (D3 u n.2.2.1).2.2.2.1)=u;exact UW
theorem Rw {u:d9} {n:n8} (hr:(D3 u n.2.2.1).2.2.2.1.2.1=[]) (hx:0<=(D3 u n.2.2.1).2.2.2.1.1/\(D3 u n.2.2.1).2.2.2.1.1<=16777214) (hq:n.2.2.2.2.1=(D3 u n.2.2.1).2.2.2.1.1) (ht:n.2.2.2.2.2.2.1.length<=200) :
    U4 u n=S3 u n.2.2.1 (Y0 n.2.2.1 (xq (D3 u n.2.2.1) (n.2.2.2.2.1+1,[],())) n.2.2.2.2.2.2.1):=by
  have e:N9 u n=((n.2.2.2.2.1+1,[],()),[n.2.2.2.2.2.2.1],0,()):=by
    unfold N9;rw [EI hr,hq];exact RO hx ht
  rw [U4,e,if_neg (λ c=>c rfl)]; rfl
theorem TS (q:Int) (x:o5) (t:u7):(Y0 q x t).2.2.2=x.2.2.2/\(Y0 q x t).1=x.1:=by
  refine ⟨?_,(Up q x t).1⟩;unfold Y0
  split<;>rfl
def W0 (w:d9):Nat:=w.2.2.2.1.length+((notes w).map ext).sum
theorem Sr {f q:Int} {t:u7} (hf:0<=f/\f<=5) (hq:0<=q/\q<=16777215) (ht:t.length<=150):(G9 f q t).length<=200:=by
  obtain ⟨a,rfl⟩:∃ a:Nat,f=a:=⟨f.toNat,by omega⟩;obtain ⟨b,rfl⟩:∃ b:Nat,q=b:=⟨q.toNat,by omega⟩;have h1:=Fo (n:=a) 18 (by omega) (by decide);have h2:=Fo (n:=b) 18 (by omega) (by decide);unfold G9;simp only [aAd,aAh,aCi];omega
theorem MM {u:d9} {n:n8} (h:¬ known u n.2.1≠0):C3 u n=if n.1=1 then P9 u n else if n.1=3 then F4 u n 4 else if n.1=2 then U4 u n else u:=by
  rw [C3,if_neg h]
theorem Y7 {n:n8} {N:List n8}:(n::N).countP (λ n=>decide (n.1=1))=N.countP (λ n=>decide (n.1=1))+if n.1=1 then 1 else 0:=by
  rw [List.countP_cons];by_cases h:n.1=1
  . rw [if_pos h,if_pos (by simpa using h)]
  . rw [if_neg h,if_neg (by simpa using h)]
theorem Eo {p:Int} {n:n8} (h:n.1≠2):gO p n=false:=by simp [gO,h]
theorem Aw {p:Int} {n:n8} (h:n.1≠1):gS p n=false:=by simp [gS,h]
theorem Zb {N:List n8} (h:∀ n∈N,n.1=2):(N.map ext).sum=0:=by
  induction N with
  | nil=>rfl
  | cons n N ih =>
    rw [aCf,aEf,ih λ m hm=>h m (aAz _ hm)];unfold ext;rw [h n aBd]; rfl
theorem NW {N:List n8} (h:∀ n∈N,n.1=2):N.countP (λ n=>decide (n.1=1))=0:=by
  rw [List.countP_eq_zero];intro n hn;rw [h n hn]; decide
structure yE (R:Nat->Int) (w:d9) (n:n8) (rest:List u7) (w':d9) (M:List n8):Prop where
  view:w'.1=w.1
  len:w'.2.1.length=w.2.1.length
  fal:∀ i:Nat,(w'.2.1.getD i g8).1=(w.2.1.getD i g8).1
  way:∃ L,w'.2.2.2.1=rest++L/\L.filterMap (live w)=M/\L.length<=ext n
  two:∀ m∈M,m.1=2/\j8 w m.2.1=true
  cnt:w'.2.2.1.length<=w.2.2.1.length+if n.1=1 then 1 else 0
  ord:∀ p:Nat,j8 w p=true->(w'.2.1.getD p g8).2.2.2.1.2.1=[]/\runN (gO p) (some (w'.2.1.getD p g8).2.2.2.1.1) (rest.filterMap (live w)++M)=some (w'.2.2.1.length:Int)
  say:∀ p:Nat,j8 w p=true->(w'.2.1.getD p g8).2.2.2.2.1.2.1=[]/\runN (gS p) (some (w'.2.1.getD p g8).2.2.2.2.1.1) (rest.filterMap (live w))=some (R p)
  nn:∀ p:Nat,j8 w p=true->0<=(w'.2.1.getD p g8).2.2.2.1.1/\0<=(w'.2.1.getD p g8).2.2.2.2.1.1
theorem N8.vC {R:Nat->Int} {w w':d9} {s:u7} {rest:List u7} {n:n8} {M:List n8} (h:N8 R w) (hw:w.2.2.2.1=s::rest) (hl:live w s=some n) (t:yE R w n rest w' M):N8 R w'/\W0 w'<W0 w/\notes w=n::rest.filterMap (live w)/\notes w'=rest.filterMap (live w)++M:=by
  obtain ⟨ha,iC⟩:=ze t.view t.len t.fal;have hn:notes w=n::rest.filterMap (live w):=by unfold notes; rw [hw,aCl,hl]
  obtain ⟨L,hL,hM,oR⟩:=t.way;have eD:notes w'=rest.filterMap (live w)++M:=by unfold notes; rw [hL,iC,aCu,hM]
  have h0:=h.phi;have h1:=h.cnt;have h2:=t.cnt;rw [hn] at h0 h1;rw [hw,aAh,aCf,aEf] at h0;rw [Y7] at h1;have pg:((notes w').map ext).sum=((rest.filterMap (live w)).map ext).sum:=by
    rw [eD,aCw,aGq,Zb λ m hm=>(t.two m hm).1]; omega
  have fG:(notes w').countP (λ n=>decide (n.1=1))=(rest.filterMap (live w)).countP (λ n=>decide (n.1=1)):=by
    rw [eD,aEh,NW λ m hm=>(t.two m hm).1]; omega
  have gI:W0 w'<W0 w:=by
    unfold W0;rw [pg,hL,hn,hw,aCf,aEf,aAd,aAh];omega
  refine ⟨⟨λ p hp=>?_,λ p hp=>?_,λ p hp=>t.nn p (by rw [ha] at hp; exact hp),λ m hm=>?_,λ m hm he=>?_,?_,?_,?_,h.rle,by rw [t.view]; exact h.view,by rw [t.len]; exact h.H8⟩,gI,hn,eD⟩
  . rw [ha] at hp;rw [eD]; exact t.ord p hp
  . rw [ha] at hp;rw [eD,xS];refine ⟨(t.say p hp).1,?_⟩;rw [(t.say p hp).2];exact Fv λ m hm hg=>by rw [Aw (by rw [(t.two m hm).1]; decide)] at hg; cases hg
  . rw [eD] at hm;rw [ha];rcases aAi.1 hm with hm|hm
    . exact h.liv m (by rw [hn]; exact aAz _ hm)
    . exact (t.two m hm).2
  . rw [eD] at hm;rcases aAi.1 hm with hm|hm
    . exact h.txt m (by rw [hn]; exact aAz _ hm) he
    . exact absurd ((t.two m hm).1.symm.trans he) (by decide)
  . have:r7 w'=r7 w:=by unfold r7; rw [t.view]
    rw [ha,this]; exact h.seq
  . rw [fG]; omega
  . have:=h.phi;unfold W0 at gI;omega
theorem FH {α:Type} {d x:α} {l:List α} {i j:Nat}:(l.set i x).getD j d=x/\i=j\/(l.set i x).getD j d=l.getD j d/\(i≠j\/¬ i<l.length):=by
  rw [K8];by_cases e:i=j/\i<l.length
  . rw [if_pos e]; exact .inl ⟨rfl,e.1⟩
  . rw [if_neg e];refine .inr ⟨rfl,?_⟩;by_cases c:i=j
    . exact .inr λ h=>e ⟨c,h⟩
    . exact .inl c
theorem yE.none {R:Nat->Int} {w:d9} {n:n8} {rest:List u7} (h:N8 R w) (hn:notes w=n::rest.filterMap (live w))
    (ho:∀ p:Nat,j8 w p=true->gO p n=true->n.2.2.2.2.1<(w.2.1.getD p g8).2.2.2.1.1) (hs:∀ p:Nat,j8 w p=true->gS p n=true->n.2.2.2.2.1<(w.2.1.getD p g8).2.2.2.2.1.1):yE R w n rest (s6 w rest) []:=by
  refine ⟨rfl,rfl,λ _=>rfl,⟨[],by show rest=_; rw [aAv],rfl,aAr _⟩,λ m hm=>(by cases hm),aDb _ _,λ p hp=>?_,λ p hp=>?_,h.nn⟩
  . obtain ⟨h1,h2⟩:=h.ord p hp;refine ⟨h1,?_⟩;rw [aAv];rw [hn] at h2;cases hg:gO p n with
    | false=>rw [R6 hg] at h2; exact h2
    | true=>rw [a70 hg (ho p hp hg)] at h2; exact h2
  . obtain ⟨h1,h2⟩:=h.say p hp;refine ⟨h1,?_⟩;rw [hn] at h2;cases hg:gS p n with
    | false=>rw [R6 hg] at h2; exact h2
    | true=>rw [a70 hg (hs p hp hg)] at h2; exact h2
theorem Cq {w:d9} {p:Int} (h:j8 w p=true):∃ k:Nat,p=k/\k<w.2.1.length:=by
  obtain ⟨k,h1,h2,-⟩:=zp.1 h;exact ⟨k,h1,h2⟩
theorem N8.ER {R:Nat->Int} {w:d9} {s:u7} {rest:List u7} {n:n8} (h:N8 R w) (hw:w.2.2.2.1=s::rest) (hl:live w s=some n):∃ M,yE R w n rest (C3 (s6 w rest) n) M/\(n.1=2->M=[]):=by
  obtain ⟨h1,h2,h3,h4⟩:=KX hl;have hn:notes w=n::rest.filterMap (live w):=by unfold notes; rw [hw,aCl,hl]
  have aH:=Dc h4;have gk:=h.liv n (by rw [hn]; exact aBd);have gI:=h.phi;have fG:=h.cnt;rw [hn,Y7] at fG;rw [hn,hw,aAh,aCf,aEf] at gI;have hu:C3 (s6 w rest) n=if n.1=1 then P9 (s6 w rest) n else if n.1=3 then F4 (s6 w rest) n 4 else if n.1=2 then U4 (s6 w rest) n else s6 w rest:=MM (u:=s6 w rest) (Gr gk)
  rw [hu];obtain ⟨f,hf,fM⟩:=Cq gk;obtain ⟨q,hq,pz⟩:=Cq h3;by_cases k1:n.1=1
  . rw [if_pos k1];have mF:=h.txt n (by rw [hn]; exact aBd) k1;have iG:w.2.2.1.length+1<=16777214:=by rw [if_pos k1] at fG; omega
    have hex:ext n=6:=if_pos k1;rw [hex] at gI;have lJ:j8 w (f:Int)=true:=by rw [<- hf]; exact gk
    obtain ⟨s1,s2⟩:=h.say f lJ;have hp:D3 (s6 w rest) n.2.1=w.2.1.getD f g8:=by rw [hf]; rfl
    have hg:gS f n=true:=by simp [gS,k1,hf]
    have hR:=h.rle f;have jN:=(h.nn f lJ).2;rw [hn] at s2;have oF:∀ p,gO p n=false:=λ p=>Eo (by omega);rcases FP s2 hg with ⟨e,s3,s4⟩|⟨e,s3⟩
    . refine ⟨U0 (G9 n.2.1 n.2.2.2.2.1 n.2.2.2.2.2.2.1) (xO (S3 (s6 w rest) n.2.1 (W5 (w.2.1.getD f g8) (n.2.2.2.2.1+1,[],()))) (G9 n.2.1 n.2.2.2.2.1 n.2.2.2.2.2.2.1)) w.2.1.length,?_,λ c=>by omega⟩;have jL:=RR (u:=s6 w rest) (n:=n) (by rw [hp]; exact s1) (by rw [hp]; omega) (by rw [hp]; exact e) aH.text;rw [hp] at jL;rw [jL];obtain ⟨x,hx⟩:∃ x,x=G9 n.2.1 n.2.2.2.2.1 n.2.2.2.2.2.2.1:=⟨_,rfl⟩;have kQ:x.length<=200:=by rw [hx]; exact Sr aH.from_ aH.seq mF
      rw [<- hx];obtain ⟨u,ia⟩:∃ u,u=xO (S3 (s6 w rest) n.2.1 (W5 (w.2.1.getD f g8) (n.2.2.2.2.1+1,[],()))) x:=⟨_,rfl⟩;have u1:u.1=w.1:=by rw [ia]; rfl
      have u2:u.2.1=w.2.1.set f (W5 (w.2.1.getD f g8) (n.2.2.2.2.1+1,[],())):=by rw [ia,hf]; rfl
      have u3:u.2.2.1=w.2.2.1++[x]:=by rw [ia]; rfl
      have u4:u.2.2.2.1=rest:=by rw [ia]; rfl
      have u5:u.2.1.length=w.2.1.length:=by rw [u2,aBj]
      have u6:∀ i:Nat,(u.2.1.getD i g8).1=(w.2.1.getD i g8).1:=λ i=>by
        rw [u2];rcases FH (d:=g8) (x:=W5 (w.2.1.getD f g8) (n.2.2.2.2.1+1,[],())) (l:=w.2.1) (i:=f) (j:=i) with ⟨e,rfl⟩|⟨e,-⟩
        . rw [e]; rfl
        . rw [e]
      obtain ⟨ua,ul⟩:=ze u1 u5 u6;have us:r7 u=r7 w:=by unfold r7; rw [u1]
      have uo:u.2.2.1.length=w.2.2.1.length+1:=by rw [u3,aAd]; rfl
      have jv:=Le (x:=x) (u:=u) (by rw [ua,us]; exact h.seq) (by rw [u5]; exact h.H8) (by rw [u1]; exact h.view) ⟨by omega,by omega⟩ kQ (k:=w.2.1.length) (by rw [u4]; have:=h.H8; omega);have cK:=c2B (x:=x) (u:=u) (by rw [ua,us]; exact h.seq) (by rw [u5]; exact h.H8) (by rw [u1]; exact h.view) ⟨by omega,by omega⟩ kQ (k:=w.2.1.length);rw [<- ia];show yE R w n rest (F6 x u w.2.1.length) (U0 x u w.2.1.length);rw [jv];have bW:∀ p:Nat,(u.2.1.getD p g8).2.2.2.1=(w.2.1.getD p g8).2.2.2.1:=λ p=>by
        rw [u2];rcases FH (d:=g8) (x:=W5 (w.2.1.getD f g8) (n.2.2.2.2.1+1,[],())) (l:=w.2.1) (i:=f) (j:=p) with ⟨e,rfl⟩|⟨e,-⟩
        . rw [e]; rfl
        . rw [e]
      have dC:∀ p:Nat,p≠f->(u.2.1.getD p g8)=(w.2.1.getD p g8):=λ p hp=>by
        rw [u2,K8,if_neg (λ c=>hp c.1.symm)]
      have eR:(u.2.1.getD f g8).2.2.2.2.1=(n.2.2.2.2.1+1,[],()):=by
        rw [u2,K8,if_pos ⟨rfl,fM⟩]; rfl
      refine ⟨u1,u5,u6,⟨(U0 x u w.2.1.length).map G4,by rw [u4],by rw [<- ul]; exact cK,by rw [aAl,hex]; exact aAx (FC _) h.H8⟩,λ m hm=>?_,by show u.2.2.1.length<=_; rw [uo,if_pos k1]; exact aAk _,λ p hp=>?_,λ p hp=>?_,λ p hp=>?_⟩
      . obtain ⟨a,b,-⟩:=Ld hm;exact ⟨a,by rw [b,us]; exact h.seq⟩
      . obtain ⟨o1,o2⟩:=h.ord p hp;rw [hn,R6 (oF p)] at o2;show (u.2.1.getD p g8).2.2.2.1.2.1=[]/\runN (gO p) (some (u.2.1.getD p g8).2.2.2.1.1) _=some (u.2.2.1.length:Int);rw [bW p,xS,o2,uo];refine ⟨o1,?_⟩;obtain ⟨j,hj,iZ⟩:=Cq hp;rw [Sq (by rw [uo]; omega) (by rw [ua]; exact hp),if_pos (by omega)];congr 1
      . obtain ⟨o1,o2⟩:=h.say p hp;show (u.2.1.getD p g8).2.2.2.2.1.2.1=[]/\runN (gS p) (some (u.2.1.getD p g8).2.2.2.2.1.1) _=some (R p);by_cases c:p=f
        . subst c;rw [eR];exact ⟨rfl,by rw [e]; exact s3⟩
        . rw [dC p c];rw [hn,R6 (by simp [gS,k1,hf]; omega)] at o2;exact ⟨o1,o2⟩
      . show 0<=(u.2.1.getD p g8).2.2.2.1.1/\0<=(u.2.1.getD p g8).2.2.2.2.1.1;rw [bW p];refine ⟨(h.nn p hp).1,?_⟩;by_cases c:p=f
        . subst c;rw [eR];show 0<=n.2.2.2.2.1+1;have:=aH.seq.1;omega
        . rw [dC p c]; exact (h.nn p hp).2
    . refine ⟨[],?_,λ _=>rfl⟩;rw [LL (u:=s6 w rest) (n:=n) (by rw [hp]; exact s1) (by rw [hp]; have:=zg s3; omega) (by rw [hp]; exact ⟨aH.seq.1,e⟩) aH.text];refine yE.none h hn (λ p fo cC=>by rw [oF p] at cC; cases cC) λ p fo cC=>?_;have:(f:Int)=p:=by rw [<- hf]; simp [gS] at cC; exact cC.2
      have:f=p:=by omega
      subst this;exact e
  rw [if_neg k1];by_cases k3:n.1=3
  . rw [if_pos k3];have hex:ext n=4:=by unfold ext; rw [if_neg k1,if_pos k3]
    obtain ⟨a1,a2,a3,L,a4,a5,a6⟩:=SZ (w:=s6 w rest) (n:=n) aH.seq.1 4;have iC:∀ m∈L.filterMap (live w),m.1=2/\m.2.1=r7 w/\m.2.2.2.2.1<(w.2.2.1.length:Int):=λ m hm=>by
      obtain ⟨y,hy,ma⟩:=aBv.1 hm;obtain ⟨z,hz,mA⟩:=a6 y hy;obtain ⟨g1,-⟩:=KX ma;rw [g1] at hz;cases hz;exact mA
    refine ⟨L.filterMap (live w),⟨a1,by rw [a2]; rfl,λ i=>by rw [a2]; rfl,⟨L,a4,rfl,by rw [hex]; exact a5⟩,λ m hm=>?_,by rw [a3]; exact aDb _ _,λ p hp=>?_,λ p hp=>?_,λ p hp=>by rw [a2]; exact h.nn p hp⟩,λ c=>by omega⟩
    . obtain ⟨g1,g2,-⟩:=iC m hm;exact ⟨g1,by rw [g2]; exact h.seq⟩
    . obtain ⟨o1,o2⟩:=h.ord p hp;rw [hn,R6 (Eo (by omega))] at o2;rw [a2,a3];refine ⟨o1,?_⟩;show runN (gO p) (some (w.2.1.getD p g8).2.2.2.1.1) _=some (w.2.2.1.length:Int);rw [xS,o2];exact Fv λ m hm _=>(iC m hm).2.2
    . obtain ⟨o1,o2⟩:=h.say p hp;rw [hn,R6 (Aw k1)] at o2;rw [a2];exact ⟨o1,o2⟩
  rw [if_neg k3];by_cases k2:n.1=2
  . rw [if_pos k2];refine ⟨[],?_,λ _=>rfl⟩;have mQ:j8 w (q:Int)=true:=by rw [<- hq]; exact h3
    obtain ⟨s1,s2⟩:=h.ord q mQ;have hp:D3 (s6 w rest) n.2.2.1=w.2.1.getD q g8:=by rw [hq]; rfl
    have hg:gO q n=true:=by simp [gO,k2,hq]
    have jN:=(h.nn q mQ).1;rw [hn] at s2;have lE:∀ p,gS p n=false:=λ p=>Aw (by omega);rcases FP s2 hg with ⟨e,s3,s4⟩|⟨e,s3⟩
    . have jL:=Rw (u:=s6 w rest) (n:=n) (by rw [hp]; exact s1) (by rw [hp]; omega) (by rw [hp]; exact e) aH.text;rw [hp] at jL;rw [jL];obtain ⟨y,hy⟩:∃ y,y=Y0 n.2.2.1 (xq (w.2.1.getD q g8) (n.2.2.2.2.1+1,[],())) n.2.2.2.2.2.2.1:=⟨_,rfl⟩;obtain ⟨y1,y2⟩:=TS n.2.2.1 (xq (w.2.1.getD q g8) (n.2.2.2.2.1+1,[],())) n.2.2.2.2.2.2.1;rw [<- hy] at y1 y2 ⊢;have aI:S3 (s6 w rest) n.2.2.1 y=(w.1,w.2.1.set q y,w.2.2.1,rest,()):=by rw [hq]; rfl
      rw [aI];have dC:∀ p:Nat,p≠q->((w.2.1.set q y).getD p g8)=(w.2.1.getD p g8):=λ p hp=>by
        rw [K8,if_neg (λ c=>hp c.1.symm)]
      have eR:(w.2.1.set q y).getD q g8=y:=by rw [K8,if_pos ⟨rfl,pz⟩]
      have yt:y.2.2.2.1=(n.2.2.2.2.1+1,[],()):=congrArg (λ z=>z.1) y1;have yo:y.2.2.2.2.1=(w.2.1.getD q g8).2.2.2.2.1:=by
        have:=congrArg (λ z:ToD×ToD×Unit=>z.2.1) y1;exact this
      refine ⟨rfl,aBj ..,λ i=>?_,⟨[],by show rest=_; rw [aAv],rfl,aAr _⟩,λ m hm=>(by cases hm),aDb _ _,λ p hp=>?_,λ p hp=>?_,λ p hp=>?_⟩
      . show ((w.2.1.set q y).getD i g8).1=_;by_cases c:i=q
        . subst c; rw [eR,y2]; rfl
        . rw [dC i c]
      . show ((w.2.1.set q y).getD p g8).2.2.2.1.2.1=[]/\runN (gO p) (some ((w.2.1.set q y).getD p g8).2.2.2.1.1) _=some (w.2.2.1.length:Int);rw [aAv];by_cases c:p=q
        . subst c;rw [eR,yt];exact ⟨rfl,by show runN (gO p) (some (n.2.2.2.2.1+1)) _=_; rw [e]; exact s3⟩
        . obtain ⟨o1,o2⟩:=h.ord p hp;rw [dC p c];rw [hn,R6 (by simp [gO,k2,hq]; omega)] at o2;exact ⟨o1,o2⟩
      . obtain ⟨o1,o2⟩:=h.say p hp;rw [hn,R6 (lE p)] at o2;show ((w.2.1.set q y).getD p g8).2.2.2.2.1.2.1=[]/\runN (gS p) (some ((w.2.1.set q y).getD p g8).2.2.2.2.1.1) _=some (R p);by_cases c:p=q
        . subst c;rw [eR,yo]; exact ⟨o1,o2⟩
        . rw [dC p c]; exact ⟨o1,o2⟩
      . show 0<=((w.2.1.set q y).getD p g8).2.2.2.1.1/\0<=((w.2.1.set q y).getD p g8).2.2.2.2.1.1;by_cases c:p=q
        . subst c;rw [eR,yo,yt];refine ⟨?_,(h.nn p ‹_›).2⟩;show 0<=n.2.2.2.2.1+1;have:=aH.seq.1;omega
        . rw [dC p c]; exact h.nn p hp
    . rw [Ka (u:=s6 w rest) (n:=n) (by rw [hp]; exact s1) (by rw [hp]; have:=zg s3; omega) (by rw [hp]; exact ⟨aH.seq.1,e⟩) aH.text];refine yE.none h hn (λ p fo cC=>?_) λ p fo cC=>by rw [lE p] at cC; cases cC
      have:(q:Int)=p:=by rw [<- hq]; simp [gO] at cC; exact cC.2
      have:q=p:=by omega
      subst this;exact e
  . rw [if_neg k2];refine ⟨[],yE.none h hn (λ p _ cC=>?_) λ p _ cC=>?_,λ c=>absurd c k2⟩
    . rw [Eo k2] at cC; cases cC
    . rw [Aw k1] at cC; cases cC
theorem N8.step {R:Nat->Int} {w:d9} (h:N8 R w) {s:u7} {rest:List u7} (hw:w.2.2.2.1=s::rest):N8 R (w8 w 0 1).1/\(w8 w 0 1).2=0/\W0 (w8 w 0 1).1<W0 w:=by
  rw [FM hw];have hm:O7 (s6 w rest) 1 s=match live w s with|some n=>C3 (s6 w rest) n|none=>s6 w rest:=LP
  show N8 R (O7 (s6 w rest) 1 s)/\_/\W0 (O7 (s6 w rest) 1 s)<W0 w;rw [hm];cases hl:live w s with
  | some n =>
    obtain ⟨M,ht,-⟩:=h.ER hw hl;obtain ⟨g1,g2,-⟩:=h.vC hw hl ht;exact ⟨g1,rfl,g2⟩
  | none =>
    have hn:notes w=rest.filterMap (live w):=by unfold notes; rw [hw,aCl,hl]
    have eD:notes (s6 w rest)=notes w:=by rw [hn]; rfl
    have hp:W0 (s6 w rest)+1=W0 w:=by
      unfold W0; rw [eD,hw]; show rest.length+_+1=_; rw [aAh]; omega
    refine ⟨⟨λ p hp=>?_,λ p hp=>?_,h.nn,λ m hm=>?_,λ m hm=>?_,h.seq,?_,?_,h.rle,h.view,h.H8⟩,rfl,by show W0 (s6 w rest)<_; omega⟩
    . rw [eD]; exact h.ord p hp
    . rw [eD]; exact h.say p hp
    . rw [eD] at hm; exact h.liv m hm
    . rw [eD] at hm; exact h.txt m hm
    . rw [eD]; exact h.cnt
    . have:=h.phi;show W0 (s6 w rest)<=60;have h2:W0 w<=60:=this;omega
theorem N8.drain {R:Nat->Int}:∀ (k:Nat) {w:d9},N8 R w->W0 w<=k->(C2 k w).2=true/\N8 R (C2 k w).1/\(C2 k w).1.2.2.2.1=[]
  | 0,w,h,hp=>by
    have:w.2.2.2.1.length=0:=by unfold W0 at hp; omega
    rw [C2];exact ⟨decide_eq_true (by omega),h,aDr this⟩
  | k+1,w,h,hp=>by
    rw [C2];cases hw:w.2.2.2.1 with
    | nil=>rw [if_pos (by simp)]; exact ⟨rfl,h,hw⟩
    | cons s rest =>
      obtain ⟨g1,g2,g3⟩:=h.step hw;rw [if_neg (by rw [aAh]; omega),if_neg (λ c=>c g2)];exact N8.drain k g1 (by omega)
theorem N8.quiet {R:Nat->Int} {w:d9} (h:N8 R w) (hw:w.2.2.2.1=[]):notes w=[]/\∀ p:Nat,j8 w p=true->((w.2.1.getD p g8).2.2.2.1.2.1=[]/\(w.2.1.getD p g8).2.2.2.1.1=(w.2.2.1.length:Int))/\((w.2.1.getD p g8).2.2.2.2.1.2.1=[]/\(w.2.1.getD p g8).2.2.2.2.1.1=R p):=by
  have hn:notes w=[]:=by unfold notes; rw [hw]; rfl
  refine ⟨hn,λ p hp=>?_⟩;obtain ⟨a1,a2⟩:=h.ord p hp;obtain ⟨b1,b2⟩:=h.say p hp;rw [hn] at a2 b2;exact ⟨⟨a1,aEe a2⟩,b1,aEe b2⟩
theorem N8.add {R R':Nat->Int} {w w':d9} {N:List n8} (h:N8 R w) (hw:w.2.2.2.1=[]) (e1:w'.1=w.1) (e2:w'.2.1.length=w.2.1.length)
    (e3:∀ i:Nat,(w'.2.1.getD i g8).1=(w.2.1.getD i g8).1/\(w'.2.1.getD i g8).2.2.2=(w.2.1.getD i g8).2.2.2) (e4:w'.2.2.1=w.2.2.1) (e5:notes w'=N)
    (hN:∀ n∈N,n.1≠2/\j8 w n.2.1=true/\(n.1=1->n.2.2.2.2.2.2.1.length<=150)) (hr:∀ p:Nat,j8 w p=true->runN (gS p) (some (R p)) N=some (R' p))
    (hc:w.2.2.1.length+N.countP (λ n=>decide (n.1=1))<=16777214) (hp:w'.2.2.2.1.length+(N.map ext).sum<=60) (hR:∀ p,R' p<=16777215):N8 R' w':=by
  obtain ⟨ha,iC⟩:=ze e1 e2 λ i=>(e3 i).1
  obtain ⟨-,hq⟩:=h.quiet hw;have mH:r7 w'=r7 w:=by unfold r7; rw [e1]
  refine ⟨λ p hp=>?_,λ p hp=>?_,λ p hp=>by rw [(e3 p).2]; rw [ha] at hp; exact h.nn p hp,λ n hn=>?_,λ n hn=>?_,by rw [ha,mH]; exact h.seq,by rw [e4,e5]; exact hc,by rw [e5]; exact hp,hR,by rw [e1]; exact h.view,by rw [e2]; exact h.H8⟩
  . rw [ha] at hp;obtain ⟨⟨a1,a2⟩,-⟩:=hq p hp;rw [(e3 p).2,e5,e4];refine ⟨a1,?_⟩;rw [a2];exact Fv λ m hm hg=>by rw [Eo (hN m hm).1] at hg; cases hg
  . rw [ha] at hp;obtain ⟨-,b1,b2⟩:=hq p hp;rw [(e3 p).2,e5];exact ⟨b1,by rw [b2]; exact hr p hp⟩
  . rw [e5] at hn;rw [ha]; exact (hN n hn).2.1
  . rw [e5] at hn;exact (hN n hn).2.2
def Cn (w:d9):Nat:=w.2.2.1.length+(notes w).countP (λ n=>decide (n.1=1))
def wx (w:d9):Prop:=∀ n∈notes w,n.1≠3
theorem N8.cn {R:Nat->Int} {w:d9} (h:N8 R w) {s:u7} {rest:List u7} (hw:w.2.2.2.1=s::rest):Cn (w8 w 0 1).1<=Cn w/\(wx w->wx (w8 w 0 1).1):=by
  rw [FM hw];have hm:O7 (s6 w rest) 1 s=match live w s with|some n=>C3 (s6 w rest) n|none=>s6 w rest:=LP
  show Cn (O7 (s6 w rest) 1 s)<=Cn w/\(wx w->wx (O7 (s6 w rest) 1 s));rw [hm];cases hl:live w s with
  | some n =>
    obtain ⟨M,ht,-⟩:=h.ER hw hl;obtain ⟨-,-,g3,g4⟩:=h.vC hw hl ht;have h2:=ht.cnt;show Cn (C3 (s6 w rest) n)<=Cn w/\(wx w->wx (C3 (s6 w rest) n));unfold Cn wx;rw [g3,g4,aEh,NW λ m hm=>(ht.two m hm).1,Y7];refine ⟨by omega,λ c m hm=>?_⟩;rcases aAi.1 hm with hm|hm
    . exact c m (aAz _ hm)
    . rw [(ht.two m hm).1]; decide
  | none =>
    have hn:notes w=rest.filterMap (live w):=by unfold notes; rw [hw,aCl,hl]
    have eD:notes (s6 w rest)=notes w:=by rw [hn]; rfl
    show Cn (s6 w rest)<=Cn w/\(wx w->wx (s6 w rest));unfold Cn wx;rw [eD];exact ⟨aAk _,id⟩
theorem Td {x:u7} {u:d9} {r:List u7}:∀ {k},U0 x (s6 u r) k=U0 x u k
  | 0=>rfl
  | k+1=>by
    have:j8 (s6 u r) k=j8 u k:=rfl;rw [U0,U0,Td,this]; rfl
theorem N8.local {R:Nat->Int} {w:d9} {s:u7} {rest:List u7} {n:n8} (h:N8 R w) (hw:w.2.2.2.1=s::rest) (hl:live w s=some n) (h3:n.1≠3) :
    ∃ (X:d9) (L:List u7),(∀ r:List u7,r.length+6<=60->C3 (s6 w r) n=s6 X (r++L))/\X.1=w.1/\X.2.1.length=w.2.1.length/\(∀ i:Nat,(X.2.1.getD i g8).1=(w.2.1.getD i g8).1)/\L.length<=6/\(∀ r,C3 (s6 X r) n=s6 X r):=by
  obtain ⟨h1,h2,h4,h5⟩:=KX hl;have hn:notes w=n::rest.filterMap (live w):=by unfold notes; rw [hw,aCl,hl]
  have aH:=Dc h5;have gk:=h.liv n (by rw [hn]; exact aBd);have fG:=h.cnt;rw [hn,Y7] at fG;have hu:∀ r,C3 (s6 w r) n=if n.1=1 then P9 (s6 w r) n else if n.1=3 then F4 (s6 w r) n 4 else if n.1=2 then U4 (s6 w r) n else s6 w r:=λ r=>MM (u:=s6 w r) (Gr gk)
  have lv:∀ X:d9,X.2.1.length=w.2.1.length->∀ r,C3 (s6 X r) n=if n.1=1 then P9 (s6 X r) n else if n.1=3 then F4 (s6 X r) n 4 else if n.1=2 then U4 (s6 X r) n else s6 X r:=λ X hX r=>MM (u:=s6 X r) (by
    have h6:=Ab.1 (Gr gk);refine Ab.2 ⟨h6.1,?_⟩;show n.2.1<(X.2.1.length:Int);rw [hX]; exact h6.2)
  obtain ⟨f,hf,fM⟩:=Cq gk;obtain ⟨q,hq,pz⟩:=Cq h4;by_cases k1:n.1=1
  . have mF:=h.txt n (by rw [hn]; exact aBd) k1;have iG:w.2.2.1.length+1<=16777214:=by rw [if_pos k1] at fG; omega
    have lJ:j8 w (f:Int)=true:=by rw [<- hf]; exact gk
    obtain ⟨s1,s2⟩:=h.say f lJ;have hp:∀ r,D3 (s6 w r) n.2.1=w.2.1.getD f g8:=λ r=>by rw [hf]; rfl
    have hg:gS f n=true:=by simp [gS,k1,hf]
    have hR:=h.rle f;have jN:=(h.nn f lJ).2;rw [hn] at s2;rcases FP s2 hg with ⟨e,s3,s4⟩|⟨e,s3⟩
    . have jL:=λ r=>RR (u:=s6 w r) (n:=n) (by rw [hp]; exact s1) (by rw [hp]; omega) (by rw [hp]; exact e) aH.text;obtain ⟨x,hx⟩:∃ x,x=G9 n.2.1 n.2.2.2.2.1 n.2.2.2.2.2.2.1:=⟨_,rfl⟩;have kQ:x.length<=200:=by rw [hx]; exact Sr aH.from_ aH.seq mF
      obtain ⟨y,hy⟩:∃ y,y=W5 (w.2.1.getD f g8) (n.2.2.2.2.1+1,[],()):=⟨_,rfl⟩;obtain ⟨u,ia⟩:∃ u:d9,u=(w.1,w.2.1.set f y,w.2.2.1++[x],[],()):=⟨_,rfl⟩;have sC:∀ r,xO (S3 (s6 w r) n.2.1 (W5 (D3 (s6 w r) n.2.1) (n.2.2.2.2.1+1,[],()))) x=s6 u r:=λ r=>by
        rw [hp,<- hy,ia,hf]; rfl
      have u1:u.1=w.1:=by rw [ia]
      have u2:u.2.1=w.2.1.set f y:=by rw [ia]
      have u3:u.2.2.1=w.2.2.1++[x]:=by rw [ia]
      have u5:u.2.1.length=w.2.1.length:=by rw [u2,aBj]
      have u6:∀ i:Nat,(u.2.1.getD i g8).1=(w.2.1.getD i g8).1:=λ i=>by
        rw [u2];rcases FH (d:=g8) (x:=y) (l:=w.2.1) (i:=f) (j:=i) with ⟨e,rfl⟩|⟨e,-⟩
        . rw [e,hy]; rfl
        . rw [e]
      obtain ⟨ua,ul⟩:=ze u1 u5 u6;have us:r7 u=r7 w:=by unfold r7; rw [u1]
      have uo:u.2.2.1.length=w.2.2.1.length+1:=by rw [u3,aAd]; rfl
      refine ⟨u,(U0 x u w.2.1.length).map G4,λ r hr=>?_,u1,u5,u6,by rw [aAl]; exact aAx (FC _) h.H8,λ r=>?_⟩
      . rw [hu,if_pos k1,jL r,<- hx,sC r];have jv:=Le (x:=x) (u:=s6 u r) (by show j8 u (r7 u)=true; rw [ua,us]; exact h.seq) (by show u.2.1.length<=6; rw [u5]; exact h.H8) (by show 0<=u.1.1/\u.1.1<=16777215; rw [u1]; exact h.view) (by show 1<=u.2.2.1.length/\u.2.2.1.length<=16777215; omega) kQ (k:=w.2.1.length) (by show r.length+_<=60; have:=h.H8; omega);rw [Td] at jv;exact jv
      . have lj:D3 (s6 u r) n.2.1=y:=by
          rw [hf];show u.2.1.getD (Int.toNat (f:Int)) g8=_;rw [aCa,u2,K8,if_pos ⟨rfl,fM⟩]
        rw [lv u u5 r,if_pos k1];exact LL (by rw [lj,hy]; rfl) (by rw [lj,hy]; show n.2.2.2.2.1+1<=_; omega) (by rw [lj,hy]; show _/\_<n.2.2.2.2.1+1; have:=aH.seq.1; omega) aH.text
    . have gi:∀ r,C3 (s6 w r) n=s6 w r:=λ r=>by
        rw [hu r,if_pos k1];exact LL (u:=s6 w r) (n:=n) (by rw [hp]; exact s1) (by rw [hp]; have:=zg s3; omega) (by rw [hp]; exact ⟨aH.seq.1,e⟩) aH.text
      exact ⟨w,[],λ r _=>by rw [aAv]; exact gi r,rfl,rfl,λ _=>rfl,aAr _,gi⟩
  by_cases k2:n.1=2
  . have mQ:j8 w (q:Int)=true:=by rw [<- hq]; exact h4
    obtain ⟨s1,s2⟩:=h.ord q mQ;have hp:∀ r,D3 (s6 w r) n.2.2.1=w.2.1.getD q g8:=λ r=>by rw [hq]; rfl
    have hg:gO q n=true:=by simp [gO,k2,hq]
    have jN:=(h.nn q mQ).1;rw [hn] at s2;rcases FP s2 hg with ⟨e,s3,s4⟩|⟨e,s3⟩
    . have jL:=λ r=>Rw (u:=s6 w r) (n:=n) (by rw [hp]; exact s1) (by rw [hp]; omega) (by rw [hp]; exact e) aH.text;obtain ⟨y,hy⟩:∃ y,y=Y0 n.2.2.1 (xq (w.2.1.getD q g8) (n.2.2.2.2.1+1,[],())) n.2.2.2.2.2.2.1:=⟨_,rfl⟩;obtain ⟨y1,y2⟩:=TS n.2.2.1 (xq (w.2.1.getD q g8) (n.2.2.2.2.1+1,[],())) n.2.2.2.2.2.2.1;rw [<- hy] at y1 y2;have yt:y.2.2.2.1=(n.2.2.2.2.1+1,[],()):=congrArg (λ z=>z.1) y1;obtain ⟨u,ia⟩:∃ u:d9,u=(w.1,w.2.1.set q y,w.2.2.1,[],()):=⟨_,rfl⟩;have u1:u.1=w.1:=by rw [ia]
      have u2:u.2.1=w.2.1.set q y:=by rw [ia]
      have u5:u.2.1.length=w.2.1.length:=by rw [u2,aBj]
      refine ⟨u,[],λ r _=>?_,u1,u5,λ i=>?_,aAr _,λ r=>?_⟩
      . rw [hu r,if_neg k1,if_neg h3,if_pos k2,jL r,hp,<- hy,aAv,ia,hq]; rfl
      . rw [u2];rcases FH (d:=g8) (x:=y) (l:=w.2.1) (i:=q) (j:=i) with ⟨e,rfl⟩|⟨e,-⟩
        . rw [e,y2]; rfl
        . rw [e]
      . have lj:D3 (s6 u r) n.2.2.1=y:=by
          rw [hq];show u.2.1.getD (Int.toNat (q:Int)) g8=_;rw [aCa,u2,K8,if_pos ⟨rfl,pz⟩]
        rw [lv u u5 r,if_neg k1,if_neg h3,if_pos k2];exact Ka (by rw [lj,yt]) (by rw [lj,yt]; show n.2.2.2.2.1+1<=_; omega) (by rw [lj,yt]; show _/\_<n.2.2.2.2.1+1; have:=aH.seq.1; omega) aH.text
    . have gi:∀ r,C3 (s6 w r) n=s6 w r:=λ r=>by
        rw [hu r,if_neg k1,if_neg h3,if_pos k2];exact Ka (u:=s6 w r) (n:=n) (by rw [hp]; exact s1) (by rw [hp]; have:=zg s3; omega) (by rw [hp]; exact ⟨aH.seq.1,e⟩) aH.text
      exact ⟨w,[],λ r _=>by rw [aAv]; exact gi r,rfl,rfl,λ _=>rfl,aAr _,gi⟩
  . have gi:∀ r,C3 (s6 w r) n=s6 w r:=λ r=>by
      rw [hu r,if_neg k1,if_neg h3,if_neg k2]
    exact ⟨w,[],λ r _=>by rw [aAv]; exact gi r,rfl,rfl,λ _=>rfl,aAr _,gi⟩
theorem NI {k m:Nat} (h:k<m):¬ I4 (k:Int) 0 ((m:Int) - 1)=false:=by
  have:I4 (k:Int) 0 ((m:Int) - 1)=true:=N5.2 ⟨by omega,by omega⟩;rw [this]; decide
theorem N8.VU {R:Nat->Int} {w:d9} (h:N8 R w) (ha:wx w) {s:u7} {rest:List u7} (hw:w.2.2.2.1=s::rest) (hr:rest.length+7<=60) :
    (w8 w 0 3).2=0/\(w8 (w8 w 0 3).1 0 1).2=0/\(w8 (w8 (w8 w 0 3).1 0 1).1 (rest.length:Int) 1).2=0/\(w8 (w8 (w8 w 0 3).1 0 1).1 (rest.length:Int) 1).1=(w8 w 0 1).1:=by
  have c1:w8 w 0 3=(s6 w (s::(rest++[s])),0):=by
    have c0:¬ I4 (0:Int) 0 ((w.2.2.2.1.length:Int) - 1)=false:=NI (k:=0) (by rw [hw,aAh]; omega);rw [Mg (by decide) c0 rfl (by rw [hw,aAh]; omega)];unfold BE s6;rw [hw]; rfl
  have c2:w8 (s6 w (s::(rest++[s]))) 0 1=(O7 (s6 w (rest++[s])) 1 s,0):=FM (w:=s6 w (s::(rest++[s]))) rfl;rw [c1];show _/\(w8 (s6 w (s::(rest++[s]))) 0 1).2=0/\(w8 (w8 (s6 w (s::(rest++[s]))) 0 1).1 (rest.length:Int) 1).2=0/\(w8 (w8 (s6 w (s::(rest++[s]))) 0 1).1 (rest.length:Int) 1).1=_;rw [c2,FM hw];show _/\_/\(w8 (O7 (s6 w (rest++[s])) 1 s) (rest.length:Int) 1).2=0/\(w8 (O7 (s6 w (rest++[s])) 1 s) (rest.length:Int) 1).1=O7 (s6 w rest) 1 s;have hm:∀ (X:d9) (r:List u7),O7 (s6 X r) 1 s=match live X s with|some n=>C3 (s6 X r) n|none=>s6 X r:=λ X r=>LP
  have kC:∀ (X:d9) (L:List u7),w8 (s6 X (rest++[s]++L)) (rest.length:Int) 1=(O7 (s6 X (rest++L)) 1 s,0):=λ X L=>by
    rw [CV (by decide) (NI (by show _<(rest++[s]++L).length; rw [aAd,aAd]; simp; omega)) (by decide)];unfold yg s6;congr 1;congr 1
    . show (X.1,X.2.1,X.2.2.1,List.take (rest.length:Int).toNat (rest++[s]++L)++List.drop ((rest.length:Int)+1).toNat (rest++[s]++L),())=_;rw [show ((rest.length:Int)+1).toNat=rest.length+1 by omega,aCa,aAj,aGu,<- aAj,show rest.length+1=(rest++[s]).length by simp,List.drop_left]
    . show (rest++[s]++L).getD (rest.length:Int).toNat []=s;rw [aCa,aAj];simp
  rw [hm w (rest++[s]),hm w rest];cases hl:live w s with
  | none =>
    show _/\_/\(w8 (s6 w (rest++[s])) (rest.length:Int) 1).2=0/\(w8 (s6 w (rest++[s])) (rest.length:Int) 1).1=s6 w rest;have e:=kC w [];rw [aAv,aAv,hm w rest,hl] at e;rw [e];exact ⟨rfl,rfl,rfl,rfl⟩
  | some n =>
    obtain ⟨X,L,x1,x2,x3,x4,x5,x6⟩:=h.local hw hl (ha n (by unfold notes; rw [hw,aCl,hl]; exact aBd));show _/\_/\(w8 (C3 (s6 w (rest++[s])) n) (rest.length:Int) 1).2=0/\(w8 (C3 (s6 w (rest++[s])) n) (rest.length:Int) 1).1=C3 (s6 w rest) n;rw [x1 (rest++[s]) (by rw [aAd]; simp only [aBn]; omega),x1 rest (by omega),kC X L,hm X (rest++L),(ze x2 x3 x4).2,hl];exact ⟨rfl,rfl,rfl,x6 _⟩
theorem N8.IT {R:Nat->Int}:∀ (j k:Nat) {w:d9},N8 R w->W0 w<=j->W0 w<=k->C2 j w=C2 k w
  | 0,k,w,h,hj,hk=>by
    have:w.2.2.2.1.length=0:=by unfold W0 at hj; omega
    rw [Af (by omega),Af (by omega)]
  | j+1,0,w,h,hj,hk=>by
    have:w.2.2.2.1.length=0:=by unfold W0 at hk; omega
    rw [Af (by omega),Af (by omega)]
  | j+1,k+1,w,h,hj,hk=>by
    rw [C2,C2];cases hw:w.2.2.2.1 with
    | nil=>rw [if_pos (by simp),if_pos (by simp)]
    | cons s rest =>
      obtain ⟨g1,g2,g3⟩:=h.step hw;rw [if_neg (by rw [aAh]; omega),if_neg (λ c=>c g2),if_neg (by rw [aAh]; omega),if_neg (λ c=>c g2)];exact N8.IT j k g1 (by omega) (by omega)
structure Calm (c k:Nat) (w:d9):Prop where
  ok:∃ said B S Q,Ok c said w/\Inv said B S Q w/\N8 (λ p=>((S p).length:Int)) w
  way:w.2.2.2.1=[]
  cn:w.2.2.1.length<=k
theorem Calm.new {n:Int} (hn:1<=n/\n<=6):Calm 0 0 (wm n):=by
  have ho:=NN hn;obtain ⟨B,S,Q,hI⟩:=ho.inv;refine ⟨⟨_,B,S,Q,ho,hI,?_⟩,rfl,aAk _⟩;have hs:∀ p:Nat,p<n.toNat->S p=[]:=λ p hp=>by
    obtain ⟨-,e⟩:=hI.mem p (by show p<(List.replicate n.toNat g8).length; rw [aCc]; exact hp) (Zw hn p hp);exact (aBi.1 e.symm).2
  have dx:∀ p:Nat,j8 (wm n) p=true->p<n.toNat:=λ p hp=>by
    obtain ⟨h1,-⟩:=K4.1 hp;rw [<- aCc (n:=n.toNat) (a:=g8)]; exact h1
  have hg:∀ p:Nat,(wm n).2.1.getD p g8=g8:=λ p=>JW;refine ⟨λ p hp=>?_,λ p hp=>?_,λ p _=>by rw [hg p]; decide,λ m hm=>(by cases hm),λ m hm=>(by cases hm),?_,by show 0+0<=_; omega,by show 0+0<=_; omega,λ p=>by have:=hI.short p; show ((S p).length:Int)<=_; omega,by show (0:Int)<=0/\(0:Int)<=_; omega,hI.H8⟩
  . rw [hg p]; exact ⟨rfl,rfl⟩
  . rw [hg p,hs p (dx p hp)]; exact ⟨rfl,rfl⟩
  . have:n=1\/n=2\/n=3\/n=4\/n=5\/n=6:=by omega
    rcases this with rfl|rfl|rfl|rfl|rfl|rfl<;>decide +kernel
theorem NH {p:Nat} {n:n8} (h:n.1=1):gS p n=decide (n.2.1=p):=by simp [gS,h]
theorem Calm.say {c k:Nat} {w:d9} (h:Calm c k w) (hk:k<=16777000) {p:Nat} {t:u7} (he:(P5 w p t).2=0) :
    ∃ said B S Q,Ok (c+16) said (P5 w p t).1/\Inv said B S Q (P5 w p t).1/\N8 (λ p=>((S p).length:Int)) (P5 w p t).1/\wx (P5 w p t).1/\W0 (P5 w p t).1<=7/\Cn (P5 w p t).1<=k+1:=by
  obtain ⟨said,B,S,Q,aH,hI,hF⟩:=h.ok;have hd:=zm aH (Bv p t);rw [OM] at hd;have gQ:=hd.ok;rw [P5] at he gQ ⊢;by_cases a:K1 w p≠0
  . rw [if_pos a] at he; exact absurd he a
  rw [if_neg a] at he gQ ⊢;by_cases b:(150:Int)<t.length
  . rw [if_pos b] at he; exact absurd he (show ¬ (2:Int)=0 by decide)
  rw [if_neg b] at he gQ ⊢;by_cases b2:(w.2.2.2.1.length:Int)=60
  . rw [if_pos b2] at he; exact absurd he (show ¬ (8:Int)=0 by decide)
  rw [if_neg b2] at he gQ ⊢;by_cases b3:(L9 (H5 w p) t).2.1≠0
  . rw [if_pos b3] at he; exact absurd he b3
  rw [if_neg b3] at gQ ⊢;have dx:=MB a;obtain ⟨bV,jJ,-⟩:=K4.1 dx;have rb:=hI.say bV jJ b3;refine ⟨_,B,vV S p (S p++[t]),Q,gQ,?_,?_⟩
  . have:Z0 said (Bv p t) 0=vV said p (said p++[t]):=by
      rw [Z0,if_pos ⟨rfl,rfl⟩]; rfl
    rw [this]; exact rb
  obtain ⟨g1,g2,g3⟩:=Jq b3;obtain ⟨⟨m,hm⟩,-⟩:=hI.mem p bV jJ;have hf:H5 w p=(((C9 p (Q.take m)).length:Int),(S p).drop (C9 p (Q.take m)).length,()):=hm.from_;have hle:(C9 p (Q.take m)).length<=(S p).length:=((zo (p:=p) (Q:=Q) (i:=m)).trans (hI.xI p)).length_le;have fe:(L9 (H5 w p) t).1.1+(L9 (H5 w p) t).1.2.1.length - 1=((S p).length:Int):=by
    rw [g1,hf];show ((C9 p (Q.take m)).length:Int)+(((S p).drop (C9 p (Q.take m)).length++[t]).length:Int) - 1=_;rw [aAd,aAo]; simp only [aBn]; omega
  obtain ⟨u,hu⟩:∃ u,u=setFrom w p (L9 (H5 w p) t).1:=⟨_,rfl⟩;have u1:u.1=w.1:=by rw [hu]; rfl
  have u2:u.2.1=w.2.1.set p ((w.2.1.getD p g8).1,(w.2.1.getD p g8).2.1,(L9 (H5 w p) t).1,(w.2.1.getD p g8).2.2.2):=by rw [hu]; rfl
  have u3:u.2.2.1=w.2.2.1:=by rw [hu]; rfl
  have u4:u.2.2.2.1=[]:=by rw [hu]; exact h.way
  have u5:u.2.1.length=w.2.1.length:=by rw [u2,aBj]
  have u6:∀ i:Nat,(u.2.1.getD i g8).1=(w.2.1.getD i g8).1/\(u.2.1.getD i g8).2.2.2=(w.2.1.getD i g8).2.2.2:=λ i=>by
    rw [u2,K8]
    split
    . rename_i e; rw [<- e.1]; exact ⟨rfl,rfl⟩
    . exact ⟨rfl,rfl⟩
  obtain ⟨ua,ul⟩:=ze u1 u5 λ i=>(u6 i).1
  have us:r7 u=r7 w:=by unfold r7; rw [u1]
  have hS:(S p).length<16777215:=by
    have:=rb.short p;rw [zv,aAd] at this;simp only [aBn] at this; omega
  have h5:=zl hF.H8 dx;have h6:=zl hF.H8 hF.seq;have hc:E8 (1,(p:Int),r7 u,u.1.1,((S p).length:Int),[0,0,0,0,0,0],t,())=0:=Db (by decide) ⟨h5.1,h5.2.1⟩ (by rw [us]; exact ⟨h6.1,h6.2.1⟩) (by rw [u1]; exact hF.view) ⟨by omega,by omega⟩ (by omega);obtain ⟨N,hN⟩:∃ N:n8,N=(1,(p:Int),r7 u,u.1.1,((S p).length:Int),[0,0,0,0,0,0],t,()):=⟨_,rfl⟩;have sK:yO w p t (L9 (H5 w p) t).1=(u.1,u.2.1,u.2.2.1,[G4 N],()):=by
    unfold yO;rw [fe,<- hu];rw [FT hc (by rw [u4]; decide),u4,hN]; rfl
  have iC:live u (G4 N)=some N:=by rw [hN]; exact FL hc (by rw [ua,us]; exact hF.seq)
  rw [<- hN] at hc;show N8 _ (yO w p t (L9 (H5 w p) t).1)/\wx (yO w p t (L9 (H5 w p) t).1)/\W0 (yO w p t (L9 (H5 w p) t).1)<=7/\Cn (yO w p t (L9 (H5 w p) t).1)<=k+1;rw [sK];have gA:notes (u.1,u.2.1,u.2.2.1,[G4 N],())=[N]:=by
    show [G4 N].filterMap (live u)=_;rw [aCl,iC]; rfl
  have n1:N.1=1:=by rw [hN]
  have n2:N.2.1=p:=by rw [hN]
  have n3:N.2.2.2.2.1=((S p).length:Int):=by rw [hN]
  have n4:N.2.2.2.2.2.2.1=t:=by rw [hN]
  have hex:ext N=6:=if_pos n1;have iG:=h.cn;refine ⟨hF.add (N:=[N]) h.way u1 u5 u6 u3 gA (λ n hn=>?_) (λ q hq=>?_) ?_ ?_ (λ q=>?_),λ n hn=>?_,?_,?_⟩
  . rw [aBe] at hn;rw [hn];exact ⟨by rw [n1]; decide,by rw [n2]; exact dx,λ _=>by rw [n4]; omega⟩
  . by_cases e:q=p
    . subst e;rw [Lz (by rw [NH n1,n2]; exact decide_eq_true rfl) n3,zv,aAd]; rfl
    . rw [R6 (by rw [NH n1,n2]; exact decide_eq_false (by omega)),zh e]; rfl
  . rw [Y7,if_pos n1,aEv]; omega
  . show 1+([N].map ext).sum<=60;rw [aCf,aEf,hex]; decide
  . have:=rb.short q;show ((vV S p (S p++[t]) q).length:Int)<=_;omega
  . rw [gA,aBe] at hn;rw [hn,n1]; decide
  . unfold W0;rw [gA];show 1+([N].map ext).sum<=7;rw [aCf,aEf,hex]; decide
  . unfold Cn;rw [gA,Y7,if_pos n1,aEv];show u.2.2.1.length+_<=_;rw [u3]; omega
theorem WT {w:d9} {p:Int} {t:u7} (he:(P5 w p t).2≠0):(P5 w p t).1=w:=by
  rw [P5] at he ⊢
  split
  . rfl
  . rename_i a;rw [if_neg a] at he
    split
    . rfl
    . rename_i b;rw [if_neg b] at he
      split
      . rfl
      . rename_i b2;rw [if_neg b2] at he
        split
        . rfl
        . rename_i b3;rw [if_neg b3] at he;exact absurd rfl he
theorem Ok.mono {c d:Nat} {said:Nat->List u7} {w:d9} (h:Ok c said w) (hd:c<=d):Ok d said w:=⟨h.mem,h.sz.mono hd,h.inv⟩
structure Mid (c k:Nat) (A v:d9):Prop where
  ok:∃ said B S Q,Ok c said v/\Inv said B S Q v/\N8 (λ p=>((S p).length:Int)) v
  ask:wx v
  phi:W0 v<=7
  cn:Cn v<=k
  fin:A=(C2 60 v).1
theorem Calm.start {c k:Nat} {w:d9} (h:Calm c k w) (hk:k<=16777000) {p:Nat} {t:u7}:Mid (c+16) (k+1) (C2 100 (P5 w p t).1).1 (P5 w p t).1/\(C2 100 (P5 w p t).1).2=true:=by
  by_cases he:(P5 w p t).2=0
  . obtain ⟨said,B,S,Q,h1,h2,h3,h4,h5,h6⟩:=h.say hk he;have h7:=h3.IT 100 60 (by omega) (by omega);exact ⟨⟨⟨said,B,S,Q,h1,h2,h3⟩,h4,h5,h6,by rw [h7]⟩,(h3.drain 100 (by omega)).1⟩
  . rw [WT he];obtain ⟨said,B,S,Q,h1,h2,h3⟩:=h.ok;obtain ⟨q1,-⟩:=h3.quiet h.way;have hl:(w.2.2.2.1.length:Int)=0:=by rw [h.way]; rfl
    rw [Af hl];have iG:=h.cn;refine ⟨⟨⟨said,B,S,Q,h1.mono (by omega),h2,h3⟩,λ n hn=>(by rw [q1] at hn; cases hn),?_,?_,by rw [Af hl]⟩,rfl⟩
    . unfold W0;rw [q1,h.way]; decide
    . unfold Cn;rw [q1,aEv]; omega
theorem Mid.step {c k:Nat} {A v:d9} (h:Mid c k A v) (hv:(v.2.2.2.1.length:Int)≠0) :
    ((w8 v 0 3).2=0/\(w8 (w8 v 0 3).1 0 1).2=0/\(w8 (w8 (w8 v 0 3).1 0 1).1 ((v.2.2.2.1.length:Int) - 1) 1).2=0)/\Mid (c+48) k A (w8 (w8 (w8 v 0 3).1 0 1).1 ((v.2.2.2.1.length:Int) - 1) 1).1 /\
    W0 (w8 (w8 (w8 v 0 3).1 0 1).1 ((v.2.2.2.1.length:Int) - 1) 1).1<W0 v/\(∃ said,Ok (c+48) said v)/\(∃ said,Ok (c+48) said (w8 v 0 3).1)/\(∃ said,Ok (c+48) said (w8 (w8 v 0 3).1 0 1).1):=by
  obtain ⟨said,B,S,Q,h1,h2,h3⟩:=h.ok;cases hw:v.2.2.2.1 with
  | nil=>rw [hw] at hv; exact absurd rfl hv
  | cons s rest =>
    have gI:=h.phi;have hlen:rest.length+1<=W0 v:=by
      unfold W0; rw [hw,aAh]; omega
    obtain ⟨e1,e2,e3,e4⟩:=h3.VU h.ask hw (by omega);obtain ⟨g1,g2,g3⟩:=h3.step hw;obtain ⟨c1,c2⟩:=h3.cn hw;obtain ⟨Q',uv⟩:=h2.move 0 1;have iG:=h.cn;have hl:((s::rest).length:Int) - 1=(rest.length:Int):=by rw [aAh]; omega
    rw [hl,e4];have o1:=h1.yN 0 3;have o2:=o1.yN 0 1;refine ⟨⟨e1,e2,e3⟩,⟨⟨said,B,S,Q',(h1.yN 0 1).mono (by omega),uv,g1⟩,c2 h.ask,by omega,by omega,?_⟩,g3,⟨said,h1.mono (by omega)⟩,⟨said,o1.mono (by omega)⟩,⟨said,o2.mono (by omega)⟩⟩;rw [h.fin,show (60:Nat)=59+1 from rfl,C2,if_neg (by rw [hw,aAh]; omega),if_neg (λ c=>c g2)];rw [g1.IT 59 (59+1) (by omega) (by omega)]
theorem Mid.stop {c k:Nat} {A v:d9} (h:Mid c k A v) (hv:(v.2.2.2.1.length:Int)=0):A=v/\Calm c k v:=by
  have hw:v.2.2.2.1=[]:=aDr (by omega);have hf:=h.fin;rw [Af hv] at hf;refine ⟨hf,⟨h.ok,hw,?_⟩⟩;have:=h.cn;unfold Cn at this;omega
theorem Calm.mono {c d k:Nat} {w:d9} (h:Calm c k w) (hd:c<=d):Calm d k w:=by
  obtain ⟨said,B,S,Q,h1,h2,h3⟩:=h.ok;exact ⟨⟨said,B,S,Q,h1.mono hd,h2,h3⟩,h.way,h.cn⟩
theorem Xr {w:d9} {p:Int} {t:u7} (he:(P5 w p t).2=0):t.length<=150:=by
  rw [P5] at he;by_cases a:K1 w p≠0
  . rw [if_pos a] at he; exact absurd he a
  rw [if_neg a] at he;by_cases b:(150:Int)<t.length
  . rw [if_pos b] at he; exact absurd he (show ¬ (2:Int)=0 by decide)
  . omega
theorem Rz {n:Int} (l:List H6):∀ i p,∀ t∈W7 (G3 n l i) p,t.length<=150
  | 0,p,t,ht=>by
    have:W7 (G3 n l 0) p=[]:=by
      show (List.replicate n.toNat ([]:List u7)).getD p []=[];rw [aAb,aFm]
      split<;>rfl
    rw [this] at ht; cases ht
  | i+1,p,t,ht=>by
    have ih:=Rz (n:=n) l i;rw [G3] at ht;generalize G3 n l i=s at ih ht;generalize Cc i (l.getD i BJ)=d at ht;by_cases c:(N6 s.1 d).2≠0\/d.2.1<0\/n<=d.2.1
    . rw [LG c] at ht;exact ih p t ht
    . have c1:(N6 s.1 d).2=0:=by
        by_cases e:(N6 s.1 d).2=0
        . exact e
        . exact absurd (.inl e) c
      rw [Kh c1 (λ e=>c (.inr (.inl e))) (λ e=>c (.inr (.inr e)))] at ht;by_cases e:d.1=1
      . have ht:t∈(if d.1=1 then s.2.1.set d.2.1.toNat (s.2.1.getD d.2.1.toNat []++[d.2.2.2.1]) else s.2.1).getD p []:=ht;rw [if_pos e,K8] at ht;split at ht
        . rcases aAi.1 ht with ht|ht
          . exact ih _ t ht
          . rw [aBe] at ht;rw [ht];have:N6 s.1 d=P5 s.1 d.2.1 d.2.2.2.1:=by unfold N6; exact if_pos e
            rw [this] at c1;exact Xr c1
        . exact ih p t ht
      . have ht:t∈(if d.1=1 then s.2.1.set d.2.1.toNat (s.2.1.getD d.2.1.toNat []++[d.2.2.2.1]) else s.2.1).getD p []:=ht;rw [if_neg e] at ht;exact ih p t ht
theorem WU {v:vX} (h:R3 v=0) (h3:0<=v.2.1):∃ k:Nat,(zb v).1=k/\k<6/\R5 v.2.1 k=true:=by
  have key:∀ m:Fin 64,m.val≠0->0<=tz ((m.val:Nat):Int)/\tz ((m.val:Nat):Int)<6/\R5 ((m.val:Nat):Int) (tz ((m.val:Nat):Int)).toNat=true:=by decide +kernel
  obtain ⟨-,h1,h2⟩:=c3K h;have:=key ⟨v.2.1.toNat,by omega⟩ (by show v.2.1.toNat≠0; omega);simp only [show ((v.2.1.toNat:Nat):Int)=v.2.1 by omega] at this;refine ⟨(tz v.2.1).toNat,?_,by omega,this.2.2⟩;unfold zb;rw [if_neg (by rw [h]; decide)];show tz v.2.1=_;omega
theorem b9l {c:Nat} {said:Nat->List u7} {w:d9} (h:Ok c said w) (hv:VOk w) (hn:¬ (P7 w).2.1≠0) :
    ∃ B S,Inv said B S [] (C0 w)/\N8 (λ _=>0) (C0 w)/\(∀ p:Nat,j8 (C0 w) p=true->(S p).length<=16)/\Cn (C0 w)=0:=by
  obtain ⟨B0,S0,Q0,oT⟩:=h.inv;obtain ⟨B,S,hI,h1,h2⟩:=oT.change h.mem hn;obtain ⟨v1,v2,v3⟩:=members oT.H8 h.mem hn;obtain ⟨e1,e2,e3⟩:=JS hn;have hlen:(C0 w).2.1.length=w.2.1.length:=aDh ..;have fg:=(zm h Cs).ok;rw [TR,Bj hn] at fg;have rm:=(Ms h hv hn).2;have dx:∀ p:Nat,j8 (C0 w) p=true->p<w.2.1.length/\j8 w p=true:=λ p hp=>by
    obtain ⟨g1,g2,-⟩:=K4.1 hp;rw [hlen] at g1;exact ⟨g1,by rw [<- v3 p g1]; exact g2⟩
  have gA:notes (C0 w)=[]:=by
    unfold notes;rw [List.filterMap_eq_nil_iff];intro s hs;show live (C0 w) s=none;unfold live;refine if_neg (λ c=>?_);have:=(oT.msg s hs c.1).1;have h4:=c.2.1;rw [v1] at h4;omega
  have bW:∀ p:Nat,j8 (C0 w) p=true->(C0 w).2.1.getD p g8=((w.2.1.getD p g8).1,B,(0,S p,()),(0,[],()),(0,[],()),()):=λ p hp=>h1 p (dx p hp).1 (dx p hp).2;refine ⟨B,S,hI,⟨λ p hp=>?_,λ p hp=>?_,λ p hp=>?_,λ m hm=>?_,λ m hm=>?_,?_,?_,?_,λ p=>by decide,?_,hI.H8⟩,λ p hp=>?_,?_⟩
  . rw [bW p hp,gA]; exact ⟨rfl,rfl⟩
  . rw [bW p hp,gA]; exact ⟨rfl,rfl⟩
  . rw [bW p hp]; exact ⟨aDo _,aDo _⟩
  . rw [gA] at hm; cases hm
  . rw [gA] at hm; cases hm
  . obtain ⟨k,k1,k2,k3⟩:=WU rm.K0 v2.1;have hk:=rm.mem k (by omega) k3;have e:r7 (C0 w)=k:=k1;rw [e];refine K4.2 ⟨hk,k3,?_⟩;rw [hlen] at hk;have ha:j8 w k=true:=by rw [<- v3 k hk]; exact k3
    rw [h1 k hk ha];exact (K4.1 ha).2.2
  . rw [gA]; show 0+0<=_; omega
  . rw [gA]; show w.2.2.2.1.length+0<=60; have:=oT.way; omega
  . rw [v1]; omega
  . have:=fg.sz.late p;rw [bW p hp] at this;exact this
  . unfold Cn; rw [gA]; rfl
def O5 (p:Int) (w:d9) (l:List C7):Nat->List n8
  | 0=>[]
  | k+1=>O5 p w l k++[(1,p,r7 w,w.1.1,(l.getD k (0,[],())).1,[0,0,0,0,0,0],(l.getD k (0,[],())).2.1,())]
theorem FQ {p:Int} {w:d9} {l:List C7}:∀ k,(O5 p w l k).length=k
  | 0=>rfl
  | k+1=>by rw [O5,aAd,FQ k]; rfl
theorem LD {p:Int} {w:d9} {l:List C7}:∀ {k:Nat} {n:n8},n∈O5 p w l k->∃ i,i<k/\n=(1,p,r7 w,w.1.1,(l.getD i (0,[],())).1,[0,0,0,0,0,0],(l.getD i (0,[],())).2.1,())
  | 0,n,h=>by cases h
  | k+1,n,h=>by
    rw [O5] at h;rcases aAi.1 h with h|h
    . obtain ⟨i,h1,h2⟩:=LD h;exact ⟨i,by omega,h2⟩
    . rw [aBe] at h;exact ⟨k,by omega,h⟩
theorem SQ {p:Nat} {w:d9} {l:List C7} {b:Int}:∀ {k:Nat},(∀ i,i<k->(l.getD i (0,[],())).1=b+i)->runN (gS p) (some b) (O5 p w l k)=some (b+k)
  | 0,_=>by rw [O5]; show some b=_; congr 1; omega
  | k+1,h=>by
    rw [O5,xS,SQ λ i hi=>h i (by omega),Lz (by simp [gS]) (h k (by omega))];show some _=_;congr 1; omega
theorem TL {p q:Nat} (mh:q≠p) {w:d9} {l:List C7} {b:Int}:∀ {k:Nat},runN (gS q) (some b) (O5 p w l k)=some b
  | 0=>rfl
  | k+1=>by
    rw [O5,xS,TL mh,R6 (by simp [gS]; omega)]; rfl
theorem SP {p:Int} {w:d9} {l:List C7}:∀ k,((O5 p w l k).map ext).sum=6*k/\(O5 p w l k).countP (λ n=>decide (n.1=1))=k
  | 0=>⟨rfl,rfl⟩
  | k+1=>by
    obtain ⟨h1,h2⟩:=SP (p:=p) (w:=w) (l:=l) k;rw [O5,aCw,aGq,h1,aEh,h2];exact ⟨by show 6*k+(6+0)=_; omega,rfl⟩
theorem TN {p:Int} {l:List C7} {w:d9}:∀ {k:Nat},(∀ i,i<k->E8 (1,p,r7 w,w.1.1,(l.getD i (0,[],())).1,[0,0,0,0,0,0],(l.getD i (0,[],())).2.1,())=0)->w.2.2.2.1.length+k<=60 ->
    K9 p l w k=(w.1,w.2.1,w.2.2.1,w.2.2.2.1++(O5 p w l k).map G4,())
  | 0,_,_=>by rw [K9,O5,aFt,aAv]
  | k+1,h,hr=>by
    have ih:=TN (p:=p) (l:=l) (w:=w) (k:=k) (λ i hi=>h i (by omega)) (by omega);have mH:r7 (K9 p l w k)=r7 w:=by
      obtain ⟨h1,h2,h3⟩:=Gp (p:=p) (l:=l) (w:=w) k;unfold r7; rw [h2]
    rw [K9,mH,ih,O5];refine (FT (w:=(w.1,w.2.1,w.2.2.1,w.2.2.2.1++(O5 p w l k).map G4,())) (h k (by omega)) (by show (w.2.2.2.1++(O5 p w l k).map G4).length<60; rw [aAd,aAl,FQ]; omega)).trans ?_;rw [aCw,<- aAj]; rfl
theorem Kz {u:d9}:∀ {N:List n8},(∀ n∈N,live u (G4 n)=some n)->(N.map G4).filterMap (live u)=N
  | [],_=>rfl
  | n::N,h=>by
    rw [aCf,aCl,h n aBd,Kz λ m hm=>h m (aAz _ hm)]
theorem SR {b:Int} {m:Nat} {l:List u7}:∀ k,wQ b m l k=(List.range (min k m)).map λ i:Nat=>(b+(i:Int),l.getD i [],())
  | 0=>by rw [wQ,Nat.zero_min]; rfl
  | k+1=>by
    rw [wQ,SR k];by_cases h:k<m
    . rw [if_pos (by omega),show min k m=k by omega,show min (k+1) m=k+1 by omega,List.range_succ,aCw]; rfl
    . rw [if_neg (by omega),aAv,show min k m=m by omega,show min (k+1) m=m by omega]
theorem RU {said:Nat->List u7} {B:List C7} {S:Nat->List u7} {Q:List V9} {w:d9} {R:Nat->Int} (hI:Inv said B S Q w) (hF:N8 R w) (hw:w.2.2.2.1=[]) {p:Nat} (ha:j8 w p=true) :
    R p=((C9 p Q).length:Int)/\(w.2.1.getD p g8).2.1=B++Q.map wZ/\H5 w p=(((C9 p Q).length:Int),(S p).drop (C9 p Q).length,())/\J4 (H5 w p)=0/\(w.2.1.getD p g8).2.2.2.1.1=(w.2.2.1.length:Int)/\said p=ofP p B++S p:=by
  obtain ⟨bV,jJ,-⟩:=K4.1 ha;obtain ⟨-,hq⟩:=hF.quiet hw;obtain ⟨⟨q1,q2⟩,q3,q4⟩:=hq p ha;obtain ⟨⟨m,hm⟩,hs⟩:=hI.mem p bV jJ;have hlen:w.2.2.1.length=Q.length:=by rw [hI.ord,Sp]
  have tg:m=Q.length:=by have:=hm.next; omega
  have iM:Q.take m=Q:=by rw [tg]; exact aDp
  have h1:=hm.from_;have h2:=hm.log;have h3:=hm.ok;rw [iM] at h1 h2;exact ⟨by rw [<- q4]; exact (hI.rcv p bV).1,h2,h1,h3,q2,hs⟩
theorem c2T {said:Nat->List u7} {B:List C7} {S:Nat->List u7} {Q:List V9} {w:d9} {R:Nat->Int} (hI:Inv said B S Q w) (hF:N8 R w) (hw:w.2.2.2.1=[]) {p:Nat} (ha:j8 w p=true)
    (hx:∀ t∈S p,t.length<=150) (hc:w.2.2.1.length<=16777000) :
    (F7 w p).2=0/\Inv said B S Q (F7 w p).1/\N8 (λ q=>if q=p then min (R p+4) ((S p).length:Int) else R q) (F7 w p).1/\Cn (F7 w p).1<=w.2.2.1.length+4/\(F7 w p).1.1=w.1/\(F7 w p).1.2.1=w.2.1:=by
  obtain ⟨bV,jJ,-⟩:=K4.1 ha;obtain ⟨r1,r2,r3,r4,r5,r6⟩:=RU hI hF hw ha;have rj:¬ K1 w p≠0:=by
    unfold K1;rw [if_neg (Gr ha),if_pos ha]; exact λ e=>e rfl
  have hle:(C9 p Q).length<=(S p).length:=(hI.xI p).length_le;have cj:=hI.short p;obtain ⟨b,hb⟩:∃ b,b=(C9 p Q).length:=⟨_,rfl⟩;rw [<- hb] at r1 r3 hle;obtain ⟨T,hT⟩:∃ T,T=(S p).drop b:=⟨_,rfl⟩;rw [<- hT] at r3;have vo:T.length=(S p).length - b:=by rw [hT,aAo]
  obtain ⟨k,hk⟩:∃ k,k=min T.length 4:=⟨_,rfl⟩;have hL:K6 w p=(List.range k).map λ i:Nat=>((b:Int)+(i:Int),T.getD i [],()):=by
    unfold K6 xg;rw [if_neg (by rw [r4]; exact λ e=>e rfl),r3];show wQ (b:Int) ((4:Nat):Int) T T.length=_;rw [SR,hk]
  have oR:(K6 w p).length=k:=by rw [hL,aAl,List.length_range]
  have qX:∀ i,i<k->(K6 w p).getD i (0,[],())=((b:Int)+(i:Int),T.getD i [],()):=λ i hi=>by
    rw [hL,aAb,aGe,List.getElem?_range hi]; rfl
  have rW:∀ i,(T.getD i []).length<=150:=λ i=>by
    rw [aAb];cases e:T[i]? with
    | none=>exact aAr _
    | some t=>exact hx t (aDx (by rw [<- hT]; exact aDy e))
  have h5:=zl hF.H8 ha;have h6:=zl hF.H8 hF.seq;have bB:∀ i,i<k->E8 (1,(p:Int),r7 w,w.1.1,((K6 w p).getD i (0,[],())).1,[0,0,0,0,0,0],((K6 w p).getD i (0,[],())).2.1,())=0:=λ i hi=>by
    rw [qX i hi];exact Db (by decide) ⟨h5.1,h5.2.1⟩ ⟨h6.1,h6.2.1⟩ hF.view ⟨by omega,by show (b:Int)+(i:Int)<=_; omega⟩ (aAx (rW i) (by decide))
  have ry:=TN (p:=(p:Int)) (l:=K6 w p) (w:=w) (k:=k) bB (by rw [hw]; show 0+k<=60; omega);rw [hw,aGr] at ry;have nQ:E8 (3,(p:Int),r7 w,w.1.1,(w.2.2.1.length:Int),[0,0,0,0,0,0],[],())=0:=Db (by decide) ⟨h5.1,h5.2.1⟩ ⟨h6.1,h6.2.1⟩ hF.view ⟨by omega,by omega⟩ (aAr _);obtain ⟨A,hA⟩:∃ A:n8,A=(3,(p:Int),r7 w,w.1.1,(w.2.2.1.length:Int),[0,0,0,0,0,0],[],()):=⟨_,rfl⟩;have nS:F7 w p=((w.1,w.2.1,w.2.2.1,(O5 p w (K6 w p) k++[A]).map G4,()),0):=by
    rw [F7,if_neg rj,oR,ry];unfold Bs;have e1:r7 (w.1,w.2.1,w.2.2.1,(O5 p w (K6 w p) k).map G4,())=r7 w:=rfl;have e2:(List.getD (w.1,w.2.1,w.2.2.1,(O5 p w (K6 w p) k).map G4,()).2.1 (Int.toNat (p:Int)) g8).2.2.2.1.1=(w.2.2.1.length:Int):=r5;rw [e1,e2,FT (w:=(w.1,w.2.1,w.2.2.1,(O5 p w (K6 w p) k).map G4,())) nQ (by show ((O5 p w (K6 w p) k).map G4).length<60; rw [aAl,FQ]; omega),aCw,hA]; rfl
  have lC:=hI.again bV jJ;have qe:Inv said B S Q (F7 w p).1:=by
    rw [F7,if_neg rj]; exact lC
  have iC:∀ n∈O5 p w (K6 w p) k++[A],live w (G4 n)=some n:=λ n hn=>by
    rcases aAi.1 hn with hn|hn
    . obtain ⟨i,hi,rfl⟩:=LD hn;exact FL (bB i hi) hF.seq
    . rw [aBe] at hn;rw [hn,hA];exact FL nQ hF.seq
  obtain ⟨x1,x2⟩:=SP (p:=(p:Int)) (w:=w) (l:=K6 w p) k;have kg:A.1=3:=by rw [hA]
  have uK:A.2.1=p:=by rw [hA]
  refine ⟨by rw [nS],qe,?_,?_,by rw [nS],by rw [nS]⟩
  . rw [nS];refine hF.add (N:=O5 p w (K6 w p) k++[A]) hw rfl rfl (λ _=>⟨rfl,rfl⟩) rfl (Kz iC) (λ n hn=>?_) (λ q hq=>?_) ?_ ?_ (λ q=>?_)
    . rcases aAi.1 hn with hn|hn
      . obtain ⟨i,hi,rfl⟩:=LD hn;refine ⟨by show (1:Int)≠2; decide,ha,λ _=>?_⟩;show ((K6 w p).getD i (0,[],())).2.1.length<=150;rw [qX i hi]; exact rW i
      . rw [aBe] at hn;rw [hn];exact ⟨by rw [kg]; decide,by rw [uK]; exact ha,λ e=>by rw [kg] at e; exact absurd e (by decide)⟩
    . rw [xS];by_cases e:q=p
      . subst e;rw [if_pos rfl,r1,SQ (b:=(b:Int)) λ i hi=>by rw [qX i hi],R6 (Aw (by rw [kg]; decide))];show some _=some _;congr 1;omega
      . rw [if_neg e,TL e,R6 (Aw (by rw [kg]; decide))]; rfl
    . rw [aEh,x2,Y7,if_neg (by rw [kg]; decide),aEv]; omega
    . show ((O5 p w (K6 w p) k++[A]).map G4).length+_<=60;rw [aAl,aAd,FQ,aCw,aGq,x1];show k+1+(6*k+(ext A+0))<=60;have:ext A=4:=by unfold ext; rw [kg]; rfl
      omega
    . have:=hF.rle q
      split<;>omega
  . rw [nS];unfold Cn;have gA:notes (w.1,w.2.1,w.2.2.1,(O5 p w (K6 w p) k++[A]).map G4,())=O5 p w (K6 w p) k++[A]:=Kz iC;show w.2.2.1.length+(notes (w.1,w.2.1,w.2.2.1,(O5 p w (K6 w p) k++[A]).map G4,())).countP _<=_;rw [gA,aEh,x2,Y7,if_neg (by rw [kg]; decide),aEv]; omega
structure X2 (said:Nat->List u7) (B:List C7) (S:Nat->List u7) (hs:List Int) (g:Nat->Nat) (k:Nat) (w:d9):Prop where
  inv:∃ Q,Inv said B S Q w
  By:∃ R,N8 R w/\∀ p:Nat,(p:Int)∈hs->min ((S p).length:Int) (4*g p)<=R p
  act:∀ p:Nat,(p:Int)∈hs->j8 w p=true
  txt:∀ p:Nat,(p:Int)∈hs->(S p).length<=16/\∀ t∈S p,t.length<=150
  cn:Cn w<=k
section
variable {said:Nat->List u7} {B:List C7} {S:Nat->List u7} {hs:List Int} {g:Nat->Nat} {k:Nat} {w:d9}
theorem X2.step (h:X2 said B S hs g k w) {s:u7} {rest:List u7} (hw:w.2.2.2.1=s::rest):X2 said B S hs g k (w8 w 0 1).1/\(w8 w 0 1).2=0/\W0 (w8 w 0 1).1<W0 w:=by
  obtain ⟨Q,hI⟩:=h.inv;obtain ⟨R,hF,hR⟩:=h.By;obtain ⟨g1,g2,g3⟩:=hF.step hw;obtain ⟨c1,-⟩:=hF.cn hw;have iG:=h.cn;have iC:=(Dm w 0 1).live;exact ⟨⟨hI.move 0 1,⟨R,g1,hR⟩,λ p hp=>by rw [iC.1]; exact h.act p hp,h.txt,by omega⟩,g2,g3⟩
theorem X2.drain:∀ (j:Nat) {w:d9},X2 said B S hs g k w->W0 w<=j->(C2 j w).2=true/\X2 said B S hs g k (C2 j w).1/\(C2 j w).1.2.2.2.1=[]
  | 0,w,h,hp=>by
    have:w.2.2.2.1.length=0:=by unfold W0 at hp; omega
    rw [C2];exact ⟨decide_eq_true (by omega),h,aDr this⟩
  | j+1,w,h,hp=>by
    rw [C2];cases hw:w.2.2.2.1 with
    | nil=>rw [if_pos (by simp)]; exact ⟨rfl,h,hw⟩
    | cons s rest =>
      obtain ⟨g1,g2,g3⟩:=h.step hw;rw [if_neg (by rw [aAh]; omega),if_neg (λ c=>c g2)];exact X2.drain j g1 (by omega)
theorem X2.phi (h:X2 said B S hs g k w):W0 w<=60:=by
  obtain ⟨R,hF,-⟩:=h.By;exact hF.phi
theorem X2.again (h:X2 said B S hs g k w) (hw:w.2.2.2.1=[]) (hk:k<=16777000) {p:Nat} (hp:(p:Int)∈hs) {g':Nat->Nat} (hg:∀ q,g' q<=g q+if q=p then 1 else 0) :
    (F7 w p).2=0/\X2 said B S hs g' (k+4) (F7 w p).1/\(F7 w p).1.1=w.1/\(F7 w p).1.2.1=w.2.1:=by
  obtain ⟨Q,hI⟩:=h.inv;obtain ⟨R,hF,hR⟩:=h.By;have iG:=h.cn;have vl:w.2.2.1.length<=k:=by unfold Cn at iG; omega
  obtain ⟨a1,a2,a3,a4,a5,a6⟩:=c2T hI hF hw (h.act p hp) (h.txt p hp).2 (by omega);obtain ⟨l1,-⟩:=ze a5 (by rw [a6]) λ i=>by rw [a6]
  refine ⟨a1,⟨⟨Q,a2⟩,⟨_,a3,λ q hq=>?_⟩,λ q hq=>by rw [l1]; exact h.act q hq,h.txt,by omega⟩,a5,a6⟩;have h1:=hR q hq;have h2:=hg q;by_cases e:q=p
  . subst e;rw [if_pos rfl] at h2;rw [if_pos rfl]; omega
  . rw [if_neg e] at h2;rw [if_neg e]; omega
theorem Jr {p:Nat} {t:u7}:∀ {L:List C7},t∈ofP p L->(((p:Int),t,()):C7)∈L
  | [],h=>by cases h
  | (q,u,⟨⟩)::L,h=>by
    rw [ofP] at h;split at h
    . rename_i e;rcases aAq.1 h with rfl|h
      . have e:q=(p:Int):=e;rw [e]; exact aBd
      . exact aAz _ (Jr h)
    . exact aAz _ (Jr h)
theorem X2.fin {j:Nat} (h:X2 said B S hs (λ _=>j) k w) (hw:w.2.2.2.1=[]) (hj:4<=j):∃ L:List C7,∀ p:Nat,(p:Int)∈hs->xd w p=L/\(H5 w p).2.1=[]/\∀ t∈said p,(((p:Int),t,()):C7)∈L:=by
  obtain ⟨Q,hI⟩:=h.inv;obtain ⟨R,hF,hR⟩:=h.By;refine ⟨B++Q.map wZ,λ p hp=>?_⟩;obtain ⟨r1,r2,r3,r4,r5,r6⟩:=RU hI hF hw (h.act p hp);have h1:=hR p hp;have h2:=(h.txt p hp).1;have hle:(C9 p Q).length<=(S p).length:=(hI.xI p).length_le;have he:(C9 p Q).length=(S p).length:=by omega
  have hQ:C9 p Q=S p:=(hI.xI p).eq_of_length he;refine ⟨r2,?_,λ t ht=>?_⟩
  . rw [r3,he]; exact aGl
  . refine Jr ?_;rw [EW,Cy,hQ,<- r6]; exact ht
end
end Go.Proofs.YtijlnmgondibnaaGreatDoor
namespace Go.Proofs.YtijlnmgondibnaaGreatDoor
open Go.Ex
set_option maxRecDepth 100000
attribute [local irreducible] Go.Ex.exec
theorem ZC {w:d9} {p:Nat} (h:p<w.2.1.length):yM w p=((H5 w p).2.1,0,()):=by
  unfold yM;exact if_neg (λ c=>Ab.2 ⟨by omega,by omega⟩ c)
end Go.Proofs.YtijlnmgondibnaaGreatDoor
