import Derived.Test.YtijlnmgondibnaaGreatDoorJ2
import Derived.Test.YtijlnmgondibnaaGreatDoorJ1
set_option linter.unusedVariables false
set_option linter.unusedSimpArgs false
set_option linter.unusedSectionVars false
namespace Go.Proofs.YtijlnmgondibnaaGreatDoor
open Go.Ex
set_option maxRecDepth 100000
theorem Qe {b:Int} {l:List y7} (h1:0<=b/\b<=16777215) (h2:l.length<=16) (h3:l.any F1=false):I9 (b,l,())=0:=by
  unfold I9;rw [if_neg (by rw [xM.2 h1]; decide),if_neg (by show ¬ (16:Int)<(l.length:Int); omega),if_neg (by rw [h3]; decide)]
theorem Pu {l:List y7} {k:Nat} (h:l.any F1=false):(l.drop k).any F1=false:=by
  rw [List.any_eq_false] at h ⊢;exact λ x hx=>h x (List.mem_of_mem_drop hx)
theorem VQ {k:Nat} {l:List y7} (h:I9 ((k:Int),l,())=0) (hl:1<=l.length) (hb:k+l.length<=16777215) :
    R9 ((k:Int),l,()) ((k:Int)+1)=((((k+1:Nat):Int),l.drop 1,()),0,())/\I9 (((k+1:Nat):Int),l.drop 1,())=0:=by
  have aK:=xR h;have ha:ahd (k:Int) ((k:Int)+1)=1:=by unfold ahd; rw [if_neg (by omega)]; omega
  constructor
  . unfold R9;rw [if_neg (by rw [h]; decide),if_neg (by show ¬ (k:Int)+(l.length:Int)<(k:Int)+1; omega)];simp only;rw [ha];rfl
  . exact Qe ⟨by omega,by omega⟩ (by rw [List.length_drop]; have:=aK.2.1; simp only at this; omega) (Pu aK.2.2)
section
variable {said:Nat->List y7} {B:List E5} {S:Nat->List y7} {Q:List W6} {w:f8}
structure Bh (B:List E5) (S:Nat->List y7) (Q:List W6) (p m:Nat) (x:p7):Prop where
  log:x.2.1=B++(Q.take m).map xa
  from_:x.2.2.1=(((C8 p (Q.take m)).length:Int),(S p).drop (C8 p (Q.take m)).length,())
  ok:I9 x.2.2.1=0
theorem c0Q {p m q:Nat} {x:p7} {s:y7} (h:Bh B S Q p m x) (hQ:Q[m]?=some (q,s)) (hq:q<=5) (bg:∀ p,C8 p Q <+: S p) (ch:∀ p,(S p).length<=16777215) :
    Bh B S Q p (m+1) (X2 p x (G3 q (C8 q (Q.take m)).length s))/\(X2 p x (G3 q (C8 q (Q.take m)).length s)).2.2.2=x.2.2.2/\(X2 p x (G3 q (C8 q (Q.take m)).length s)).1=x.1:=by
  have hm:m<Q.length:=by
    by_cases hm:m<Q.length
    . exact hm
    . rw [List.getElem?_eq_none (by omega)] at hQ; cases hQ
  have eK:Q.take (m+1)=Q.take m++[(q,s)]:=by
    rw [List.take_add_one,hQ]; rfl
  have fC:∀ p,(C8 p (Q.take (m+1))).length<=(S p).length:=λ p=>((yA (p:=p) (Q:=Q) (i:=m+1)).trans (bg p)).length_le;have hk:(C8 q (Q.take m)).length<=16777300:=by
    have h1:=((yA (p:=q) (Q:=Q) (i:=m)).trans (bg q)).length_le;have:=ch q;omega
  have hw:who (G3 q (C8 q (Q.take m)).length s)=q:=XG hq;have hn:nth (G3 q (C8 q (Q.take m)).length s)=(C8 q (Q.take m)).length:=PQ hk;have ht:xb (G3 q (C8 q (Q.take m)).length s)=s:=ZE;have ni:x.2.1++[((q:Int),s,())]=B++(Q.take (m+1)).map xa:=by
    rw [h.log,eK,List.map_append,List.append_assoc]; rfl
  by_cases e:q=p
  . subst e;have hc:=fC q;rw [eK,yH] at hc;have h1:C8 q [(q,s)]=[s]:=by simp [C8]
    rw [h1,List.length_append] at hc;simp only [List.length_singleton] at hc;have aK:=h.ok;rw [h.from_] at aK;obtain ⟨g1,g2⟩:=VQ aK (by rw [List.length_drop]; omega) (by rw [List.length_drop]; have:=ch q; omega);have hl:R9 x.2.2.1 (nth (G3 q (C8 q (Q.take m)).length s)+1)=(((((C8 q (Q.take m)).length+1:Nat):Int),((S q).drop (C8 q (Q.take m)).length).drop 1,()),0,()):=by
      rw [h.from_,hn]; exact g1
    rw [Kd hw (by rw [hl]),hl,hw,ht];refine ⟨⟨ni,?_,g2⟩,rfl,rfl⟩;show (((((C8 q (Q.take m)).length+1:Nat):Int),((S q).drop (C8 q (Q.take m)).length).drop 1,()):FrD)=_;rw [eK,yH,h1,List.length_append,List.drop_drop]; rfl
  . rw [EJ (λ c=>e (by have:=c.1; rw [hw] at this; exact_mod_cast this)),hw,ht];refine ⟨⟨ni,?_,h.ok⟩,rfl,rfl⟩;have h1:C8 p [(q,s)]=[]:=by simp [C8,e]
    rw [eK,yH,h1,List.append_nil];exact h.from_
theorem Rn {p m:Nat} {x:p7} {l:List y7} (h:Bh B S Q p m x) (hl:∀ i,i<l.length->(Q0 Q)[m+i]?=l[i]?) (hq:∀ y∈Q,y.1<=5) (bg:∀ p,C8 p Q <+: S p) (ch:∀ p,(S p).length<=16777215) :
    ∀ {i},i<=l.length->Bh B S Q p (m+i) (K9 p x l i)/\(K9 p x l i).2.2.2=x.2.2.2/\(K9 p x l i).1=x.1
  | 0,_=>⟨h,rfl,rfl⟩
  | i+1,hi=>by
    obtain ⟨g1,g2,g3⟩:=Rn h hl hq bg ch (show i<=l.length by omega);have h1:=hl i (by omega);rw [RE,List.getElem?_eq_getElem (show i<l.length by omega)] at h1;cases hQ:Q[m+i]? with
    | none=>rw [hQ] at h1; cases h1
    | some y =>
      obtain ⟨q,s⟩:=y;rw [hQ] at h1;have h2:G3 q (C8 q (Q.take (m+i))).length s=l[i]:=by simpa using h1
      have hy:=hq (q,s) (List.mem_of_getElem? hQ);obtain ⟨k1,k2,k3⟩:=c0Q (p:=p) g1 hQ hy bg ch;rw [K9,show l.getD i []=G3 q (C8 q (Q.take (m+i))).length s by rw [h2,List.getD_eq_getElem?_getD,List.getElem?_eq_getElem (show i<l.length by omega)]; rfl];exact ⟨k1,k2.trans g2,k3.trans g3⟩
theorem Inv.le5 (h:Inv said B S Q w):∀ y∈Q,y.1<=5:=λ y hy=>by have:=h.inQ y hy; have:=h.J4; omega
theorem Inv.take (h:Inv said B S Q w) {n:n9} {p:Nat} (hp:n.2.2.1=p) (bZ:p<w.2.1.length) (hv:W5 w.1.2.1 p=true) (hm:w.2.2.1[n.2.2.2.2.1.toNat]?=some n.2.2.2.2.2.2.1) :
    Inv said B S Q (T3 w n):=by
  by_cases he:(N0 w n).2.2.1≠0
  . rw [T3,if_pos he]; exact h
  rw [T3,if_neg he,hp];have lS:N0 w n=E2 (w.2.1.getD p g9).2.2.2.1 (n.2.2.2.2.1,n.2.2.2.2.2.2.1,()):=by rw [N0,hp]; rfl
  rw [lS] at he ⊢;have lB:=Decidable.not_not.1 he;obtain ⟨⟨m,hM⟩,eM⟩:=h.mem p bZ hv;rw [h.ord] at hm;obtain ⟨a1,a2,a3,a4,a5,a6⟩:=zv lB;have fa:=Rs (F:=λ i=>(Q0 Q)[i]?) lB hM.wait hm;obtain ⟨r,hr⟩:∃ r,r=E2 (w.2.1.getD p g9).2.2.2.1 (n.2.2.2.2.1,n.2.2.2.2.2.2.1,()):=⟨_,rfl⟩;rw [<- hr] at lB a1 a2 a3 a5 a6 fa ⊢;have kh:=hM.next;have fa:∀ i,i<r.2.1.length->(Q0 Q)[m+i]?=r.2.1[i]?:=λ i hi=>by
    have:=fa i hi;rw [kh] at this;exact this
  have hH:Bh B S Q p m (wJ (C5 w (p:Int)) r.1):=⟨hM.log,hM.from_,hM.ok⟩;obtain ⟨k1,k2,k3⟩:=Rn hH fa h.le5 h.yW h.short (Nat.le_refl _);refine h.E8 (p:=p) (λ _=>?_) (λ _ _=>⟨m+r.2.1.length,?_⟩)
  . rw [k2];exact h.rcv p bZ
  . refine ⟨?_,?_,?_,k1.log,k1.from_,k1.ok⟩
    . rcases Nat.eq_zero_or_pos r.2.1.length with h0|h0
      . rw [h0]; exact hM.le
      . have h1:=fa (r.2.1.length - 1) (by omega);rw [List.getElem?_eq_getElem (show r.2.1.length - 1<r.2.1.length by omega)] at h1;have h2:m+(r.2.1.length - 1)<(Q0 Q).length:=by
          by_cases h2:m+(r.2.1.length - 1)<(Q0 Q).length
          . exact h2
          . rw [List.getElem?_eq_none (by omega)] at h1; cases h1
        rw [YQ] at h2;omega
    . rw [k2];show r.1.1=_;rw [a5,kh]; omega
    . rw [k2];intro x hx;rcases a2 x hx with rfl|hx
      . exact hm
      . exact hM.wait x hx
theorem Inv.a80 (h:Inv said B S Q w) {n:n9} (h0:0<=n.2.2.2.2.1) (hm:yh S w.2.2.1 n) (ha:l4 w n.2.2.1=true):∃ Q',Inv said B S Q' (B9 w n):=by
  by_cases hk:known w n.2.1≠0
  . exact ⟨Q,by rw [SN hk]; exact h⟩
  by_cases c1:n.1=1
  . rw [TT hk c1]; exact h.order hk (hm.1 c1)
  by_cases c3:n.1=3
  . refine ⟨Q,?_⟩;rw [TS hk c3]; exact h.GX (h.asks h0 4)
  by_cases c2:n.1=2
  . refine ⟨Q,?_⟩;rw [TG hk c2];obtain ⟨p,hp,bZ,hv,-⟩:=yI.1 ha;exact h.take hp bZ hv (hm.2 c2)
  . exact ⟨Q,by rw [TF c1 c3 c2]; exact h⟩
theorem PX {s:y7} (h:(w9 s).2.1=0):0<=(w9 s).1.2.2.2.2.1/\(w9 s).1.2.2.2.2.1<=16777215:=(CL (NH h).1).seq
theorem Inv.UC (h:Inv said B S Q w) {bA:Int} {s:y7} (hs:zZ S w.2.2.1 w.1.1 s):∃ Q',Inv said B S Q' (N2 w bA s):=by
  by_cases c:bA=1/\(w9 s).2.1=0/\(w9 s).1.2.2.2.1=w.1.1/\l4 w (w9 s).1.2.2.1=true
  . rw [KJ c];exact h.a80 (PX c.2.1).1 ((hs c.2.1).2 c.2.2.1) c.2.2.2
  . exact ⟨Q,by rw [Ki c]; exact h⟩
theorem Inv.move (h:Inv said B S Q w) (k bA:Int):∃ Q',Inv said B S Q' (o8 w k bA).1:=by
  by_cases c1:H6 bA 1 3=false
  . exact ⟨Q,by rw [Ru c1]; exact h⟩
  by_cases c2:H6 k 0 ((w.2.2.2.1.length:Int) - 1)=false
  . exact ⟨Q,by rw [SG c1 c2]; exact h⟩
  have hk:=M8.1 (Bool.not_eq_false _▸c2:H6 k 0 ((w.2.2.2.1.length:Int) - 1)=true);by_cases c3:bA=3
  . by_cases c4:(w.2.2.2.1.length:Int)=60
    . exact ⟨Q,by rw [SF c1 c2 c3 c4]; exact h⟩
    . refine ⟨Q,?_⟩;rw [KI c1 c2 c3 c4];exact h.copy (by omega) c4
  . rw [BZ c1 c2 c3];refine (h.drop k).UC ?_;refine h.msg _ ?_;rw [List.getD_eq_getElem?_getD,List.getElem?_eq_getElem (by omega)]; exact List.getElem_mem _
end
end Go.Proofs.YtijlnmgondibnaaGreatDoor
namespace Go.Proofs.YtijlnmgondibnaaGreatDoor
open Go.Ex
set_option maxRecDepth 100000
theorem Ay {x:Int} (h:0<=x/\x<=255) {p:Nat} (hp:p<8):W5 x p=bit x p:=by
  have key:∀ n:Fin 256,∀ i:Fin 8,W5 ((n.val:Nat):Int) i.val=bit ((n.val:Nat):Int) i.val:=by decide +kernel
  have:=key ⟨x.toNat,by omega⟩ ⟨p,hp⟩;simpa [show ((x.toNat:Nat):Int)=x by omega] using this
theorem WB {k i:Nat} (hk:k<8) (hi:i<8):bit (IntKind.wrap .u8 (1*2^min ((k:Nat):Int).toNat IntKind.u8.bits)) i=decide (i=k):=by
  have key:∀ k:Fin 8,∀ i:Fin 8,bit (IntKind.wrap .u8 (1*2^min ((k.val:Nat):Int).toNat IntKind.u8.bits)) i.val=decide (i.val=k.val):=by decide +kernel
  exact key ⟨k,hk⟩ ⟨i,hi⟩
theorem PN (i:Nat):bit 0 i=false:=by
  show (0:Nat).testBit i=false;simp
theorem Jg {w:f8} (hv:0<=w.1.2.1/\w.1.2.1<=255):∀ {k:Nat},k<=8->u7 .u8 (E3 w k)/\∀ i,i<8->bit (E3 w k) i=(decide (i<k) && W5 w.1.2.1 i && !l4 w i)
  | 0,_=>⟨u8_in.2 ⟨Int.le_refl 0,by show (0:Int)<=255; decide⟩,λ i _=>by
      show bit 0 i=_;rw [PN]; simp⟩
  | k+1,hk=>by
    obtain ⟨h1,h2⟩:=Jg hv (show k<=8 by omega);rw [E3,Qf];by_cases a:l4 w k=true
    . rw [if_pos a];refine ⟨h1,λ i hi=>?_⟩;rw [h2 i hi];by_cases e:i=k
      . subst e;rw [a]; simp
      . rw [show decide (i<k+1)=decide (i<k) by by_cases c:i<k<;>simp [c]<;>omega]
    . rw [if_neg a];refine ⟨GU,λ i hi=>?_⟩;rw [MN u8s h1 MW,Oa u8s (u8_in.2 hv) (U6 _ _),WB (by omega) hi,h2 i hi,<- Ay hv hi];by_cases e:i=k
      . subst e;have a':l4 w i=false:=by simpa using a
        rw [a']; simp
      . rw [show decide (i<k+1)=decide (i<k) by by_cases c:i<k<;>simp [c]<;>omega];simp [e]
theorem PO {v:vP} {g:Int} (h:¬ (S5 v g 0).2.1≠0):(S5 v g 0).1=(v.1+1,bOr .u8 (S3 .u8 v.2.1 g) 0,())/\v.1<16777215/\0<=v.1:=by
  unfold S5 at h ⊢;by_cases c1:S9 v≠0
  . rw [if_pos c1] at h; exact absurd c1 h
  rw [if_neg c1] at h ⊢;split at h
  . exact absurd (by decide) h
  rename_i c2;rw [if_neg c2];split at h
  . exact absurd (by decide) h
  rename_i c3;rw [if_neg c3];split at h
  . exact absurd (by decide) h
  rename_i c4;rw [if_neg c4];split at h
  . exact absurd (by decide) h
  rename_i c5;rw [if_neg c5];refine ⟨rfl,?_⟩;unfold S9 at c1;split at c1
  . exact absurd (by decide) c1
  . rename_i c6;omega
theorem members {w:f8} (hf:w.2.1.length<=6) (hv:0<=w.1.2.1/\w.1.2.1<=255) (hn:¬ (S4 w).2.1≠0) :
    (G4 w).1.1=w.1.1+1/\(0<=(G4 w).1.2.1/\(G4 w).1.2.1<=255)/\∀ p,p<w.2.1.length->W5 (G4 w).1.2.1 p=l4 w p:=by
  obtain ⟨h1,h2⟩:=PO hn;have he:(G4 w).1=(w.1.1+1,bOr .u8 (S3 .u8 w.1.2.1 (E3 w w.2.1.length)) 0,()):=h1;obtain ⟨g1,g2⟩:=Jg hv (show w.2.1.length<=8 by omega);rw [he];refine ⟨rfl,u8_in.1 GU,λ p hp=>?_⟩;have z0:u7 .u8 (0:Int):=u8_in.2 ⟨by decide,by decide⟩;show W5 (bOr .u8 (S3 .u8 w.1.2.1 (E3 w w.2.1.length)) 0) p=l4 w p;rw [Ay (u8_in.1 GU) (by omega),MN u8s AF z0,Sm u8s (u8_in.2 hv) g1,g2 p (by omega),PN,<- Ay hv (by omega),decide_eq_true hp];cases hm:W5 w.1.2.1 p with
  | true=>simp
  | false =>
    have:l4 w p=false:=by
      cases ha:l4 w p with
      | false=>rfl
      | true=>have:=(X4.1 ha).2.1; rw [hm] at this; cases this
    rw [this]; rfl
theorem Kh {w:f8}:∀ {k:Nat},J5 w k=[]\/∃ i,i<k/\l4 w i=true/\J5 w k=(w.2.1.getD i g9).2.1
  | 0=>.inl rfl
  | k+1=>by
    rw [J5]
    split
    . rename_i h; exact .inr ⟨k,by omega,h.1,rfl⟩
    . rcases Kh (w:=w) (k:=k) with h|⟨i,h1,h2,h3⟩
      . exact .inl h
      . exact .inr ⟨i,by omega,h2,h3⟩
theorem SX {f:Nat->p7->p7} {l:List p7} {p:Nat} (hp:p<l.length):(l.mapIdx f).getD p g9=f p (l.getD p g9):=by
  rw [List.getD_eq_getElem?_getD,List.getElem?_mapIdx,List.getD_eq_getElem?_getD,List.getElem?_eq_getElem hp]; rfl
theorem Yq {α:Type} {l:List α} {c:Nat}:l.drop (min c l.length)=l.drop c:=by
  by_cases h:c<=l.length
  . rw [Nat.min_eq_left h]
  . rw [Nat.min_eq_right (by omega),List.drop_length,List.drop_eq_nil_of_le (by omega)]
section
variable {said:Nat->List y7} {B:List E5} {S:Nat->List y7} {Q:List W6} {w:f8}
theorem Inv.long (h:Inv said B S Q w) {p0:Nat} (lX:p0<w.2.1.length) (oI:l4 w p0=true) :
    ∃ m,m<=Q.length/\J5 w w.2.1.length=B++(Q.take m).map xa/\∀ p,p<w.2.1.length->l4 w p=true->∀ j,DD said B S Q p (w.2.1.getD p g9) j->j<=m:=by
  rcases Kh (w:=w) (k:=w.2.1.length) with hL|⟨i,hi,tK,hL⟩
  . have hz:∀ p,p<w.2.1.length->l4 w p=true->(w.2.1.getD p g9).2.1=[]:=λ p hp fo=>by
      have:=EL fo hp;rw [hL] at this;exact List.eq_nil_of_length_eq_zero (by simpa using this)
    obtain ⟨⟨j,hj⟩,-⟩:=h.mem p0 lX (X4.1 oI).2.1;have h0:=hj.log;rw [hz p0 lX oI] at h0;have hB:B=[]:=(List.append_eq_nil_iff.1 h0.symm).1;refine ⟨0,Nat.zero_le _,by rw [hL,hB]; rfl,λ p hp fo j hj=>?_⟩;have h0:=hj.log;rw [hz p hp fo] at h0;have h1:=(List.append_eq_nil_iff.1 h0.symm).2;have h2:=congrArg List.length h1;rw [List.length_map,List.length_take] at h2;have:=hj.le;simp only [List.length_nil] at h2;omega
  . obtain ⟨⟨m,hm⟩,-⟩:=h.mem i hi (X4.1 tK).2.1;refine ⟨m,hm.le,by rw [hL,hm.log],λ p hp fo j hj=>?_⟩;have:=EL fo hp;rw [hL,hm.log,hj.log,List.length_append,List.length_append,List.length_map,List.length_map,List.length_take,List.length_take] at this;have h1:=hj.le;have h2:=hm.le;omega
theorem Inv.change (h:Inv said B S Q w) (hv:0<=w.1.2.1/\w.1.2.1<=255) (hn:¬ (S4 w).2.1≠0) :
    ∃ B' S',Inv said B' S' [] (G4 w)/\(∀ p,p<w.2.1.length->l4 w p=true->(G4 w).2.1.getD p g9=((w.2.1.getD p g9).1,B',(0,S' p,()),(0,[],()),(0,[],()),())) /\
      (∀ p,p<w.2.1.length->(w.2.1.getD p g9).2.1 <+: ((G4 w).2.1.getD p g9).2.1):=by
  obtain ⟨fg,lR,mw⟩:=members h.J4 hv hn;have hlen:(G4 w).2.1.length=w.2.1.length:=List.length_mapIdx ..;have cv:∀ p:Nat,p<w.2.1.length->(G4 w).2.1.getD p g9=vf w (J5 w w.2.1.length) p (w.2.1.getD p g9):=λ p hp=>SX hp;have gZ:∀ p:Nat,p<w.2.1.length->l4 w p=false->(G4 w).2.1.getD p g9=((w.2.1.getD p g9).1,(w.2.1.getD p g9).2.1,(w.2.1.getD p g9).2.2.1,(w.2.1.getD p g9).2.2.2.1,(0,[],()),()):=λ p hp ha=>by
    rw [cv p hp,vf,if_neg (by rw [ha]; decide)]
  have ng:∀ S',∀ s∈w.2.2.2.1,zZ S' [] (w.1.1+1) s:=λ S' s hs e=>by
    have:=(h.msg s hs e).1;exact ⟨by omega,λ e2=>absurd e2 (by omega)⟩
  by_cases hex:∃ p0:Nat,p0<w.2.1.length/\l4 w p0=true
  . obtain ⟨p0,lX,oI⟩:=hex;obtain ⟨m,uM,hL,jL⟩:=h.long lX oI;rw [hL] at cv;obtain ⟨S',iZ⟩:∃ S':Nat->List y7,S'=λ p=>if p<w.2.1.length/\l4 w p=true then (S p).drop (C8 p (Q.take m)).length else []:=⟨_,rfl⟩
    have gD:∀ p:Nat,p<w.2.1.length->l4 w p=true->S' p=(S p).drop (C8 p (Q.take m)).length:=λ p hp ha=>by rw [iZ]; exact if_pos ⟨hp,ha⟩
    have eV:∀ p:Nat,l4 w p=false->S' p=[]:=λ p ha=>by rw [iZ]; exact if_neg (λ c=>by rw [c.2] at ha; cases ha)
    have js:∀ p:Nat,p<w.2.1.length->l4 w p=true->(G4 w).2.1.getD p g9=((w.2.1.getD p g9).1,B++(Q.take m).map xa,(0,S' p,()),(0,[],()),(0,[],()),()):=λ p hp ha=>by
      obtain ⟨⟨j,hj⟩,-⟩:=h.mem p hp (X4.1 ha).2.1;have jL:=jL p hp ha j hj;rw [cv p hp,vf,if_pos ha,Yq,hj.from_];simp only;have hd:(B++(Q.take m).map xa).drop (w.2.1.getD p g9).2.1.length=((Q.take m).drop j).map xa:=by
        rw [hj.log,List.length_append,List.length_map,List.length_take,Nat.min_eq_left hj.le,<- List.drop_drop,List.drop_left,List.map_drop]
      rw [hd,RU,Er,List.drop_drop,gD p hp ha];have fG:C8 p (Q.take m)=C8 p (Q.take j)++C8 p ((Q.take m).drop j):=by
        rw [<- yH];congr 1;rw [show Q.take j=(Q.take m).take j by rw [List.take_take,Nat.min_eq_left jL],List.take_append_drop]
      rw [fG,List.length_append]
    refine ⟨B++(Q.take m).map xa,S',?_,js,λ p hp=>?_⟩
    . refine ⟨by rw [hlen]; exact h.J4,h.Y1,rfl,λ x hx=>(by cases hx),λ p=>List.nil_prefix,λ p=>?_,λ s hs=>?_,λ p hp=>?_,λ p hp hm=>?_,λ p hp hm=>?_,λ s hs=>?_⟩
      . rw [iZ];dsimp only
        split
        . rw [List.length_drop]; have:=h.short p; omega
        . exact Nat.zero_le _
      . rw [fg]; exact ng S' s hs
      . rw [hlen] at hp;cases ha:l4 w p with
        | true=>rw [js p hp ha]; exact ⟨rfl,λ q hq=>by cases hq⟩
        | false=>rw [gZ p hp ha]; exact ⟨rfl,λ q hq=>by cases hq⟩
      . rw [hlen] at hp;rw [mw p hp] at hm;rw [js p hp hm];obtain ⟨⟨j,hj⟩,eM⟩:=h.mem p hp (X4.1 hm).2.1;have aK:=hj.ok;rw [hj.from_] at aK;have mS:=xR aK;have jL:=jL p hp hm j hj;have bU:S' p=((S p).drop (C8 p (Q.take j)).length).drop ((C8 p (Q.take m)).length - (C8 p (Q.take j)).length):=by
          rw [gD p hp hm,List.drop_drop];congr 1;have:(C8 p (Q.take j)).length<=(C8 p (Q.take m)).length:=by
            have:=(yA (p:=p) (Q:=Q.take m) (i:=j)).length_le;rw [List.take_take,Nat.min_eq_left jL] at this;exact this
          omega
        refine ⟨⟨0,Nat.zero_le _,rfl,λ q hq=>(by cases hq),by simp,by simp [C8],?_⟩,?_⟩
        . refine Qe ⟨by decide,by decide⟩ ?_ ?_
          . rw [bU,List.length_drop]; have:=mS.2.1; simp only at this; omega
          . rw [bU]; exact Pu mS.2.2
        . rw [eM,Io,Er,gD p hp hm,List.append_assoc];congr 1;have bg:=(yA (p:=p) (Q:=Q) (i:=m)).trans (h.yW p)
          conv=>lhs; rw [<- List.take_append_drop (C8 p (Q.take m)).length (S p)]
          rw [<- List.prefix_iff_eq_take.1 bg]
      . rw [hlen] at hp;rw [mw p hp] at hm;refine ⟨eV p hm,?_⟩;rw [Io,Er];have bg:=(yA (p:=p) (Q:=Q) (i:=m)).trans (h.yW p);cases iw:W5 w.1.2.1 p with
        | true =>
          rw [(h.mem p hp iw).2];exact (List.prefix_append_right_inj _).2 bg
        | false =>
          obtain ⟨e1,e2⟩:=h.out p hp iw;rw [e1] at bg;rw [List.prefix_nil.1 bg,List.append_nil];exact e2
      . rw [hlen];rcases List.mem_append.1 hs with hs|hs
        . exact h.LX s hs
        . obtain ⟨y,hy,rfl⟩:=List.mem_map.1 hs;have:=h.inQ y (List.mem_of_mem_take hy);show 0<=((y.1:Nat):Int)/\((y.1:Nat):Int)<_;omega
    . cases ha:l4 w p with
      | true =>
        rw [js p hp ha];obtain ⟨⟨j,hj⟩,-⟩:=h.mem p hp (X4.1 ha).2.1;have jL:=jL p hp ha j hj;rw [hj.log];refine (List.prefix_append_right_inj _).2 (List.IsPrefix.map xa ?_);rw [show Q.take j=(Q.take m).take j by rw [List.take_take,Nat.min_eq_left jL]];exact List.take_prefix ..
      | false=>rw [gZ p hp ha]; exact List.prefix_rfl
  . have bH:∀ p:Nat,p<w.2.1.length->l4 w p=false:=λ p hp=>by
      cases ha:l4 w p with
      | false=>rfl
      | true=>exact absurd ⟨p,hp,ha⟩ hex
    refine ⟨[],λ _=>[],?_,λ p hp ha=>(by rw [bH p hp] at ha; cases ha),λ p hp=>by rw [gZ p hp (bH p hp)]; exact List.prefix_rfl⟩;refine ⟨by rw [hlen]; exact h.J4,h.Y1,rfl,λ x hx=>(by cases hx),λ p=>List.nil_prefix,λ p=>Nat.zero_le _,λ s hs=>?_,λ p hp=>?_,λ p hp hm=>?_,λ p hp hm=>⟨rfl,List.nil_prefix⟩,λ s hs=>(by cases hs)⟩
    . rw [fg]; exact ng _ s hs
    . rw [hlen] at hp;rw [gZ p hp (bH p hp)]; exact ⟨rfl,λ q hq=>by cases hq⟩
    . rw [hlen] at hp;rw [mw p hp,bH p hp] at hm; cases hm
end
end Go.Proofs.YtijlnmgondibnaaGreatDoor
namespace Go.Proofs.YtijlnmgondibnaaGreatDoor
open Go.Ex
set_option maxRecDepth 100000
attribute [local irreducible] Go.Ex.exec
section
variable {H:Array Go.Obj} {S:Nat->Prop} {O:List Nat} {cs:List Value}
theorem PY {α β:Type} {R:List Nat->List Value->α->Prop} {R':List Nat->List Value->β->Prop} {sz:Nat} {f:α->β} (hr:∀ O cs x,R O cs x->R' O cs (f x)):∀ {l:List α} {O:List Nat} {cs:List Value},j6 R sz O cs l->j6 R' sz O cs (l.map f)
  | [],_,_,h=>h
  | _::_,_,_,⟨O1,O2,e,h1,h2⟩=>⟨O1,O2,e,hr _ _ _ h1,PY hr h2⟩
theorem VD {l:List p7} (h:i6 H S (.d8 true xg) O cs l):i6 H S (.d8 true Z3) O cs (l.map toM):=by
  have e:(l.map toM).length=l.length:=List.length_map ..;rcases h with ⟨a,b,c⟩|⟨b,off,cap,O',h1,h2,h3,h4,h5,h6⟩
  . exact .inl ⟨a,b,by rw [c]; rfl⟩
  . refine .inr ⟨b,off,cap,O',?_,?_,h3,?_,?_,h6⟩
    . rw [h1]; exact congrArg (λ n:Nat=>[Value.slice (some ⟨b,off,none⟩) n cap]) e.symm
    . exact Nat.le_trans (Nat.le_of_eq e) h2
    . exact Nat.le_trans (Nat.le_of_eq (congrArg (λ n:Nat=>off+n*Z3.size) e)) h4
    . have:=PY (R':=i6 H S Z3) (f:=toM) (λ _ _ _ h=>h) h5;have e2:e8 H b off (List.length (l.map toM)*Z3.size)=e8 H b off (List.length l*xg.size):=congrArg (λ n:Nat=>e8 H b off (n*Z3.size)) e;show j6 (i6 H S Z3) Z3.size O' (e8 H b off (List.length (l.map toM)*Z3.size)) (l.map toM);rw [e2];exact this
theorem Yl {l:List p7} (h:i6 H S (.d8 true Z3) O cs (l.map toM)):i6 H S (.d8 true xg) O cs l:=by
  have e:(l.map toM).length=l.length:=List.length_map ..;rcases h with ⟨a,b,c⟩|⟨b,off,cap,O',h1,h2,h3,h4,h5,h6⟩
  . exact .inl ⟨a,b,List.map_eq_nil_iff.1 c⟩
  . refine .inr ⟨b,off,cap,O',?_,?_,h3,?_,?_,h6⟩
    . rw [h1]; exact congrArg (λ n:Nat=>[Value.slice (some ⟨b,off,none⟩) n cap]) e
    . exact Nat.le_trans (Nat.le_of_eq e.symm) h2
    . exact Nat.le_trans (Nat.le_of_eq (congrArg (λ n:Nat=>off+n*Z3.size) e.symm)) h4
    . have e2:e8 H b off (List.length (l.map toM)*Z3.size)=e8 H b off (List.length l*xg.size):=congrArg (λ n:Nat=>e8 H b off (n*Z3.size)) e;have h5:j6 (i6 H S Z3) Z3.size O' (e8 H b off (List.length (l.map toM)*Z3.size)) (l.map toM):=h5;rw [e2] at h5;exact j6.LV (R:=i6 H S xg) (f:=toM) (λ _ _ _ h=>h) h5
theorem VV {w:f8} (h:i6 H S r8 O cs w):i6 H S vM O cs (vo w):=by
  obtain ⟨v,al,r⟩:=w;obtain ⟨P1,P2,e,r1,P3,P4,e',r2,r3⟩:=h;exact ⟨P1,P2,e,r1,P3,P4,e',VD r2,r3⟩
theorem Zt {w:f8} (h:i6 H S vM O cs (vo w)):i6 H S r8 O cs w:=by
  obtain ⟨v,al,r⟩:=w;obtain ⟨P1,P2,e,r1,P3,P4,e',r2,r3⟩:=h;exact ⟨P1,P2,e,r1,P3,P4,e',Yl r2,r3⟩
end
def Pz:r9:={ ps:=[.rw r8],rs:=[f7],pre:=λ x=>zq x.1,fn:=λ x=>((T9 x.1).2,()),out:=λ x=>((T9 x.1).1,()) }
theorem KR {w:f8} (h:(S4 w).2.1≠0):T9 w=(w,(S4 w).2.1):=by rw [T9]; exact if_pos h
theorem KV {w:f8} (h:¬ (S4 w).2.1≠0):T9 w=(G4 w,0):=by rw [T9]; exact if_neg h
attribute [local irreducible] T9 G4 S4 in
theorem b2Z:Pz.Valid Tryz.prog 25:=by
  refine ⟨TB.ent,?_,λ h=>by cases h⟩;rintro w S vs ⟨(x:f8),⟨⟩⟩ L hS ec (bg:zq x) ⟨v,us,L1,L2,rfl,rfl,⟨b,off,O,rfl,hr,hf,rfl⟩,rfl,rfl⟩ - aN hL;by_cases hn:(S4 x).2.1≠0
  . have hs:i6 w.heap (λ c=>S c\/c∈b::O) N9 [] (e8 w.heap b off r8.size) x:=hr.vJ (S':=λ c=>S c\/c∈b::O) (λ c h=>.inr (List.mem_cons_of_mem _ h)) (λ c h=>.inl h) rfl;refine (b27.run w (λ c=>S c\/c∈b::O) [.pointer (some ⟨b,off,none⟩)] (x,()) [] ?_ (ec.sub (λ c h=>.inl h)) ⟨bg.J4,hn⟩ ⟨_,[],[],[],rfl,rfl,⟨rfl,b,off,rfl,.inr List.mem_cons_self,?_,hs⟩,rfl,rfl⟩ trivial List.nodup_nil (by simp)).mono ?_
    . rintro c (h|h)
      . exact hS c h
      . exact (hL c (by simpa using h)).2
    . exact P5.x8 hf
    rintro e w' ⟨us,O2,Lo,S',e1,hp,s1,s2,h1,h2,de,fE⟩;obtain ⟨v1,us1,P1,P2,cs,rfl,rfl,rfl,⟨rfl,rfl,hk⟩,rfl,rfl⟩:=h1;have dY:∀ c,c<w.heap.size->w'.heap[c]?=w.heap[c]?:=λ c hc=>hp.frame c hc (by simp);have eh:∀ c∈b::O,¬ S c/\c<w.heap.size:=λ c hc=>hL c (by simpa using hc);have hb:=dY b (eh b List.mem_cons_self).2;have fm:=KR hn;refine ⟨[_],[],b::O,S,e1,⟨hp.os,hp.tape,hp.out,hp.size,λ c hc hn=>dY c hc⟩,λ _ h=>h,λ c h=>.inl h,⟨_,[],[],[],_,rfl,rfl,rfl,⟨rfl,?_,?_⟩,rfl,rfl⟩,⟨b,off,O,[],[],rfl,?_,?_,by simp,rfl,rfl⟩,?_,?_⟩
    . show [Value.int .i64 _]=[Value.int .i64 (T9 x).2];rw [fm]; rfl
    . show u7 .i64 (T9 x).2;rw [fm]; exact hk
    . show i6 w'.heap S r8 O (e8 w'.heap b off r8.size) (T9 x).1;rw [fm,l6 hb];exact hr.w6 (λ c hc=>dY c (hc.elim (λ h=>(eh c (List.mem_cons_of_mem _ h)).2) (hS c))) (λ _ h=>h)
    . exact P5.w6 hb hf
    . simpa using aN
    . intro c hc;have hc:c∈b::O:=by simpa using hc
      exact ⟨(eh c hc).1,.inr (by simpa using hc),Nat.lt_of_lt_of_le (eh c hc).2 hp.size⟩
  . have fm:=KV hn;have oC:=Yu x;refine (TB.run w S [.pointer (some ⟨b,off,none⟩)] (vo x,()) (b::O++[]) hS ec ⟨?_,?_,?_⟩ ⟨_,[],b::O,[],rfl,rfl,⟨b,off,O,rfl,VV hr,hf,rfl⟩,rfl,rfl⟩ trivial aN hL).mono ?_
    . show vo x=vo (vS (vo x)); rw [oC]
    . show zq (vS (vo x)); rw [oC]; exact bg
    . show ¬ (S4 (vS (vo x))).2.1≠0; rw [oC]; exact hn
    rintro e w' ⟨us,O2,Lo,S',e1,hp,s1,s2,h1,h2,h3,h4⟩;refine ⟨us,O2,Lo,S',e1,hp,s1,s2,?_,?_,h3,h4⟩
    . have h1:M4 w'.heap S' [f7] O2 us ((0:Int),()):=h1;show M4 w'.heap S' [f7] O2 us ((T9 x).2,());rw [fm]; exact h1
    . obtain ⟨b',ar,O',us',L',e',kQ,qk,e2,h'⟩:=h2;refine ⟨b',ar,O',us',L',e',?_,qk,e2,h'⟩;have kQ:i6 w'.heap S' vM O' (e8 w'.heap b' ar vM.size) (vo (G4 (vS (vo x)))):=kQ;show i6 w'.heap S' r8 O' (e8 w'.heap b' ar r8.size) (T9 x).1;rw [fm];rw [oC] at kQ;exact Zt kQ
end Go.Proofs.YtijlnmgondibnaaGreatDoor
namespace Go.Proofs.YtijlnmgondibnaaGreatDoor
open Go.Ex
set_option maxRecDepth 100000
attribute [local irreducible] Go.Ex.exec
end Go.Proofs.YtijlnmgondibnaaGreatDoor
namespace Go.Proofs.YtijlnmgondibnaaGreatDoor
open Go.Ex
set_option maxRecDepth 100000
structure Sz (c:Nat) (w:f8):Prop where
  log:∀ i:Nat,(w.2.1.getD i g9).2.1.length<=c
  ord:w.2.2.1.length<=c
  txt:∀ i:Nat,∀ s∈(w.2.1.getD i g9).2.1,s.2.1.length<=200
  late:∀ i:Nat,(w.2.1.getD i g9).2.2.1.2.1.length<=16
theorem Sz.mono {c d:Nat} {w:f8} (h:Sz c w) (hd:c<=d):Sz d w:=⟨λ i=>Nat.le_trans (h.log i) hd,Nat.le_trans h.ord hd,h.txt,h.late⟩
structure K7 (k:Nat) (w w':f8):Prop where
  view:w'.1=w.1
  len:w'.2.1.length=w.2.1.length
  log:∀ i:Nat,(w.2.1.getD i g9).2.1 <+: (w'.2.1.getD i g9).2.1
  fal:∀ i:Nat,(w'.2.1.getD i g9).1=(w.2.1.getD i g9).1
  sz:∀ c,Sz c w->Sz (c+k) w'
theorem K7.same {w w':f8} (h1:w'.1=w.1) (h2:w'.2.1=w.2.1) (h3:w'.2.2.1=w.2.2.1):K7 0 w w' :=
  ⟨h1,by rw [h2],λ i=>by rw [h2]; exact List.prefix_rfl,λ i=>by rw [h2],λ c h=>⟨by rw [h2]; exact h.log,by rw [h3]; exact h.ord,by rw [h2]; exact h.txt,by rw [h2]; exact h.late⟩⟩
theorem K7.more {k l:Nat} {w w':f8} (h:K7 k w w') (hl:k<=l):K7 l w w':=⟨h.view,h.len,h.log,h.fal,λ c hc=>(h.sz c hc).mono (by omega)⟩
theorem K7.trans {k l:Nat} {w w' w'':f8} (h:K7 k w w') (h':K7 l w' w''):K7 (k+l) w w'' :=
  ⟨h'.view.trans h.view,h'.len.trans h.len,λ i=>(h.log i).trans (h'.log i),λ i=>(h'.fal i).trans (h.fal i),λ c hc=>by rw [<- Nat.add_assoc]; exact h'.sz _ (h.sz c hc)⟩
theorem X5.Dq {P:n9->Prop} {w w':f8} (h:X5 P w w'):K7 0 w w':=.same h.view h.all h.ord
theorem K7.set {k:Nat} {w:f8} {p:Nat} {x:p7} (h1:(w.2.1.getD p g9).2.1 <+: x.2.1) (h2:x.1=(w.2.1.getD p g9).1) (h3:x.2.1.length<=(w.2.1.getD p g9).2.1.length+k)
    (h4:(∀ s∈(w.2.1.getD p g9).2.1,s.2.1.length<=200)->∀ s∈x.2.1,s.2.1.length<=200) (h5:(w.2.1.getD p g9).2.2.1.2.1.length<=16->x.2.2.1.2.1.length<=16):K7 k w (w.1,w.2.1.set p x,w.2.2):=by
  have hg:∀ i,(w.2.1.set p x).getD i g9=x/\p=i\/(w.2.1.set p x).getD i g9=w.2.1.getD i g9:=λ i=>by
    rw [L9]
    split
    . rename_i e; exact .inl ⟨rfl,e.1⟩
    . exact .inr rfl
  refine ⟨rfl,List.length_set ..,λ i=>?_,λ i=>?_,λ c hc=>⟨λ i=>?_,Nat.le_trans hc.ord (Nat.le_add_right _ _),λ i=>?_,λ i=>?_⟩⟩
  . rcases hg i with ⟨e,rfl⟩|e
    . show _ <+: ((w.2.1.set p x).getD p g9).2.1; rw [e]; exact h1
    . show _ <+: ((w.2.1.set p x).getD i g9).2.1; rw [e]; exact List.prefix_rfl
  . rcases hg i with ⟨e,rfl⟩|e
    . show ((w.2.1.set p x).getD p g9).1=_; rw [e]; exact h2
    . show ((w.2.1.set p x).getD i g9).1=_; rw [e]
  . rcases hg i with ⟨e,rfl⟩|e
    . show ((w.2.1.set p x).getD p g9).2.1.length<=_; rw [e]; have:=hc.log p; omega
    . show ((w.2.1.set p x).getD i g9).2.1.length<=_; rw [e]; have:=hc.log i; omega
  . rcases hg i with ⟨e,rfl⟩|e
    . show ∀ s∈((w.2.1.set p x).getD p g9).2.1,_; rw [e]; exact h4 (hc.txt p)
    . show ∀ s∈((w.2.1.set p x).getD i g9).2.1,_; rw [e]; exact hc.txt i
  . rcases hg i with ⟨e,rfl⟩|e
    . show ((w.2.1.set p x).getD p g9).2.2.1.2.1.length<=_; rw [e]; exact h5 (hc.late p)
    . show ((w.2.1.set p x).getD i g9).2.2.1.2.1.length<=_; rw [e]; exact hc.late i
theorem QH {w:f8} {k f t q:Int} {x:y7}:K7 0 w (M0 w k f t q x):=by
  obtain ⟨h1,h2,h3⟩:=EX (w:=w) (k:=k) (f:=f) (t:=t) (s:=q) (x:=x);exact .same h2 h1 h3
theorem Kp (w:f8) (p:Int) (t:y7):K7 0 w (J9 w p t).1:=by
  rw [J9]
  split
  . exact .same rfl rfl rfl
  split
  . exact .same rfl rfl rfl
  split
  . exact .same rfl rfl rfl
  split
  . exact .same rfl rfl rfl
  . rename_i hl;obtain ⟨g1,g2,g3⟩:=Il hl;have aK:=xR g2;refine K7.trans (w':=setFrom w p (K3 (I7 w p) t).1) (k:=0) ?_ QH;refine K7.set (k:=0) List.prefix_rfl rfl (Nat.le_refl _) id (λ _=>?_);rw [g1]; exact aK.2.1
theorem Tc (w:f8) (p:Int):K7 0 w (W9 w p).1:=by
  rw [W9]
  split
  . exact .same rfl rfl rfl
  . obtain ⟨h1,h2,h3⟩:=Kx (p:=p) (l:=yl w p) (w:=w) (yl w p).length;exact (K7.same h2 h1 h3).trans QH
theorem b73 (w:f8) (n:n9):K7 16 w (N7 w n):=by
  rw [N7]
  split
  . exact (K7.same rfl rfl rfl).more (by omega)
  . rename_i he;obtain ⟨-,-,a3,-⟩:=zv (Decidable.not_not.1 he);have h0:K7 0 w (Q5 w n.2.1 (V3 (C5 w n.2.1) (U4 w n).1)):=K7.set List.prefix_rfl rfl (Nat.le_refl _) id id;obtain ⟨h1,h2,h3⟩:=JU (f:=n.2.1) (first:=(C5 w n.2.1).2.2.2.2.1.1) (l:=(U4 w n).2.1) (w:=Q5 w n.2.1 (V3 (C5 w n.2.1) (U4 w n).1)) (U4 w n).2.1.length;refine (h0.trans (l:=16) ⟨h2,by rw [h1],λ i=>by rw [h1]; exact List.prefix_rfl,λ i=>by rw [h1],λ c hc=>⟨λ i=>?_,?_,by rw [h1]; exact hc.txt,by rw [h1]; exact hc.late⟩⟩).more (by omega)
    . rw [h1]; have:=hc.log i; omega
    . rw [h3];have:=hc.ord;have a3:(U4 w n).2.1.length<=16:=a3;omega
theorem b78 {s:vK} {x:Int} (h:(R9 s x).2.1=0):(R9 s x).1.2.1.length<=s.2.1.length:=by
  unfold R9 at h ⊢
  split
  . rename_i h1; rw [if_pos h1] at h; exact absurd h h1
  . rename_i h1;rw [if_neg h1] at h
    split
    . rename_i h2; rw [if_pos h2] at h; exact absurd h (by decide)
    . exact List.length_drop ..▸Nat.sub_le _ _
theorem SU (q:Int) (x:p7) (t:y7):(X2 q x t).1=x.1/\(x.2.2.1.2.1.length<=16->(X2 q x t).2.2.1.2.1.length<=16):=by
  by_cases h:who t=q/\(R9 x.2.2.1 (nth t+1)).2.1=0
  . rw [Kd h.1 h.2];exact ⟨rfl,λ h2=>Nat.le_trans (b78 h.2) h2⟩
  . rw [EJ h];exact ⟨rfl,id⟩
theorem XF (t:y7):(xb t).length<=t.length:=by
  unfold xb;exact Nat.le_trans (Cl _).2 (Cl _).2
theorem TK {q:Int} {x:p7} {l:List y7} (hl:∀ t∈l,F1 t=false):∀ {i},i<=l.length->x.2.1 <+: (K9 q x l i).2.1/\(K9 q x l i).1=x.1/\(x.2.2.1.2.1.length<=16->(K9 q x l i).2.2.1.2.1.length<=16) /\
    ((∀ s∈x.2.1,s.2.1.length<=200)->∀ s∈(K9 q x l i).2.1,s.2.1.length<=200)
  | 0,_=>⟨List.prefix_rfl,rfl,id,id⟩
  | i+1,hi=>by
    obtain ⟨h1,h2,h3,h4⟩:=TK (q:=q) (x:=x) hl (show i<=l.length by omega);obtain ⟨g1,g2⟩:=SU q (K9 q x l i) (l.getD i []);have g3:=Rm q (K9 q x l i) (l.getD i []);rw [K9];refine ⟨h1.trans (by rw [g3]; exact List.prefix_append ..),g1.trans h2,λ h=>g2 (h3 h),λ h s hs=>?_⟩;rw [g3] at hs;rcases List.mem_append.1 hs with hs|hs
    . exact h4 h s hs
    . rw [List.mem_singleton] at hs;rw [hs];have hm:l.getD i []∈l:=by rw [List.getD_eq_getElem?_getD,List.getElem?_eq_getElem (by omega)]; exact List.getElem_mem _
      exact Nat.le_trans (XF _) (Kg (hl _ hm))
theorem c0e (w:f8) (n:n9):K7 16 w (T3 w n):=by
  rw [T3]
  split
  . exact (K7.same rfl rfl rfl).more (by omega)
  . rename_i he;obtain ⟨a1,-,a3,-⟩:=zv (Decidable.not_not.1 he);obtain ⟨h1,h2,h3,h4⟩:=TK (q:=n.2.2.1) (x:=wJ (C5 w n.2.2.1) (N0 w n).1) (λ t ht=>(a1 t ht).2) (Nat.le_refl (N0 w n).2.1.length);have h5:=KY (q:=n.2.2.1) (x:=wJ (C5 w n.2.2.1) (N0 w n).1) (l:=(N0 w n).2.1) (N0 w n).2.1.length;refine K7.set (k:=16) h1 h2 ?_ h4 h3;rw [h5];have a3:(N0 w n).2.1.length<=16:=a3;exact Nat.add_le_add_left a3 _
theorem b4P (w:f8) (n:n9):K7 16 w (B9 w n):=by
  rw [B9]
  split
  . exact (K7.same rfl rfl rfl).more (by omega)
  split
  . exact b73 w n
  split
  . obtain ⟨h1,h2,h3⟩:=AG (w:=w) (n:=n) 4;exact (K7.same h2 h1 h3).more (by omega)
  split
  . exact c0e w n
  . exact (K7.same rfl rfl rfl).more (by omega)
theorem CI (w:f8) (k bA:Int):K7 16 w (o8 w k bA).1:=by
  have h0:K7 16 w w:=(K7.same rfl rfl rfl).more (by omega);rw [o8]
  split
  . exact h0
  split
  . exact h0
  split
  . exact h0
  split
  . exact (K7.same (w:=w) (w':=Bb w k.toNat) rfl rfl rfl).more (Nat.zero_le 16)
  . refine (K7.trans (k:=0) (l:=16) (w':=xB w k) (K7.same (w:=w) (w':=xB w k) rfl rfl rfl) ?_).more (Nat.le_refl 16);show K7 16 (xB w k) (N2 (xB w k) bA (w.2.2.2.1.getD k.toNat []));rw [N2]
    split
    . exact b4P _ _
    . exact (K7.same rfl rfl rfl).more (by omega)
abbrev J0:=Int×Int×Int×yY×Unit
def S8 (w:f8) (d:J0):f8×Int :=
  if d.1=1 then J9 w d.2.1 d.2.2.2.1 else if d.1=2 then W9 w d.2.1 else if d.1=3 then o8 w d.2.1 d.2.2.1 else if d.1=4 then vQ w d.2.1 else if d.1=5 then T9 w else (w,1)
structure Ok (c:Nat) (said:Nat->List y7) (w:f8):Prop where
  mem:0<=w.1.2.1/\w.1.2.1<=255
  sz:Sz c w
  inv:∃ B S Q,Inv said B S Q w
structure Good (w:f8):Prop where
  move:yy w
  change:zq w
theorem Ok.J4 {c:Nat} {said:Nat->List y7} {w:f8} (h:Ok c said w):w.2.1.length<=6:=by
  obtain ⟨B,S,Q,hI⟩:=h.inv;exact hI.J4
theorem Inv.note {said:Nat->List y7} {B:List E5} {S:Nat->List y7} {Q:List W6} {w:f8} (h:Inv said B S Q w) {s:y7} (hs:s∈w.2.2.2.1) (h1:(w9 s).2.1=0) (h2:(w9 s).1.2.2.2.1=w.1.1) (h3:l4 w (w9 s).1.2.2.1=true) {c:Nat} (hc:Sz c w) (dP:c<=1000000000000):xm w (w9 s).1:=by
  obtain ⟨p,hp,bZ,hv,-⟩:=yI.1 h3;obtain ⟨⟨m,hM⟩,-⟩:=h.mem p bZ hv;have hm:=(h.msg s hs h1).2 h2;refine ⟨h.J4,by omega,PX h1,?_,Nat.le_trans hc.ord dP,λ hk t ht=>?_⟩
  . rw [hp]; exact Nat.le_trans (hc.log p) dP
  . have cK:C5 w (w9 s).1.2.2.1=w.2.1.getD p g9:=by rw [hp]; rfl
    unfold N0 at ht;rw [cK] at ht;have dz:∃ i:Nat,(Q0 Q)[i]?=some t:=by
      by_cases he:(E2 (w.2.1.getD p g9).2.2.2.1 ((w9 s).1.2.2.2.2.1,(w9 s).1.2.2.2.2.2.2.1,())).2.2.1=0
      . obtain ⟨a1,-⟩:=zv he;rcases (a1 t ht).1 with e|⟨q,hq,e⟩
        . refine ⟨(w9 s).1.2.2.2.2.1.toNat,?_⟩;rw [e,<- h.ord];exact hm.2 hk
        . exact ⟨_,by rw [e]; exact hM.wait q hq⟩
      . rw [YF he] at ht; cases ht
    obtain ⟨i,hi⟩:=dz;rw [RE] at hi;cases hQ:Q[i]? with
    | none=>rw [hQ] at hi; cases hi
    | some y =>
      rw [hQ] at hi;have e:G3 y.1 (C8 y.1 (Q.take i)).length y.2=t:=by simpa using hi
      have hy:=h.le5 y (List.mem_of_getElem? hQ);have h5:=((yA (p:=y.1) (Q:=Q) (i:=i)).trans (h.yW y.1)).length_le;have h6:=h.short y.1;exact ⟨y.1,_,y.2,hy,by omega,e.symm⟩
theorem Ok.yc {c:Nat} {said:Nat->List y7} {w:f8} (h:Ok c said w) (hc:c<=1000000000000):Good w:=by
  obtain ⟨B,S,Q,hI⟩:=h.inv;exact ⟨⟨hI.J4,hI.Y1,λ s hs h1 h2 h3=>hI.note hs h1 h2 h3 h.sz hc⟩,hI.J4,λ i=>Nat.le_trans (h.sz.log i) (by omega),λ i=>Nat.le_trans (h.sz.late i) (by omega)⟩
def wg (said:Nat->List y7) (d:J0) (e:Int):Nat->List y7:=if d.1=1/\e=0 then vw said d.2.1.toNat (said d.2.1.toNat++[d.2.2.2.1]) else said
structure yV (c:Nat) (said:Nat->List y7) (w:f8) (d:J0) (w':f8) (e:Int):Prop where
  ok:Ok (c+16) (wg said d e) w'
  len:w'.2.1.length=w.2.1.length
  log:∀ i:Nat,(w.2.1.getD i g9).2.1 <+: (w'.2.1.getD i g9).2.1
  fal:∀ i:Nat,i<w.2.1.length->(w'.2.1.getD i g9).1=((w.2.1.getD i g9).1 || decide (d.1=4/\e=0/\d.2.1=i))
  mem:∀ i:Nat,i<w.2.1.length->W5 w'.1.2.1 i=true->W5 w.1.2.1 i=true
theorem yV.Dq {c:Nat} {said:Nat->List y7} {w w':f8} {d:J0} {e:Int} (h:Ok c said w) (hm:K7 16 w w') (hi:∃ B S Q,Inv (wg said d e) B S Q w') (hf:d.1≠4):yV c said w d w' e :=
  ⟨⟨by rw [hm.view]; exact h.mem,hm.sz c h.sz,hi⟩,hm.len,hm.log,λ i _=>by rw [hm.fal i,show decide (d.1=4/\e=0/\d.2.1=i)=false from decide_eq_false (λ c=>hf c.1),Bool.or_false],λ i _ h=>by rw [hm.view] at h; exact h⟩
theorem Le {w:f8} {p:Int} (h:¬ K8 w p≠0):l4 w p=true:=by
  unfold K8 at h;split at h
  . rename_i h1; exact absurd h1 h
  . split at h
    . rename_i h2; exact h2
    . exact absurd (by decide) h
theorem Cv {w:f8} {p:Int}:¬ known w p≠0↔0<=p/\p<(w.2.1.length:Int):=by
  unfold known
  split
  . rename_i h;have:=M8.1 h;constructor
    . intro _; omega
    . intro _ h2; exact h2 rfl
  . rename_i h;constructor
    . intro h2; exact absurd (by decide) h2
    . intro h2; exact absurd (M8.2 ⟨h2.1,by omega⟩) h
theorem BU {c:Nat} {said:Nat->List y7} {w:f8} (h:Ok c said w) (d:J0):yV c said w d (S8 w d).1 (S8 w d).2:=by
  obtain ⟨B,S,Q,hI⟩:=h.inv;have stay:∀ e:Int,(d.1=1->e≠0)->(d.1=4->e≠0)->yV c said w d w e:=λ e he hf =>
    ⟨⟨h.mem,h.sz.mono (by omega),B,S,Q,by rw [wg,if_neg (λ c=>he c.1 c.2)]; exact hI⟩,rfl,λ _=>List.prefix_rfl,λ i _=>by rw [show decide (d.1=4/\e=0/\d.2.1=i)=false from decide_eq_false (λ c=>hf c.1 c.2.1),Bool.or_false],λ _ _ h=>h⟩
  unfold S8;by_cases c1:d.1=1
  . rw [if_pos c1];have je:=(Kp w d.2.1 d.2.2.2.1).more (Nat.zero_le 16);have hf:d.1=4->False:=λ e=>by omega
    rw [J9] at je ⊢;by_cases a:K8 w d.2.1≠0
    . rw [if_pos a]; exact stay _ (λ _=>a) (λ e=>(hf e).elim)
    rw [if_neg a] at je ⊢;by_cases b:(150:Int)<d.2.2.2.1.length
    . rw [if_pos b]; exact stay 2 (λ _=>by decide) (λ e=>(hf e).elim)
    rw [if_neg b] at je ⊢;by_cases b2:(w.2.2.2.1.length:Int)=60
    . rw [if_pos b2]; exact stay 8 (λ _=>by decide) (λ e=>(hf e).elim)
    rw [if_neg b2] at je ⊢;by_cases b3:(K3 (I7 w d.2.1) d.2.2.2.1).2.1≠0
    . rw [if_pos b3]; exact stay _ (λ _=>b3) (λ e=>(hf e).elim)
    rw [if_neg b3] at je ⊢;obtain ⟨p,hp,bZ,hv,-⟩:=yI.1 (Le a);refine yV.Dq h je ?_ (λ e=>hf e);rw [wg,if_pos ⟨c1,rfl⟩,hp];rw [hp] at b3;exact ⟨_,_,_,hI.say bZ hv b3⟩
  rw [if_neg c1];by_cases c2:d.1=2
  . rw [if_pos c2];have je:=(Tc w d.2.1).more (Nat.zero_le 16);rw [W9] at je ⊢;by_cases a:K8 w d.2.1≠0
    . rw [if_pos a]; exact stay _ (λ e=>absurd e c1) (λ e=>by omega)
    rw [if_neg a] at je ⊢;obtain ⟨p,hp,bZ,hv,-⟩:=yI.1 (Le a);refine yV.Dq h je ?_ (by omega);rw [wg,if_neg (λ c=>c1 c.1),hp];exact ⟨_,_,_,hI.again bZ hv⟩
  rw [if_neg c2];by_cases c3:d.1=3
  . rw [if_pos c3];refine yV.Dq h (CI _ _ _) ?_ (by omega);rw [wg,if_neg (λ c=>c1 c.1)];obtain ⟨Q',h'⟩:=hI.move d.2.1 d.2.2.1;exact ⟨_,_,_,h'⟩
  rw [if_neg c3];by_cases c4:d.1=4
  . rw [if_pos c4];unfold vQ;by_cases a:known w d.2.1≠0
    . rw [if_pos a]; exact stay _ (λ e=>absurd e c1) (λ _=>a)
    rw [if_neg a];have hk:=Cv.1 a;obtain ⟨p,hp⟩:∃ p:Nat,d.2.1=p:=⟨d.2.1.toNat,by omega⟩;rw [hp] at hk ⊢;have bZ:p<w.2.1.length:=by omega
    have hg:∀ i,(w.2.1.set p (true,(w.2.1.getD p g9).2)).getD i g9=if p=i then (true,(w.2.1.getD p g9).2) else w.2.1.getD i g9:=λ i=>by
      rw [L9];by_cases e:p=i
      . rw [if_pos ⟨e,bZ⟩,if_pos e]
      . rw [if_neg (λ h=>e h.1),if_neg e]
    have gK:∀ i,((w.2.1.set p (true,(w.2.1.getD p g9).2)).getD i g9).2=(w.2.1.getD i g9).2:=λ i=>by
      rw [hg]; split
      . rename_i e; rw [e]
      . rfl
    refine ⟨⟨h.mem,⟨λ i=>?_,Nat.le_trans h.sz.ord (Nat.le_add_right _ _),λ i=>?_,λ i=>?_⟩,B,S,Q,?_⟩,List.length_set ..,λ i=>?_,λ i hi=>?_,λ _ _ h=>h⟩
    . show ((w.2.1.set p (true,(w.2.1.getD p g9).2)).getD i g9).2.1.length<=_;rw [gK]; exact Nat.le_trans (h.sz.log i) (Nat.le_add_right _ _)
    . show ∀ s∈((w.2.1.set p (true,(w.2.1.getD p g9).2)).getD i g9).2.1,_;rw [gK]; exact h.sz.txt i
    . show ((w.2.1.set p (true,(w.2.1.getD p g9).2)).getD i g9).2.2.1.2.1.length<=_;rw [gK]; exact h.sz.late i
    . rw [wg,if_neg (λ c=>c1 c.1)]; exact hI.UR p
    . show _ <+: ((w.2.1.set p (true,(w.2.1.getD p g9).2)).getD i g9).2.1;rw [gK]; exact List.prefix_rfl
    . show ((w.2.1.set p (true,(w.2.1.getD p g9).2)).getD i g9).1=_;rw [hg];by_cases e:p=i
      . rw [if_pos e,decide_eq_true ⟨c4,rfl,by rw [hp,e]⟩,Bool.or_true]
      . rw [if_neg e,decide_eq_false (λ c=>e (by have:=c.2.2; omega)),Bool.or_false]
  rw [if_neg c4];by_cases c5:d.1=5
  . rw [if_pos c5];by_cases a:(S4 w).2.1≠0
    . rw [KR a]; exact stay _ (λ e=>absurd e c1) (λ e=>absurd e c4)
    rw [KV a];obtain ⟨B',S',ue,h1,h2⟩:=hI.change h.mem a;obtain ⟨fg,lR,mw⟩:=members hI.J4 h.mem a;have hlen:(G4 w).2.1.length=w.2.1.length:=List.length_mapIdx ..;have cv:∀ i:Nat,i<w.2.1.length->(G4 w).2.1.getD i g9=vf w (J5 w w.2.1.length) i (w.2.1.getD i g9):=λ i hi=>SX hi;have eO:∀ i:Nat,¬ i<w.2.1.length->(G4 w).2.1.getD i g9=g9:=λ i hi=>by
      rw [List.getD_eq_getElem?_getD,List.getElem?_eq_none (by rw [hlen]; omega)]; rfl
    have oN:(J5 w w.2.1.length).length<=c/\∀ s∈J5 w w.2.1.length,s.2.1.length<=200:=by
      rcases Kh (w:=w) (k:=w.2.1.length) with e|⟨i,-,-,e⟩
      . rw [e]; exact ⟨Nat.zero_le _,λ s hs=>by cases hs⟩
      . rw [e]; exact ⟨h.sz.log i,h.sz.txt i⟩
    have fm:∀ i x,(vf w (J5 w w.2.1.length) i x).2.1=J5 w w.2.1.length\/(vf w (J5 w w.2.1.length) i x).2.1=x.2.1:=λ i x=>by
      unfold vf; split
      . exact .inl rfl
      . exact .inr rfl
    have cM:∀ i x,(vf w (J5 w w.2.1.length) i x).2.2.1.2.1.length<=x.2.2.1.2.1.length:=λ i x=>by
      unfold vf; split
      . exact List.length_drop ..▸Nat.sub_le _ _
      . exact Nat.le_refl _
    refine ⟨⟨lR,⟨λ i=>?_,Nat.zero_le _,λ i=>?_,λ i=>?_⟩,B',S',[],?_⟩,hlen,λ i=>?_,λ i hi=>?_,λ i hi hm=>?_⟩
    . by_cases hi:i<w.2.1.length
      . rw [cv i hi];have:=h.sz.log i;rcases fm i (w.2.1.getD i g9) with e|e
        . rw [e]; omega
        . rw [e]; omega
      . rw [eO i hi]; exact Nat.zero_le _
    . by_cases hi:i<w.2.1.length
      . rw [cv i hi];rcases fm i (w.2.1.getD i g9) with e|e
        . rw [e]; exact oN.2
        . rw [e]; exact h.sz.txt i
      . rw [eO i hi]; exact λ s hs=>by cases hs
    . by_cases hi:i<w.2.1.length
      . rw [cv i hi]; exact Nat.le_trans (cM _ _) (h.sz.late i)
      . rw [eO i hi]; exact Nat.zero_le _
    . rw [wg,if_neg (λ c=>c1 c.1)]; exact ue
    . by_cases hi:i<w.2.1.length
      . exact h2 i hi
      . have e:w.2.1.getD i g9=g9:=by rw [List.getD_eq_getElem?_getD,List.getElem?_eq_none (by omega)]; rfl
        rw [e]; exact List.nil_prefix
    . rw [cv i hi,MP,decide_eq_false (λ c=>c4 c.1),Bool.or_false]
    . rw [mw i hi] at hm; exact (X4.1 hm).2.1
  . rw [if_neg c5]; exact stay _ (λ e=>absurd e c1) (λ e=>absurd e c4)
attribute [local irreducible] Go.Ex.exec
def J4 (n:Int):Int:=rest n 6+1
theorem MV (n:Int):1<=J4 n/\J4 n<=6:=by have:=OD (a:=n) (n:=6) (by omega); unfold J4; omega
def FN:r9:={ ps:=[.v f7],rs:=[f7],pre:=λ _=>True,fn:=λ x=>(J4 x.1,()),out:=λ _=>() }
noncomputable def FQ:Env:={ P:=Tryz.prog,tt:=tt,E4:=[(39,GK)],res:=[Go.ResultVar.tmp 2],rs:=[Ty.int IntKind.i64],ps:=[PK.v f7],D5:=[],nt:=6 }
theorem On:C0 FQ:=C7 s9 ⟨b8h,trivial⟩
theorem NN:D7 FQ Tryz.f13:=⟨rfl,rfl⟩
theorem UQ (x0:Int):exec FQ 1000 [.code (d9 Tryz.prog 13)] (y8 FN.ps ((x0,()))) =
  .f9 ((6:Int)<=(1000000000:Int)) (.f9 (u7 IntKind.i64 (rest x0 (6:Int)+(1:Int))) (.ret ((rest x0 (6:Int)+(1:Int),())))):=by kernel_rfl
theorem ZU:FN.Valid Tryz.prog 13:=by
  refine r9.r7 On rfl rfl Tryz.func13 (c:=d9 Tryz.prog 13) rfl rfl NN rfl ?_;rintro ⟨(n:Int),⟨⟩⟩ - -
  refine j8 (n:=1000) On NN ?_;refine i8 (UQ n) ?_;have:=MV n;have:=OD (a:=n) (n:=6) (by omega);simp only [j7,Tree.holds,sL];exact ⟨by decide,λ _=>⟨by omega,λ _=>rfl⟩⟩
def W4 (n:Int):f8:=((0,yj n,()),List.replicate n.toNat g9,[],[],())
def DM:r9:={ ps:=[.v f7],rs:=[.box true none r8,f7],pre:=λ x=>LE.le (α:=Int) 1 x.1/\LE.le (α:=Int) x.1 6,fn:=λ x=>(some (W4 x.1),0,()),out:=λ _=>() }
theorem YI {n:Int} (h:1<=n/\n<=6):Di n=(some (W4 n),0,()):=if_pos (M8.2 h)
theorem Tp:DM.Valid Tryz.prog 14:=by
  refine ⟨Su.ent,λ w S vs x L hS ec bg hK iu fM eh=>?_,λ h=>by cases h⟩;obtain ⟨(n:Int),⟨⟩⟩:=x;have:=Su.run w S vs (n,()) L hS ec trivial hK iu fM eh;rw [show FO.fn (n,())=DM.fn (n,()) from YI bg] at this;exact this
def Gv:r9:={ ps:=[.rw r8,.v yb],rs:=[f7],pre:=λ x=>Good x.1,fn:=λ x=>((S8 x.1 x.2.1).2,()),out:=λ x=>((S8 x.1 x.2.1).1,()) }
noncomputable def Hx:Env:={ P:=Tryz.prog,tt:=tt,E4:=[(15,Ds),(26,HP),(18,Bk),(37,Gx),(25,Pz)],res:=[Go.ResultVar.tmp 4],rs:=[Ty.int IntKind.i64],ps:=[PK.rw r8,PK.v yb],D5:=[],nt:=39 }
theorem QO:C0 Hx:=C7 s9 ⟨RV,b6G,KW,b8x,b2Z,trivial⟩
theorem Qy:D7 Hx Tryz.f51:=⟨rfl,rfl⟩
theorem Xp (aj:Int) (af:Int) (ab:List p7) (ae:List yY) (aa:List yY) (bJ:Int) (aS:Int) (aP:Int) (bd:yY):exec Hx 1000 [.code (d9 Tryz.prog 51)] (y8 Gv.ps ((((aj,af,()),ab,ae,aa,()),(bJ,aS,aP,bd,()),()))) =
  cond (decide (bJ=(1:Int))) (.f9 (List.length ab<=6) (.ret ((Prod.snd (J9 ((aj,af,()),ab,ae,aa,()) aS bd),Prod.fst (J9 ((aj,af,()),ab,ae,aa,()) aS bd),())))) (cond (decide (bJ=(2:Int))) (.f9 (List.length ab<=6) (.ret ((Prod.snd (W9 ((aj,af,()),ab,ae,aa,()) aS),Prod.fst (W9 ((aj,af,()),ab,ae,aa,()) aS),())))) (cond (decide (bJ=(3:Int))) (.f9 (yy ((aj,af,()),ab,ae,aa,())) (.ret ((Prod.snd (o8 ((aj,af,()),ab,ae,aa,()) aS aP),Prod.fst (o8 ((aj,af,()),ab,ae,aa,()) aS aP),())))) (cond (decide (bJ=(4:Int))) (.f9 (List.length ab<=6) (.ret ((Prod.snd (vQ ((aj,af,()),ab,ae,aa,()) aS),Prod.fst (vQ ((aj,af,()),ab,ae,aa,()) aS),())))) (cond (decide (bJ=(5:Int))) (.f9 (zq ((aj,af,()),ab,ae,aa,())) (.ret ((Prod.snd (T9 ((aj,af,()),ab,ae,aa,())),Prod.fst (T9 ((aj,af,()),ab,ae,aa,())),())))) (.ret (((1:Int),((aj,af,()),ab,ae,aa,()),()))))))):=by kernel_rfl
attribute [local irreducible] S8 J9 W9 o8 vQ T9 in
theorem b8A:Gv.Valid Tryz.prog 51:=by
  refine r9.r7 QO rfl rfl Tryz.func51 (c:=d9 Tryz.prog 51) rfl rfl Qy rfl ?_;rintro ⟨⟨⟨(v0:Int),(v1:Int),⟨⟩⟩,(al:List p7),(od:List yY),(wy:List yY),⟨⟩⟩,⟨(k:Int),(who:Int),(bA:Int),(t:yY),⟨⟩⟩,⟨⟩⟩ (hg:Good ((v0,v1,()),al,od,wy,())) -
  refine j8 (n:=1000) QO Qy ?_;refine i8 (Xp v0 v1 al od wy k who bA t) ?_;simp only [j7,Tree.holds,sL];have key:∀ r:f8×Int,S8 ((v0,v1,()),al,od,wy,()) (k,who,bA,t,())=r->(((r.2,r.1,()):Int×f8×Unit)=((S8 ((v0,v1,()),al,od,wy,()) (k,who,bA,t,())).2,(S8 ((v0,v1,()),al,od,wy,()) (k,who,bA,t,())).1,())):=by rintro r rfl; rfl
  have e0:=S8.eq_1 ((v0,v1,()),al,od,wy,()) (k,who,bA,t,());refine ⟨λ c=>⟨hg.move.J4,λ _=>key _ (e0.trans (if_pos c))⟩,λ c1=>⟨λ c=>⟨hg.move.J4,λ _=>key _ (e0.trans ((if_neg c1).trans (if_pos c)))⟩,λ c2=>⟨λ c=>⟨hg.move,λ _=>key _ (e0.trans ((if_neg c1).trans ((if_neg c2).trans (if_pos c))))⟩,λ c3=>⟨λ c=>⟨hg.move.J4,λ _=>key _ (e0.trans ((if_neg c1).trans ((if_neg c2).trans ((if_neg c3).trans (if_pos c)))))⟩,
    λ c4=>⟨λ c=>⟨hg.change,λ _=>key _ (e0.trans ((if_neg c1).trans ((if_neg c2).trans ((if_neg c3).trans ((if_neg c4).trans (if_pos c))))))⟩,λ c5=>key (_,_) (e0.trans ((if_neg c1).trans ((if_neg c2).trans ((if_neg c3).trans ((if_neg c4).trans (if_neg c5))))))⟩⟩⟩⟩⟩
end Go.Proofs.YtijlnmgondibnaaGreatDoor
namespace Go.Proofs.YtijlnmgondibnaaGreatDoor
open Go.Ex
set_option maxRecDepth 100000
theorem JF {n i:Nat}:(List.replicate n g9).getD i g9=g9:=by
  rw [List.getD_eq_getElem?_getD,List.getElem?_replicate]
  split<;>rfl
theorem MH {n:Int} (h:1<=n/\n<=6):Ok 0 (λ _=>[]) (W4 n):=by
  have hr:∀ i,(W4 n).2.1.getD i g9=g9:=λ i=>JF;have hl:(W4 n).2.1.length=n.toNat:=List.length_replicate ..;refine ⟨U6 (k:=.u8) _,⟨λ i=>?_,Nat.zero_le _,λ i=>?_,λ i=>?_⟩,[],λ _=>[],[],?_⟩
  . rw [hr]; exact Nat.zero_le _
  . rw [hr]; exact λ s hs=>by cases hs
  . rw [hr]; exact Nat.zero_le _
  . refine ⟨by rw [hl]; omega,Nat.zero_le _,rfl,λ x hx=>(by cases hx),λ p=>List.nil_prefix,λ p=>Nat.zero_le _,λ s hs=>(by cases hs),λ p hp=>?_,λ p hp hv=>?_,λ p hp hv=>⟨rfl,List.prefix_rfl⟩,λ s hs=>(by cases hs)⟩
    . rw [hr]; exact ⟨rfl,λ q hq=>by cases hq⟩
    . rw [hr];exact ⟨⟨0,Nat.le_refl _,rfl,λ q hq=>(by cases hq),rfl,rfl,rfl⟩,rfl⟩
theorem Yv {n:Int} (h:1<=n/\n<=6):∀ p:Nat,p<n.toNat->W5 (W4 n).1.2.1 p=true:=by
  have key:∀ k:Fin 7,1<=k.val->∀ p:Fin 7,p.val<k.val->W5 (yj ((k.val:Nat):Int)) p.val=true:=by decide +kernel
  intro p hp;have:=key ⟨n.toNat,by omega⟩ (by show 1<=n.toNat; omega) ⟨p,by omega⟩ hp;simpa [W4,show ((n.toNat:Nat):Int)=n by omega] using this
def DO:J0:=(0,0,0,[],())
def Hg (k bA:Int):J0:=(3,k,bA,[],())
theorem Yo (w:f8) (k bA:Int):S8 w (Hg k bA)=o8 w k bA:=by
  unfold S8 Hg;rw [if_neg (show ¬ (3:Int)=1 by decide),if_neg (show ¬ (3:Int)=2 by decide),if_pos rfl]
theorem Ok.zV {c:Nat} {said:Nat->List y7} {w:f8} (h:Ok c said w) (k bA:Int):Ok (c+16) said (o8 w k bA).1:=by
  have:=(BU h (Hg k bA)).ok;rw [Yo] at this;exact this
def AY (p:Int) (t:y7):J0:=(1,p,0,t,())
theorem Nl (w:f8) (p:Int) (t:y7):S8 w (AY p t)=J9 w p t:=by
  unfold S8 AY;exact if_pos rfl
theorem Ok.c87 {c:Nat} {said:Nat->List y7} {w:f8} (h:Ok c said w) (p:Int) (t:y7):∃ said',Ok (c+16) said' (J9 w p t).1:=by
  have:=(BU h (AY p t)).ok;rw [Nl] at this;exact ⟨_,this⟩
attribute [local irreducible] Go.Ex.exec
abbrev Dn:yY:=[115,101,116,32]
abbrev spT:yY:=[32]
def DX (i:Nat) (d:J0):J0:=if d.1=1 then (d.1,d.2.1,d.2.2.1,Dn++E0 (Int.tmod i 10)++spT++E0 i,()) else d
abbrev vZ:=f8×List (List y7)×List Int
def yE (n:Int) (s:vZ) (d:J0):vZ :=
  if (S8 s.1 d).2≠0\/d.2.1<0\/n<=d.2.1 then ((S8 s.1 d).1,s.2) else
  ((S8 s.1 d).1,if d.1=1 then s.2.1.set d.2.1.toNat (s.2.1.getD d.2.1.toNat []++[d.2.2.2.1]) else s.2.1,if d.1=4 then s.2.2++[d.2.1] else s.2.2)
def I8 (n:Int) (l:List J0):Nat->vZ
  | 0=>(W4 n,List.replicate n.toNat [],[])
  | i+1=>yE n (I8 n l i) (DX i (l.getD i DO))
def ID:r9:={ ps:=[.v f7,.v (.d8 false yb)],rs:=[.box true none r8,.d8 true (.d8 true .str),.d8 true f7,.bool],pre:=λ x=>(LE.le (α:=Int) 1 x.1/\LE.le (α:=Int) x.1 6)/\List.length (α:=J0) x.2.1<=1048576,fn:=λ x=>(some (I8 x.1 x.2.1 (List.length (α:=J0) x.2.1)).1,(I8 x.1 x.2.1 (List.length (α:=J0) x.2.1)).2.1,(I8 x.1 x.2.1 (List.length (α:=J0) x.2.1)).2.2,true,()),out:=λ _=>() }
noncomputable def Ci:Env:={ P:=Tryz.prog,tt:=tt,E4:=[(14,DM),(50,HB),(51,Gv)],res:=[Go.ResultVar.tmp 4,Go.ResultVar.tmp 5,Go.ResultVar.tmp 6,Go.ResultVar.tmp 7],rs:=[Ty.box true none r8,Ty.d8 true (Ty.d8 true Ty.str),Ty.d8 true f7,Ty.bool],ps:=[PK.v f7,PK.v (Ty.d8 false yb)],D5:=[(7,[(0,none),(8,none),(10,some (Ty.d8 true (Ty.d8 true Ty.str))),(11,some Is),(28,none),(29,none),(30,none)])],nt:=91 }
theorem Ln:C0 Ci:=C7 s9 ⟨Tp,Tw,b8A,trivial⟩
theorem Ls:D7 Ci Tryz.f23:=⟨rfl,rfl⟩
theorem Zo (x0:Int) (x1:List (Int×Int×Int×yY×Unit)):exec Ci 1000 [.code (d9 Tryz.prog 23)] (y8 ID.ps ((x0,x1,()))) =
  .f9 ((1:Int)<=x0/\x0<=(6:Int)) (.f9 ((0:Int)<=x0/\x0<=x0/\x0<=(140737488355328:Int)/\x0*(↑(Ty.wb (Ty.d8 true Ty.str)):Int)<=(140737488355328:Int)) (.ctL (g8 (d9 Tryz.prog 23) 7) (St.mk [(0,AV.val f7 x0),(8,AV.ptr 1017 []),(10,AV.at_ 1000010 []),(11,AV.at_ 1000011 []),(28,AV.val (Ty.d8 false yb) x1),(29,AV.val f7 (↑(List.length x1):Int)),(30,AV.val f7 (0:Int))] [(1017,i7.var r8 (((0:Int),yj x0,()),List.replicate (Int.toNat x0) g9,[],[],())),(1000010,i7.own (Ty.d8 true (Ty.d8 true Ty.str)) (List.replicate (Int.toNat x0) [])),(1000011,i7.own Is [])]))):=by kernel_rfl
def Lp (v0:Int) (v28:List (Int×Int×Int×yY×Unit)) (wB:Int) (v30:Int) (dG:Int) (cP:Int) (dF:List p7) (cO:List yY) (cg:List yY) (cq:List (List yY)) (bt:List Int):St:=St.mk [(0,AV.val f7 v0),(8,AV.ptr 1017 []),(10,AV.at_ 1000010 []),(11,AV.at_ 1000011 []),(28,AV.val (Ty.d8 false yb) v28),(29,AV.val f7 wB),(30,AV.val f7 v30)] [(1017,i7.var r8 ((dG,cP,()),dF,cO,cg,())),(1000010,i7.own (Ty.d8 true (Ty.d8 true Ty.str)) cq),(1000011,i7.own Is bt)]
theorem b8L (v0:Int) (v28:List (Int×Int×Int×yY×Unit)) (wB:Int) (v30:Int) (dG:Int) (cP:Int) (dF:List p7) (cO:List yY) (cg:List yY) (cq:List (List yY)) (bt:List Int):exec Ci 1000 (.code (g8 (d9 Tryz.prog 23) 7).1::.inLoop (g8 (d9 Tryz.prog 23) 7).1::(g8 (d9 Tryz.prog 23) 7).2) (Lp v0 v28 wB v30 dG cP dF cO cg cq bt) =
  let q2:=(List.getD v28 (Int.toNat v30) ((0:Int),(0:Int),(0:Int),[],())); let q4:=(ByteArray.data (ByteArray.mk #[115,101,116,32])); let q6:=(30,AV.val f7 (v30+(1:Int))); let q7:=(1000010,i7.own (Ty.d8 true (Ty.d8 true Ty.str)) cq); let q8:=(List.set [(0:Int)] (Int.toNat (↑0:Int)) (Prod.fst (Prod.snd q2))); let q9:=(29,AV.val f7 wB); let zG:=((dG,cP,()),dF,cO,cg,()); let vF:=(u7 IntKind.i64 (v30+(1:Int))); let vE:=(0,AV.val f7 v0); let xU:=(Int.toNat (Prod.fst (Prod.snd q2))); let Da:=(1000011,i7.own Is (bt++List.set [(0:Int)] (Int.toNat (↑0:Int)) (Prod.fst (Prod.snd q2)))); let CZ:=w4; let q3:=(28,AV.val (Ty.d8 false (Ty.pair f7 (Ty.pair f7 CZ))) v28); let q5:=(Ty.pair View (Ty.pair (Ty.d8 true (Ty.pair Ty.bool (Ty.pair (Ty.d8 true CZ) (Ty.pair R4 (Ty.pair (Ty.pair f7 (Ty.pair (Ty.d8 false CZ) Ty.unit)) (Ty.pair (Ty.pair f7 (Ty.pair (Ty.d8 false CZ) Ty.unit)) Ty.unit)))))) (Ty.pair (Ty.d8 true Ty.str) (Ty.pair (Ty.d8 true Ty.str) Ty.unit)))); let q1:=(1017,i7.var q5 (Prod.fst (S8 zG q2))); let CY:=(ByteArray.data (ByteArray.mk #[32])); let FI:=(Array.toList q4++E0 (Int.tmod v30 (10:Int))++Array.toList CY++E0 v30); let LN:=(1000010,i7.own (Ty.d8 true (Ty.d8 true Ty.str)) (List.set cq xU (List.getD cq xU []++List.set [[]] (Int.toNat (↑0:Int)) FI))); let CX:=(List.length bt+List.length q8); let CW:=(Prod.snd (Prod.snd (Prod.snd q2))); let LP:=(S8 zG (Prod.fst q2,Prod.fst (Prod.snd q2),Prod.fst (Prod.snd (Prod.snd q2)),Array.toList q4++E0 (Int.tmod v30 (10:Int))++Array.toList CY++E0 v30,Prod.snd CW)); let q0:=(1017,i7.var q5 (Prod.fst LP)); let LO:=(1000010,i7.own (Ty.d8 true (Ty.d8 true Ty.str)) (List.set cq xU (List.getD cq xU []++List.set [[]] (Int.toNat (↑0:Int)) (Prod.fst CW)))); cond (decide (v30<wB)) (.f9 ((0:Int)<=v30/\v30<(↑(List.length v28):Int)) (cond (decide (Prod.fst q2=(1:Int))) (.f9 ((0:Int)<(10:Int)) (.f9 (True) (.f9 (List.length (Array.toList q4)+List.length (E0 (Int.tmod v30 (10:Int)))<=Go.maxLen) (.f9 (List.length (Array.toList q4++E0 (Int.tmod v30 (10:Int)))+List.length (Array.toList CY)<=Go.maxLen) (.f9 (True) (.f9 (List.length (Array.toList q4++E0 (Int.tmod v30 (10:Int))++Array.toList CY)+List.length (E0 v30)<=Go.maxLen) (.f9 (Good zG) (cond (decide (Prod.snd LP≠(0:Int))) (.f9 vF (.ctL (g8 (d9 Tryz.prog 23) 7) (St.mk [vE,(8,AV.ptr 1017 []),(10,AV.at_ 1000010 []),(11,AV.at_ 1000011 []),q3,q9,q6] [q0,q7,(1000011,i7.own Is bt)]))) (cond (decide (Prod.fst (Prod.snd q2)<(0:Int))) (.f9 vF (.ctL (g8 (d9 Tryz.prog 23) 7) (St.mk [vE,(8,AV.ptr 1017 []),(10,AV.at_ 1000010 []),(11,AV.at_ 1000011 []),q3,q9,q6] [q0,q7,(1000011,i7.own Is bt)]))) (cond (decide (v0<=Prod.fst (Prod.snd q2))) (.f9 vF (.ctL (g8 (d9 Tryz.prog 23) 7) (St.mk [vE,(8,AV.ptr 1017 []),(10,AV.at_ 1000010 []),(11,AV.at_ 1000011 []),q3,q9,q6] [q0,q7,(1000011,i7.own Is bt)]))) (cond (decide (Prod.fst q2=(1:Int))) (.f9 ((0:Int)<=Prod.fst (Prod.snd q2)/\Prod.fst (Prod.snd q2)<(↑(List.length cq):Int)) (.f9 ((0:Int)<=Prod.fst (Prod.snd q2)/\Prod.fst (Prod.snd q2)<(↑(List.length cq):Int)) (.f9 ([]++[Step.idx (Prod.fst (Prod.snd q2))]=[]++[Step.idx (Prod.fst (Prod.snd q2))]/\List.length (List.getD cq xU [])+List.length (List.set [[]] (Int.toNat (↑0:Int)) FI)<=140737488355328/\(List.length (List.getD cq xU [])+List.length (List.set [[]] (Int.toNat (↑0:Int)) FI))*Ty.wb Ty.str<=140737488355328) (cond (decide (Prod.fst q2=(4:Int))) (.f9 (List.length bt+List.length q8<=140737488355328/\CX*Ty.wb f7<=140737488355328) (.f9 vF (.ctL (g8 (d9 Tryz.prog 23) 7) (St.mk [vE,(8,AV.ptr 1017 []),(10,AV.at_ 1000010 []),(11,AV.at_ 1000011 []),q3,q9,q6] [q0,LN,Da])))) (.f9 vF (.ctL (g8 (d9 Tryz.prog 23) 7) (St.mk [vE,(8,AV.ptr 1017 []),(10,AV.at_ 1000010 []),(11,AV.at_ 1000011 []),q3,q9,q6] [q0,LN,(1000011,i7.own Is bt)]))))))) (cond (decide (Prod.fst q2=(4:Int))) (.f9 (List.length bt+List.length q8<=140737488355328/\CX*Ty.wb f7<=140737488355328) (.f9 vF (.ctL (g8 (d9 Tryz.prog 23) 7) (St.mk [vE,(8,AV.ptr 1017 []),(10,AV.at_ 1000010 []),(11,AV.at_ 1000011 []),q3,q9,q6] [q0,q7,Da])))) (.f9 vF (.ctL (g8 (d9 Tryz.prog 23) 7) (St.mk [vE,(8,AV.ptr 1017 []),(10,AV.at_ 1000010 []),(11,AV.at_ 1000011 []),q3,q9,q6] [q0,q7,(1000011,i7.own Is bt)]))))))))))))))) (.f9 (Good zG) (cond (decide (Prod.snd (S8 zG q2)≠(0:Int))) (.f9 vF (.ctL (g8 (d9 Tryz.prog 23) 7) (St.mk [vE,(8,AV.ptr 1017 []),(10,AV.at_ 1000010 []),(11,AV.at_ 1000011 []),q3,q9,q6] [q1,q7,(1000011,i7.own Is bt)]))) (cond (decide (Prod.fst (Prod.snd q2)<(0:Int))) (.f9 vF (.ctL (g8 (d9 Tryz.prog 23) 7) (St.mk [vE,(8,AV.ptr 1017 []),(10,AV.at_ 1000010 []),(11,AV.at_ 1000011 []),q3,q9,q6] [q1,q7,(1000011,i7.own Is bt)]))) (cond (decide (v0<=Prod.fst (Prod.snd q2))) (.f9 vF (.ctL (g8 (d9 Tryz.prog 23) 7) (St.mk [vE,(8,AV.ptr 1017 []),(10,AV.at_ 1000010 []),(11,AV.at_ 1000011 []),q3,q9,q6] [q1,q7,(1000011,i7.own Is bt)]))) (cond (decide (Prod.fst q2=(1:Int))) (.f9 ((0:Int)<=Prod.fst (Prod.snd q2)/\Prod.fst (Prod.snd q2)<(↑(List.length cq):Int)) (.f9 ((0:Int)<=Prod.fst (Prod.snd q2)/\Prod.fst (Prod.snd q2)<(↑(List.length cq):Int)) (.f9 ([]++[Step.idx (Prod.fst (Prod.snd q2))]=[]++[Step.idx (Prod.fst (Prod.snd q2))]/\List.length (List.getD cq xU [])+List.length (List.set [[]] (Int.toNat (↑0:Int)) (Prod.fst CW))<=140737488355328/\(List.length (List.getD cq xU [])+List.length (List.set [[]] (Int.toNat (↑0:Int)) (Prod.fst CW)))*Ty.wb Ty.str<=140737488355328) (cond (decide (Prod.fst q2=(4:Int))) (.f9 (List.length bt+List.length q8<=140737488355328/\CX*Ty.wb f7<=140737488355328) (.f9 vF (.ctL (g8 (d9 Tryz.prog 23) 7) (St.mk [vE,(8,AV.ptr 1017 []),(10,AV.at_ 1000010 []),(11,AV.at_ 1000011 []),q3,q9,q6] [q1,LO,Da])))) (.f9 vF (.ctL (g8 (d9 Tryz.prog 23) 7) (St.mk [vE,(8,AV.ptr 1017 []),(10,AV.at_ 1000010 []),(11,AV.at_ 1000011 []),q3,q9,q6] [q1,LO,(1000011,i7.own Is bt)]))))))) (cond (decide (Prod.fst q2=(4:Int))) (.f9 (List.length bt+List.length q8<=140737488355328/\CX*Ty.wb f7<=140737488355328) (.f9 vF (.ctL (g8 (d9 Tryz.prog 23) 7) (St.mk [vE,(8,AV.ptr 1017 []),(10,AV.at_ 1000010 []),(11,AV.at_ 1000011 []),q3,q9,q6] [q1,q7,Da])))) (.f9 vF (.ctL (g8 (d9 Tryz.prog 23) 7) (St.mk [vE,(8,AV.ptr 1017 []),(10,AV.at_ 1000010 []),(11,AV.at_ 1000011 []),q3,q9,q6] [q1,q7,(1000011,i7.own Is bt)]))))))))))) (.ret ((some zG,cq,bt,true,()))):=by kernel_rfl
def D6:Nat->f8->f8×Bool
  | 0,w=>(w,decide ((w.2.2.2.1.length:Int)=0))
  | k+1,w=>if (w.2.2.2.1.length:Int)=0 then (w,true) else if (o8 w 0 1).2≠0 then ((o8 w 0 1).1,false) else D6 k (o8 w 0 1).1
theorem zD {k:Nat} {w:f8} (h:(w.2.2.2.1.length:Int)=0):D6 k w=(w,true):=by
  cases k with
  | zero=>rw [D6,decide_eq_true h]
  | succ k=>rw [D6,if_pos h]
structure Fit (most:Int) (w:f8):Prop where
  nn:0<=most/\most<=1000000
  ok:∃ c said,Ok c said w/\c<=100000000000
def Jc:r9:={ ps:=[.rw r8,.v f7],rs:=[.bool],pre:=λ x=>Fit x.2.1 x.1,fn:=λ x=>((D6 (Int.toNat x.2.1) x.1).2,()),out:=λ x=>((D6 (Int.toNat x.2.1) x.1).1,()) }
noncomputable def Co:Env:={ P:=Tryz.prog,tt:=tt,E4:=[(17,Dw),(18,Bk)],res:=[Go.ResultVar.tmp 4],rs:=[Ty.bool],ps:=[PK.rw r8,PK.v f7],D5:=[(2,[(0,none),(5,none),(6,none)])],nt:=18 }
theorem LG:C0 Co:=C7 s9 ⟨RZ,KW,trivial⟩
theorem LJ:D7 Co Tryz.f16:=⟨rfl,rfl⟩
theorem b8O (aj:Int) (af:Int) (ab:List p7) (ae:List yY) (aa:List yY) (x1:Int):exec Co 1000 [.code (d9 Tryz.prog 16)] (y8 Jc.ps ((((aj,af,()),ab,ae,aa,()),x1,()))) =
  .ctL (g8 (d9 Tryz.prog 16) 2) (St.mk [(0,AV.ptr 2000000 []),(5,AV.val f7 x1),(6,AV.val f7 (0:Int))] [(2000000,i7.var r8 ((aj,af,()),ab,ae,aa,()))]):=by kernel_rfl
def LH (v5:Int) (v6:Int) (au:Int) (an:Int) (ai:List p7) (ak:List yY) (ah:List yY):St:=St.mk [(0,AV.ptr 2000000 []),(5,AV.val f7 v5),(6,AV.val f7 v6)] [(2000000,i7.var r8 ((au,an,()),ai,ak,ah,()))]
theorem b7F (v5:Int) (v6:Int) (au:Int) (an:Int) (ai:List p7) (ak:List yY) (ah:List yY):exec Co 1000 (.code (g8 (d9 Tryz.prog 16) 2).1::.inLoop (g8 (d9 Tryz.prog 16) 2).1::(g8 (d9 Tryz.prog 16) 2).2) (LH v5 v6 au an ai ak ah) =
  cond (decide (v6<v5)) (.f9 (True) (cond (decide ((↑(List.length ah):Int)=(0:Int))) (.ret ((true,((au,an,()),ai,ak,ah,()),()))) (.f9 (yy ((au,an,()),ai,ak,ah,())) (cond (decide (Prod.snd (o8 ((au,an,()),ai,ak,ah,()) (0:Int) (1:Int))≠(0:Int))) (.ret ((false,Prod.fst (o8 ((au,an,()),ai,ak,ah,()) (0:Int) (1:Int)),()))) (.f9 (u7 IntKind.i64 (v6+(1:Int))) (.ctL (g8 (d9 Tryz.prog 16) 2) (St.mk [(0,AV.ptr 2000000 []),(5,AV.val f7 v5),(6,AV.val f7 (v6+(1:Int)))] [(2000000,i7.var r8 (Prod.fst (o8 ((au,an,()),ai,ak,ah,()) (0:Int) (1:Int))))]))))))) (.f9 (True) (.ret ((decide ((↑(List.length ah):Int)=(0:Int)),((au,an,()),ai,ak,ah,()),())))):=by kernel_rfl
attribute [local irreducible] o8 in
theorem b2X:Jc.Valid Tryz.prog 16:=by
  refine r9.r7 LG rfl rfl Tryz.func16 (c:=d9 Tryz.prog 16) rfl rfl LJ rfl ?_;rintro ⟨⟨⟨(v0:Int),(v1:Int),⟨⟩⟩,(al:List p7),(od:List yY),(wy:List yY),⟨⟩⟩,(most:Int),⟨⟩⟩ (hf:Fit most ((v0,v1,()),al,od,wy,())) -
  refine j8 (n:=1000) LG LJ ?_;refine i8 (b8O v0 v1 al od wy most) ?_;obtain ⟨c0,said,aK,eS⟩:=hf.ok;have hm:=hf.nn;obtain ⟨w0,og⟩:∃ w:f8,w=((v0,v1,()),al,od,wy,()):=⟨_,rfl⟩;rw [<- og] at aK;have key:∀ (w:f8) (i:Nat),D6 most.toNat w0=D6 (most.toNat - i) w->∀ r:f8×Bool,D6 (most.toNat - i) w=r->(((r.2,r.1,()):Bool×f8×Unit)=((D6 most.toNat w0).2,(D6 most.toNat w0).1,())):=by
    rintro w i e r rfl; rw [e]
  suffices go:Go.Ex.Reach Co Tryz.f16 ((D6 most.toNat w0).2,()) ((D6 most.toNat w0).1,()) (.code (g8 (d9 Tryz.prog 16) 2).1::.inLoop (g8 (d9 Tryz.prog 16) 2).1::(g8 (d9 Tryz.prog 16) 2).2) (LH most ((0:Nat):Int) w0.1.1 w0.1.2.1 w0.2.1 w0.2.2.1 w0.2.2.2.1) by
    subst og; exact go
  refine Reach.O8 LG LJ (λ i:Nat×f8=>LH most (i.1:Int) i.2.1.1 i.2.1.2.1 i.2.2.1 i.2.2.2.1 i.2.2.2.2.1) (λ i=>i.1<=most.toNat/\D6 most.toNat w0=D6 (most.toNat - i.1) i.2/\Ok (c0+16*i.1) said i.2)
    (λ i=>most.toNat - i.1) 1000 (λ _=>⟨y6 rfl,y6 rfl⟩) ?_ (0,w0) ⟨Nat.zero_le _,rfl,aK⟩
  rintro ⟨i,w⟩ ⟨k1,k2,k3⟩ - ih;have k1:i<=most.toNat:=k1;have k2:D6 most.toNat w0=D6 (most.toNat - i) w:=k2;have k3:Ok (c0+16*i) said w:=k3;have ih1:i<most.toNat->D6 most.toNat w0=D6 (most.toNat - (i+1)) (o8 w 0 1).1->_:=λ h e=>ih (i+1,(o8 w 0 1).1) ⟨by show i+1<=most.toNat; omega,e,by rw [show c0+16*(i+1)=c0+16*i+16 by omega]; exact k3.zV 0 1⟩ (by show most.toNat - (i+1)<most.toNat - i; omega);refine i8 (b7F ..) ?_;have e1:((i:Nat):Int)+1=((i+1:Nat):Int):=by omega
  obtain ⟨⟨u0,u1,⟨⟩⟩,ual,uod,uwy,⟨⟩⟩:=w;simp only [j7,Tree.holds,e1,sL];have e2:i<most.toNat->D6 (most.toNat - i) ((u0,u1,()),ual,uod,uwy,())=if (uwy.length:Int)=0 then (((u0,u1,()),ual,uod,uwy,()),true) else if (o8 ((u0,u1,()),ual,uod,uwy,()) 0 1).2≠0 then ((o8 ((u0,u1,()),ual,uod,uwy,()) 0 1).1,false) else D6 (most.toNat - (i+1)) (o8 ((u0,u1,()),ual,uod,uwy,()) 0 1).1:=λ h=>by
    rw [show most.toNat - i=(most.toNat - (i+1))+1 by omega,D6]
  refine ⟨λ c=>⟨λ d=>?_,λ d=>⟨(k3.yc (by omega)).move,λ _=>⟨λ e=>?_,λ e=>⟨G9.2 ⟨by omega,by omega⟩,λ _=>?_⟩⟩⟩⟩,λ c=>?_⟩
  . exact key _ i k2 (_,_) ((e2 (by omega)).trans (if_pos d))
  . exact key _ i k2 (_,_) ((e2 (by omega)).trans ((if_neg d).trans (if_pos e)))
  . exact ih1 (by omega) (k2.trans ((e2 (by omega)).trans ((if_neg d).trans (if_neg (by simpa using e)))))
  . obtain rfl:i=most.toNat:=by omega
    exact key _ _ k2 (_,_) (by rw [Nat.sub_self]; rfl)
def Hb (w:f8) (zP:List Int):Nat->List Int
  | 0=>[]
  | p+1=>if W5 w.1.2.1 p=true/\¬ (p:Int)∈zP then Hb w zP p++[(p:Int)] else Hb w zP p
theorem Rd {w:f8} {d:J0} (he:(S8 w d).2=0) (hd:d.1=1\/d.1=4):0<=d.2.1/\d.2.1<(w.2.1.length:Int):=by
  have hk:¬ known w d.2.1≠0:=by
    unfold S8 at he;rcases hd with hd|hd
    . rw [if_pos hd,J9] at he;by_cases a:K8 w d.2.1≠0
      . rw [if_pos a] at he; exact absurd he a
      . unfold K8 at a;split at a
        . rename_i h; exact absurd h a
        . rename_i h; exact h
    . rw [if_neg (by omega),if_neg (by omega),if_neg (by omega),if_pos hd,vQ] at he;split at he
      . rename_i h; exact absurd he h
      . rename_i h; exact h
  exact Cv.1 hk
def zg (s:vZ) (p:Nat):List y7:=s.2.1.getD p []
structure HL (n:Int) (i:Nat) (s:vZ):Prop where
  ok:Ok (16*i) (zg s) s.1
  len:s.1.2.1.length=n.toNat
  said:s.2.1.length=n.toNat
  J4:s.2.2.length<=i
  each:∀ p,(zg s p).length<=i
  zP:∀ p:Nat,p<n.toNat->(s.1.2.1.getD p g9).1=decide ((p:Int)∈s.2.2)
theorem ZF {n:Int} (hn:1<=n/\n<=6) {i:Nat} {s:vZ} (h:HL n i s) (d:J0):HL n (i+1) (yE n s d):=by
  have hd:=BU h.ok d;have oR:16*i+16=16*(i+1):=by omega
  have hlen:=h.len;rw [yE];by_cases c:(S8 s.1 d).2≠0\/d.2.1<0\/n<=d.2.1
  . rw [if_pos c];have h1:¬ (d.1=1/\(S8 s.1 d).2=0):=λ e=>by
      have:=Rd e.2 (.inl e.1);rcases c with c|c|c
      . exact c e.2
      . omega
      . omega
    have h4:¬ (d.1=4/\(S8 s.1 d).2=0):=λ e=>by
      have:=Rd e.2 (.inr e.1);rcases c with c|c|c
      . exact c e.2
      . omega
      . omega
    refine ⟨?_,hd.len.trans h.len,h.said,Nat.le_succ_of_le h.J4,λ p=>Nat.le_succ_of_le (h.each p),λ p hp=>?_⟩
    . have:=hd.ok;rw [wg,if_neg h1,oR] at this;exact this
    . rw [hd.fal p (by omega),h.zP p hp,decide_eq_false (λ e:d.1=4/\_/\_=>h4 ⟨e.1,e.2.1⟩),Bool.or_false]
  . rw [if_neg c];have he:(S8 s.1 d).2=0:=Decidable.not_not.1 (λ e=>c (.inl e));have hw:0<=d.2.1/\d.2.1<n:=⟨Int.not_lt.1 (λ e=>c (.inr (.inl e))),Int.not_le.1 (λ e=>c (.inr (.inr e)))⟩;obtain ⟨q,hq⟩:∃ q:Nat,d.2.1=q:=⟨d.2.1.toNat,by omega⟩;have sw:q<s.2.1.length:=by rw [h.said]; omega
    have eM:∀ x:List y7,zg (((S8 s.1 d).1,s.2.1.set q x,s.2.2):vZ)=vw (zg s) q x:=λ x=>by
      funext p
      show (s.2.1.set q x).getD p []=_;unfold vw;rw [List.getD_eq_getElem?_getD,List.getElem?_set];by_cases e:p=q
      . subst e; rw [if_pos rfl,if_pos rfl,if_pos sw]; rfl
      . rw [if_neg (Ne.symm e),if_neg e];show _=s.2.1.getD p [];rw [List.getD_eq_getElem?_getD]
    rw [hq];refine ⟨?_,hd.len.trans h.len,?_,?_,λ p=>?_,λ p hp=>?_⟩
    . have:=hd.ok;rw [oR] at this;by_cases e:d.1=1
      . rw [wg,if_pos ⟨e,he⟩,hq] at this;rw [if_pos e];have h2:=eM (s.2.1.getD q []++[d.2.2.2.1]);show Ok _ (zg (((S8 s.1 d).1,s.2.1.set q (s.2.1.getD q []++[d.2.2.2.1]),s.2.2):vZ)) _;rw [h2];exact this
      . rw [wg,if_neg (λ c=>e c.1)] at this;rw [if_neg e];exact this
    . show (if d.1=1 then _ else _:List (List y7)).length=_
      split
      . rw [List.length_set]; exact h.said
      . exact h.said
    . show (if d.1=4 then _ else _:List Int).length<=_;have:=h.J4
      split
      . rw [List.length_append]; simp only [List.length_singleton]; omega
      . omega
    . show ((if d.1=1 then s.2.1.set q (s.2.1.getD q []++[d.2.2.2.1]) else s.2.1).getD p []).length<=_;have h3:=h.each p;have h4:=h.each q
      split
      . have h2:=congrFun (eM (s.2.1.getD q []++[d.2.2.2.1])) p;have h2:(s.2.1.set q (s.2.1.getD q []++[d.2.2.2.1])).getD p []=vw (zg s) q (s.2.1.getD q []++[d.2.2.2.1]) p:=h2;rw [h2];unfold vw
        split
        . rw [List.length_append]; simp only [List.length_singleton];have h4:(s.2.1.getD q []).length<=i:=h4;omega
        . omega
      . have h3:(s.2.1.getD p []).length<=i:=h3;omega
    . show ((S8 s.1 d).1.2.1.getD p g9).1=decide ((p:Int)∈(if d.1=4 then s.2.2++[(q:Int)] else s.2.2));rw [hd.fal p (by omega),h.zP p hp];by_cases e:d.1=4
      . rw [if_pos e];by_cases e2:q=p
        . subst e2;rw [decide_eq_true (p:=d.1=4/\(S8 s.1 d).2=0/\d.2.1=(q:Int)) ⟨e,he,hq⟩,Bool.or_true,decide_eq_true (List.mem_append_right _ (List.mem_singleton.2 rfl))]
        . rw [decide_eq_false (λ c:d.1=4/\_/\_=>e2 (by have:=c.2.2; omega)),Bool.or_false];apply decide_eq_decide.2;rw [List.mem_append,List.mem_singleton];constructor
          . exact .inl
          . rintro (h|h)
            . exact h
            . exact absurd h (by omega)
      . rw [if_neg e,decide_eq_false (λ c:d.1=4/\_/\_=>e c.1),Bool.or_false]
theorem Iw {n:Int} (hn:1<=n/\n<=6) (l:List J0):∀ i,HL n i (I8 n l i)
  | 0=>by
    have hl:(W4 n).2.1.length=n.toNat:=List.length_replicate ..;have hs:zg (I8 n l 0)=λ _=>[]:=by
      funext p
      show (List.replicate n.toNat ([]:List y7)).getD p []=[];rw [List.getD_eq_getElem?_getD,List.getElem?_replicate]
      split<;>rfl
    refine ⟨by rw [hs]; exact MH hn,hl,List.length_replicate ..,Nat.le_refl _,λ p=>(by rw [hs]; exact Nat.le_refl _),λ p hp=>?_⟩;show ((List.replicate n.toNat g9).getD p g9).1=_;rw [JF]; rfl
  | i+1=>ZF hn (Iw hn l i) _
theorem Rb {n:Int} {s:vZ} {d:J0} (h:(S8 s.1 d).2≠0\/d.2.1<0\/n<=d.2.1):yE n s d=((S8 s.1 d).1,s.2):=by rw [yE]; exact if_pos h
theorem PM {n:Int} {s:vZ} {d:J0} (h1:(S8 s.1 d).2=0) (h2:¬ d.2.1<0) (h3:¬ n<=d.2.1):yE n s d=((S8 s.1 d).1,if d.1=1 then s.2.1.set d.2.1.toNat (s.2.1.getD d.2.1.toNat []++[d.2.2.2.1]) else s.2.1,if d.1=4 then s.2.2++[d.2.1] else s.2.2):=by
  rw [yE]; exact if_neg (λ h=>h.elim (λ e=>e h1) (λ h=>h.elim h2 h3))
attribute [local irreducible] S8 in
set_option maxHeartbeats 4000000 in
theorem b4Q:ID.Valid Tryz.prog 23:=by
  refine r9.r7 Ln rfl rfl Tryz.func23 (c:=d9 Tryz.prog 23) rfl rfl Ls rfl ?_;rintro ⟨(n:Int),(l:List J0),⟨⟩⟩ ⟨(hn:1<=n/\n<=6),(hl:l.length<=1048576)⟩ -
  refine j8 (n:=1000) Ln Ls ?_;refine i8 (Zo n l) ?_;have kJ:Ty.wb (.d8 true .str)=24:=rfl;simp only [j7,Tree.holds,kJ,sL];refine ⟨hn,λ _=>⟨⟨by omega,by omega,by omega,by omega⟩,λ _=>?_⟩⟩;have hW:=Iw hn l;show Go.Ex.Reach Ci Tryz.f23 (some (I8 n l l.length).1,(I8 n l l.length).2.1,(I8 n l l.length).2.2,true,()) () (.code (g8 (d9 Tryz.prog 23) 7).1::.inLoop (g8 (d9 Tryz.prog 23) 7).1::(g8 (d9 Tryz.prog 23) 7).2) (Lp n l (l.length:Int) ((0:Nat):Int) (I8 n l 0).1.1.1 (I8 n l 0).1.1.2.1 (I8 n l 0).1.2.1 (I8 n l 0).1.2.2.1 (I8 n l 0).1.2.2.2.1 (I8 n l 0).2.1 (I8 n l 0).2.2);refine Reach.O8 Ln Ls (λ i:Nat=>Lp n l (l.length:Int) (i:Int) (I8 n l i).1.1.1 (I8 n l i).1.1.2.1 (I8 n l i).1.2.1 (I8 n l i).1.2.2.1 (I8 n l i).1.2.2.2.1 (I8 n l i).2.1 (I8 n l i).2.2) (λ i=>i<=l.length) (λ i=>l.length - i) 1000 (λ _=>⟨y6 rfl,y6 rfl⟩) ?_ 0 (Nat.zero_le _);rintro i k1 - ih;have k1:i<=l.length:=k1;have hS:=hW i;have ih1:∀ s':vZ,i<l.length->s'=yE n (I8 n l i) (DX i (l.getD i DO))->_:=λ s' h e=>by
    have:=ih (i+1) (by show i+1<=l.length; omega) (by show l.length - (i+1)<l.length - i; omega);rw [show I8 n l (i+1)=s' from e.symm] at this;exact this
  generalize hs:I8 n l i=s at hS ih1 ⊢;have hg:=(hS.ok.yc (by omega));have hle:s.2.1.length=n.toNat:=hS.said;have fI:s.2.2.length<=i:=hS.J4;have tw:∀ p,(s.2.1.getD p []).length<=i:=hS.each;refine i8 (b8L ..) ?_;have e1:((i:Nat):Int)+1=((i+1:Nat):Int):=by omega
  have oW:Ty.wb .str=16:=rfl;have rX:Ty.wb (.int .i64)=8:=rfl;have jF:maxLen=9223372036854775807:=by decide
  have fq:(E0 (Int.tmod (i:Int) 10)).length<=20:=CO (by have:=Int.tmod_nonneg (a:=(i:Int)) 10 (by omega); omega) (by have:=Int.tmod_lt_of_pos (i:Int) (show (0:Int)<10 by decide); omega);have mb:(E0 (i:Int)).length<=20:=CO (by omega) (by omega);obtain ⟨d,hd⟩:∃ d,d=l.getD i DO:=⟨_,rfl⟩;rw [<- hd] at ih1;simp only [DO] at hd;simp only [j7,Tree.holds,e1,oW,rX,sL];rw [<- hd];clear hd;obtain ⟨dk,dw,dh,dt,⟨⟩⟩:=d;obtain ⟨w,sd,fl⟩:=s;have dz:-9223372036854775808<=((i+1:Nat):Int)/\((i+1:Nat):Int)<=9223372036854775807:=⟨by omega,by omega⟩;have ql:=tw dw.toNat;simp only at hle fI ql;dsimp only at hg ⊢;refine ⟨λ c=>⟨by omega,λ _=>⟨λ c1=>?_,λ c1=>?_⟩⟩,λ c=>?_⟩
  . have ku:DX i (dk,dw,dh,dt,())=(dk,dw,dh,Dn++E0 (Int.tmod i 10)++spT++E0 i,()):=if_pos c1;have ih1:=λ s' h e=>ih1 s' h (by rw [ku]; exact e);have wy:=Rb (n:=n) (s:=(w,sd,fl)) (d:=(dk,dw,dh,Dn++E0 (Int.tmod i 10)++spT++E0 i,()));have wn:=PM (n:=n) (s:=(w,sd,fl)) (d:=(dk,dw,dh,Dn++E0 (Int.tmod i 10)++spT++E0 i,()));refine ⟨by decide,λ _=>⟨?_,λ _=>⟨?_,λ _=>⟨?_,λ _=>⟨hg,λ _=>?_⟩⟩⟩⟩⟩
    . rw [jF]; omega
    . simp only [List.length_append,List.length_cons,List.length_nil,jF]; omega
    . simp only [List.length_append,List.length_cons,List.length_nil,jF]; omega
    refine ⟨λ e=>⟨dz,λ _=>?_⟩,λ e=>⟨λ b=>⟨dz,λ _=>?_⟩,λ b=>⟨λ b2=>⟨dz,λ _=>?_⟩,λ b2=>⟨λ k1=>⟨by omega,λ _=>⟨by omega,λ _=>⟨⟨by omega,by omega⟩,λ _=>⟨λ k4=>by omega,λ k4=>⟨dz,λ _=>?_⟩⟩⟩⟩⟩,λ k1=>absurd c1 k1⟩⟩⟩⟩
    . exact ih1 (_,_,_) (by omega) (wy (.inl e)).symm
    . exact ih1 (_,_,_) (by omega) (wy (.inr (.inl b))).symm
    . exact ih1 (_,_,_) (by omega) (wy (.inr (.inr b2))).symm
    . exact ih1 (_,_,_) (by omega) (by
        rw [wn (by simpa using e) b b2];simp only;rw [if_pos c1,if_neg k4]; rfl)
  . have ku:DX i (dk,dw,dh,dt,())=(dk,dw,dh,dt,()):=if_neg c1;have ih1:=λ s' h e=>ih1 s' h (by rw [ku]; exact e);have wy:=Rb (n:=n) (s:=(w,sd,fl)) (d:=(dk,dw,dh,dt,()));have wn:=PM (n:=n) (s:=(w,sd,fl)) (d:=(dk,dw,dh,dt,()));refine ⟨hg,λ _=>?_⟩;refine ⟨λ e=>⟨dz,λ _=>?_⟩,λ e=>⟨λ b=>⟨dz,λ _=>?_⟩,λ b=>⟨λ b2=>⟨dz,λ _=>?_⟩,λ b2=>⟨λ k1=>absurd k1 c1,λ k1=>⟨λ k4=>⟨⟨by omega,by omega⟩,λ _=>⟨dz,λ _=>?_⟩⟩,λ k4=>⟨dz,λ _=>?_⟩⟩⟩⟩⟩⟩
    . exact ih1 (_,_,_) (by omega) (wy (.inl e)).symm
    . exact ih1 (_,_,_) (by omega) (wy (.inr (.inl b))).symm
    . exact ih1 (_,_,_) (by omega) (wy (.inr (.inr b2))).symm
    . exact ih1 (_,_,_) (by omega) (by
        rw [wn (by simpa using e) b b2];simp only;rw [if_neg c1,if_pos k4]; rfl)
    . exact ih1 (_,_,_) (by omega) (by
        rw [wn (by simpa using e) b b2];simp only;rw [if_neg c1,if_neg k4])
  . obtain rfl:i=l.length:=by omega
    rw [hs]; rfl
def DI:r9:={ ps:=[.v (.d8 false w4),.v (.d8 false w4)],rs:=[.bool],pre:=λ _=>True,fn:=λ x=>(decide ((show List (w7) from x.1)=(show List (w7) from x.2.1)),()),out:=λ _=>() }
noncomputable def Dz:Env:={ P:=Tryz.prog,tt:=tt,E4:=[],res:=[Go.ResultVar.tmp 4],rs:=[Ty.bool],ps:=[PK.v M6,PK.v M6],D5:=[(4,[(0,none),(1,none),(12,none),(13,none)])],nt:=26 }
theorem Jk:C0 Dz:=C7 s9 trivial
theorem IQ:D7 Dz Tryz.f21:=⟨rfl,rfl⟩
theorem UX (x0:List (Int×yY×Unit)) (x1:List (Int×yY×Unit)):exec Dz 1000 [.code (d9 Tryz.prog 21)] (y8 DI.ps ((x0,x1,()))) =
  cond (decide ((↑(List.length x0):Int)≠(↑(List.length x1):Int))) (.ret ((false,()))) (.ctL (g8 (d9 Tryz.prog 21) 4) (St.mk [(0,AV.val M6 x0),(1,AV.val M6 x1),(12,AV.val f7 (↑(List.length x0):Int)),(13,AV.val f7 (0:Int))] [])):=by kernel_rfl
def Pj (v0:List (Int×yY×Unit)) (v1:List (Int×yY×Unit)) (v12:Int) (vd:Int):St:=St.mk [(0,AV.val M6 v0),(1,AV.val M6 v1),(12,AV.val f7 v12),(13,AV.val f7 vd)] []
theorem Xm (v0:List (Int×yY×Unit)) (v1:List (Int×yY×Unit)) (v12:Int) (vd:Int):exec Dz 1000 (.code (g8 (d9 Tryz.prog 21) 4).1::.inLoop (g8 (d9 Tryz.prog 21) 4).1::(g8 (d9 Tryz.prog 21) 4).2) (Pj v0 v1 v12 vd) =
  cond (decide (vd<v12)) (.f9 ((0:Int)<=vd/\vd<(↑(List.length v0):Int)) (.f9 ((0:Int)<=vd/\vd<(↑(List.length v1):Int)) (cond (!eqD w4 (List.getD v0 (Int.toNat vd) ((0:Int),[],())) (List.getD v1 (Int.toNat vd) ((0:Int),[],()))) (.ret ((false,()))) (.f9 (u7 IntKind.i64 (vd+(1:Int))) (.ctL (g8 (d9 Tryz.prog 21) 4) (St.mk [(0,AV.val M6 v0),(1,AV.val M6 v1),(12,AV.val f7 v12),(13,AV.val f7 (vd+(1:Int)))] [])))))) (.ret ((true,()))):=by kernel_rfl
theorem Tm:DI.Valid Tryz.prog 21:=by
  refine r9.r7 Jk rfl rfl Tryz.func21 (c:=d9 Tryz.prog 21) rfl rfl IQ rfl ?_;rintro ⟨(l:List (w7)),(m:List (w7)),⟨⟩⟩ - ⟨⟨hl,-⟩,-⟩;have hl:l.length<=9223372036854775807:=hl;refine j8 (n:=1000) Jk IQ ?_;refine i8 (UX l m) ?_;have fin:∀ {b:Bool},(b=true↔l=m)->((b,()):Bool×Unit)=(decide (l=m),()):=λ {b} h=>by
    cases b with
    | true=>rw [decide_eq_true (h.1 rfl)]
    | false=>rw [decide_eq_false (λ e=>by cases h.2 e)]
  simp only [j7,Tree.holds,sL];refine ⟨λ c=>fin ⟨λ h=>(by cases h),λ h=>absurd (congrArg (λ q:List (w7)=>(q.length:Int)) h) c⟩,λ c=>?_⟩;refine Reach.O8 Jk IQ (λ i:Nat=>Pj l m (l.length:Int) (i:Int)) (λ i=>i<=l.length/\∀ j,j<i->l.getD j (0,[],())=m.getD j (0,[],()))
    (λ i=>l.length - i) 1000 (λ _=>⟨y6 rfl,y6 rfl⟩) ?_ 0 ⟨Nat.zero_le _,λ j hj=>by omega⟩
  rintro i ⟨k1,k2⟩ - ih;refine i8 (Xm ..) ?_;have c:l.length=m.length:=by omega
  simp only [j7,Tree.holds,sL];refine ⟨λ d1=>⟨by omega,λ _=>⟨by omega,λ _=>⟨λ d2=>fin ⟨λ h=>(by cases h),λ h=>absurd (congrArg (λ q:List (w7)=>q.getD i (0,[],())) h) (YW d2)⟩,λ d2=>⟨by omega,λ _=>ih (i+1) ⟨by omega,λ j hj=>?_⟩ (by omega)⟩⟩⟩⟩,λ d1=>fin ⟨λ _=>eq_of_getD c (λ j hj=>k2 j (by omega)),λ _=>rfl⟩⟩;rcases Nat.lt_or_ge j i with h|h
  . exact k2 j h
  . obtain rfl:j=i:=by omega
    exact Pp.1 d2
noncomputable def vY:{ f:Int->List J0->Nat->vZ // f=I8 }:=Classical.choice ⟨⟨I8,rfl⟩⟩
noncomputable def wK:{ f:Nat->f8->f8×Bool // f=D6 }:=Classical.choice ⟨⟨D6,rfl⟩⟩
def UM (g:Int->List J0->Nat->vZ):r9:={ ps:=[.v f7,.v (.d8 false yb)],rs:=[.box true none r8,.d8 true (.d8 true .str),.d8 true f7,.bool],pre:=λ x=>(LE.le (α:=Int) 1 x.1/\LE.le (α:=Int) x.1 6)/\List.length (α:=J0) x.2.1<=1048576,fn:=λ x=>(some (g x.1 x.2.1 (List.length (α:=J0) x.2.1)).1,(g x.1 x.2.1 (List.length (α:=J0) x.2.1)).2.1,(g x.1 x.2.1 (List.length (α:=J0) x.2.1)).2.2,true,()),out:=λ _=>() }
noncomputable def DW:r9:={ ps:=[.v f7,.v (.d8 false yb)],rs:=[.box true none r8,.d8 true (.d8 true .str),.d8 true f7,.bool],pre:=λ x=>(LE.le (α:=Int) 1 x.1/\LE.le (α:=Int) x.1 6)/\List.length (α:=J0) x.2.1<=1048576,fn:=λ x=>(some (vY.1 x.1 x.2.1 (List.length (α:=J0) x.2.1)).1,(vY.1 x.1 x.2.1 (List.length (α:=J0) x.2.1)).2.1,(vY.1 x.1 x.2.1 (List.length (α:=J0) x.2.1)).2.2,true,()),out:=λ _=>() }
theorem b6m:DW.Valid Tryz.prog 23:=by
  have e:DW=ID:=(show DW=UM vY.1 from rfl).trans (by rw [vY.2]; rfl);rw [e]; exact b4Q
def VN (g:Nat->f8->f8×Bool):r9:={ ps:=[.rw r8,.v f7],rs:=[.bool],pre:=λ x=>Fit x.2.1 x.1,fn:=λ x=>((g (Int.toNat x.2.1) x.1).2,()),out:=λ x=>((g (Int.toNat x.2.1) x.1).1,()) }
noncomputable def BJ:r9:={ ps:=[.rw r8,.v f7],rs:=[.bool],pre:=λ x=>Fit x.2.1 x.1,fn:=λ x=>((wK.1 (Int.toNat x.2.1) x.1).2,()),out:=λ x=>((wK.1 (Int.toNat x.2.1) x.1).1,()) }
theorem TC:BJ.Valid Tryz.prog 16:=by
  have e:BJ=Jc:=(show BJ=VN wK.1 from rfl).trans (by rw [wK.2]; rfl);rw [e]; exact b2X
abbrev Y9:List J0:=List.set [((0:Int),(0:Int),(0:Int),([]:yY),())] (Int.toNat ((0:Nat):Int)) (1,1,0,[],())
def IB:r9:={ ps:=[],rs:=[.bool],pre:=λ _=>True,fn:=λ _=>(true,()),out:=λ _=>() }
noncomputable def Ch:Env:={ P:=Tryz.prog,tt:=tt,E4:=[(23,DW),(16,BJ),(19,Dd),(21,DI)],res:=[Go.ResultVar.tmp 0],rs:=[Ty.bool],ps:=[],D5:=[(5,[(1,none),(2,some (Ty.d8 true (Ty.d8 true Ty.str))),(30,none)])],nt:=54 }
theorem Ll:C0 Ch:=C7 s9 ⟨b6m,TC,Ss,Tm,trivial⟩
theorem Lr:D7 Ch Tryz.f12:=⟨rfl,rfl⟩
theorem Zn:exec Ch 1000 [.code (d9 Tryz.prog 12)] (y8 IB.ps (())) =
  .f9 (((1:Int)<=(3:Int)/\(3:Int)<=(6:Int))/\List.length Y9<=1048576) (.f9 ((0:Int)<=(1:Int)/\(1:Int)<(↑(List.length (Prod.fst (Prod.snd (Subtype.val vY (3:Int) Y9 (List.length Y9))))):Int)) (cond (decide ((↑(List.length (List.getD (Prod.fst (Prod.snd (Subtype.val vY (3:Int) Y9 (List.length Y9)))) (Int.toNat (1:Int)) [])):Int)≠(1:Int))) (.ret ((false,()))) (.f9 (Fit (50:Int) (Prod.fst (Subtype.val vY (3:Int) Y9 (List.length Y9)))) (cond (!Prod.snd (Subtype.val wK (Int.toNat (50:Int)) (Prod.fst (Subtype.val vY (3:Int) Y9 (List.length Y9))))) (.ret ((false,()))) (.ctL (g8 (d9 Tryz.prog 12) 5) (St.mk [(1,AV.ptr 1011 []),(2,AV.at_ 1000002 []),(30,AV.val f7 (0:Int))] [(1011,i7.var r8 (Prod.fst (Subtype.val wK (Int.toNat (50:Int)) (Prod.fst (Subtype.val vY (3:Int) Y9 (List.length Y9)))))),(1000002,i7.own (Ty.d8 true (Ty.d8 true Ty.str)) (Prod.fst (Prod.snd (Subtype.val vY (3:Int) Y9 (List.length Y9)))))])))))):=by kernel_rfl
def Lm (v30:Int) (cf:Int) (bM:Int) (bV:List p7) (bL:List yY) (bz:List yY) (eI:List (List yY)):St:=St.mk [(1,AV.ptr 1011 []),(2,AV.at_ 1000002 []),(30,AV.val f7 v30)] [(1011,i7.var r8 ((cf,bM,()),bV,bL,bz,())),(1000002,i7.own (Ty.d8 true (Ty.d8 true Ty.str)) eI)]
theorem b8M (v30:Int) (cf:Int) (bM:Int) (bV:List p7) (bL:List yY) (bz:List yY) (eI:List (List yY)):exec Ch 1000 (.code (g8 (d9 Tryz.prog 12) 5).1::.inLoop (g8 (d9 Tryz.prog 12) 5).1::(g8 (d9 Tryz.prog 12) 5).2) (Lm v30 cf bM bV bL bz eI) =
  cond (decide (v30<(3:Int))) (.f9 (List.length bV<=6/\List.length (xF ((cf,bM,()),bV,bL,bz,()) v30)<=5864062014805) (cond (decide (Prod.fst (Prod.snd (wD ((cf,bM,()),bV,bL,bz,()) v30))≠(0:Int))) (.ret ((false,()))) (.f9 ((0:Int)<=(1:Int)/\(1:Int)<(↑(List.length eI):Int)) (.f9 ((0:Int)<=(0:Int)/\(0:Int)<(↑(List.length (List.getD eI (Int.toNat (1:Int)) [])):Int)) (.f9 (True) (cond (!decide (Prod.fst (wD ((cf,bM,()),bV,bL,bz,()) v30)=List.set [((0:Int),[],())] (Int.toNat (↑0:Int)) ((1:Int),List.getD (List.getD eI (Int.toNat (1:Int)) []) (Int.toNat (0:Int)) [],()))) (.ret ((false,()))) (.f9 (u7 IntKind.i64 (v30+(1:Int))) (.ctL (g8 (d9 Tryz.prog 12) 5) (St.mk [(1,AV.ptr 1011 []),(2,AV.at_ 1000002 []),(30,AV.val f7 (v30+(1:Int)))] [(1011,i7.var r8 ((cf,bM,()),bV,bL,bz,())),(1000002,i7.own (Ty.d8 true (Ty.d8 true Ty.str)) eI)]))))))))) (.ret ((true,()))):=by kernel_rfl
def yi:J0:=(1,1,0,[],())
theorem UE:(I8 3 [yi] 1).2.1.length=3/\((I8 3 [yi] 1).2.1.getD 1 []).length=1/\(D6 50 (I8 3 [yi] 1).1).2=true:=by decide +kernel
theorem UF:(List.range 3).all (λ p=>decide (wD (D6 50 (I8 3 [yi] 1).1).1 (p:Int)=([(1,((I8 3 [yi] 1).2.1.getD 1 []).getD 0 [],())],0,())))=true:=by decide +kernel
theorem Po {said:Nat->List y7}:∀ (k:Nat) {c:Nat} {w:f8},Ok c said w->Ok (c+16*k) said (D6 k w).1
  | 0,_,_,h=>h
  | k+1,c,w,h=>by
    rw [D6]
    split
    . exact ⟨h.mem,h.sz.mono (by omega),h.inv⟩
    split
    . have:=h.zV 0 1;exact ⟨this.mem,this.sz.mono (by omega),this.inv⟩
    . have:=Po k (h.zV 0 1);rw [show c+16*(k+1)=c+16+16*k by omega];exact this
attribute [local irreducible] I8 D6 wD in
theorem b4R:IB.Valid Tryz.prog 12:=by
  refine r9.r7 Ll rfl rfl Tryz.func12 (c:=d9 Tryz.prog 12) rfl rfl Lr rfl ?_;rintro ⟨⟩ - -
  refine j8 (n:=1000) Ll Lr ?_;refine i8 (Zn ) ?_;have hw:vY.1 3 Y9 (List.length Y9)=I8 3 [yi] 1:=by rw [vY.2]; rfl
  obtain ⟨s,hs⟩:∃ s,s=I8 3 [yi] 1:=⟨_,rfl⟩;obtain ⟨ha,hb,hc⟩:=UE;have hd:=UF;have aK:=(Iw (n:=3) (by decide) [yi] 1).ok;rw [hw];rw [<- hs] at ha hb hc hd aK ⊢;obtain ⟨u,hu⟩:∃ u,u=(D6 50 s.1).1:=⟨_,rfl⟩;have tD:wK.1 (Int.toNat 50) s.1=D6 50 s.1:=by rw [wK.2]; rfl
  have kV:=Po 50 aK;rw [tD];rw [<- hu] at kV hd;rw [<- hu];have nm:(s.2.1.length:Int)=3:=by omega
  have cX:((s.2.1.getD (Int.toNat 1) []).length:Int)=1:=by show ((s.2.1.getD 1 []).length:Int)=1; omega
  simp only [j7,Tree.holds,nm,cX,hc,sL];refine ⟨⟨by omega,by decide⟩,λ _=>⟨by omega,λ _=>⟨λ c=>absurd rfl c,λ _=>⟨⟨by decide,⟨_,_,aK,by decide⟩⟩,λ _=>⟨λ c=>absurd c (by decide),?_⟩⟩⟩⟩⟩;suffices go:Go.Ex.Reach Ch Tryz.f12 (true,()) () (.code (g8 (d9 Tryz.prog 12) 5).1::.inLoop (g8 (d9 Tryz.prog 12) 5).1::(g8 (d9 Tryz.prog 12) 5).2) (Lm ((0:Nat):Int) u.1.1 u.1.2.1 u.2.1 u.2.2.1 u.2.2.2.1 s.2.1) by exact go
  refine Reach.O8 Ll Lr (λ p:Nat=>Lm (p:Int) u.1.1 u.1.2.1 u.2.1 u.2.2.1 u.2.2.2.1 s.2.1) (λ p=>p<=3) (λ p=>3 - p) 1000 (λ _=>⟨y6 rfl,y6 rfl⟩) ?_ 0 (Nat.zero_le _);rintro p k1 - ih;have k1:p<=3:=k1;refine i8 (b8M ..) ?_;have e1:((p:Nat):Int)+1=((p+1:Nat):Int):=by omega
  have ih1:p<3->_:=λ h=>ih (p+1) (by show p+1<=3; omega) (by show 3 - (p+1)<3 - p; omega);have hv:p<3->wD ((u.1.1,u.1.2.1,()),u.2.1,u.2.2.1,u.2.2.2.1,()) (p:Int)=([(1,(s.2.1.getD 1 []).getD 0 [],())],0,()):=λ h=>of_decide_eq_true (List.all_eq_true.1 hd p (List.mem_range.2 h));simp only [j7,Tree.holds,e1,sL];refine ⟨λ c=>⟨⟨kV.J4,Nat.le_trans (kV.sz.log p) (by omega)⟩,λ _=>⟨λ d=>?_,λ _=>⟨by omega,λ _=>⟨by omega,λ _=>⟨λ e=>?_,λ _=>⟨G9.2 ⟨by omega,by omega⟩,λ _=>ih1 (by omega)⟩⟩⟩⟩⟩⟩,λ c=>rfl⟩
  . rw [hv (by omega)] at d; exact absurd rfl d
  . rw [hv (by omega)] at e; exact absurd rfl e
theorem RC {α:Type} {f:α->Nat} (h:∀ x,1<=f x):∀ l:List α,l.length<=Z2 f l
  | []=>Nat.zero_le _
  | x::l=>by have h1:=h x; have h2:=RC h l; simp only [Z2,List.length_cons]; omega
end Go.Proofs.YtijlnmgondibnaaGreatDoor
namespace Go.Proofs.YtijlnmgondibnaaGreatDoor
open Go.Ex
set_option maxRecDepth 100000
structure VOk (w:f8):Prop where
  J8:S9 w.1=0
  mem:∀ i:Nat,i<8->W5 w.1.2.1 i=true->i<w.2.1.length
theorem ZC {v:vP} (h:(0<=v.1/\v.1<=16777215)/\v.2.1≠0/\v.2.1<64):S9 v=0:=by
  unfold S9; rw [if_neg (by omega)]
theorem VOk.new {n:Int} (h:1<=n/\n<=6):VOk (W4 n):=by
  have key:∀ k:Fin 7,1<=k.val->S9 (0,yj ((k.val:Nat):Int),())=0/\∀ i:Fin 8,W5 (yj ((k.val:Nat):Int)) i.val=true->i.val<k.val:=by decide +kernel
  obtain ⟨h1,h2⟩:=key ⟨n.toNat,by omega⟩ (by show 1<=n.toNat; omega);have e:((n.toNat:Nat):Int)=n:=by omega
  simp only [e] at h1 h2;refine ⟨h1,λ i hi hm=>?_⟩;have:=h2 ⟨i,hi⟩ hm;rw [show (W4 n).2.1.length=n.toNat from List.length_replicate ..];exact this
theorem VG {x:Int} (h:u7 .u8 x):bOr .u8 x 0=x:=by
  have key:∀ n:Fin 256,bOr .u8 ((n.val:Nat):Int) 0=((n.val:Nat):Int):=by decide +kernel
  have h:=u8_in.1 h;have:=key ⟨x.toNat,by omega⟩
  rwa [show ((x.toNat:Nat):Int)=x by omega] at this
theorem Wd {x:Int} (h:u7 .u8 x):U2 .u8 x 0=0/\U2 .u8 0 x=0:=by
  have key:∀ n:Fin 256,U2 .u8 ((n.val:Nat):Int) 0=0/\U2 .u8 0 ((n.val:Nat):Int)=0:=by decide +kernel
  have h:=u8_in.1 h;have:=key ⟨x.toNat,by omega⟩
  rwa [show ((x.toNat:Nat):Int)=x by omega] at this
theorem XD {x:Int} (h:u7 .u8 x) (h6:bit x 6=false) (h7:bit x 7=false):x<64:=by
  have key:∀ n:Fin 256,bit ((n.val:Nat):Int) 6=false->bit ((n.val:Nat):Int) 7=false->((n.val:Nat):Int)<64:=by decide +kernel
  have h:=u8_in.1 h;have:=key ⟨x.toNat,by omega⟩;rw [show ((x.toNat:Nat):Int)=x by omega] at this;exact this h6 h7
section
variable {c:Nat} {said:Nat->List y7} {w:f8}
theorem b8v (h:Ok c said w) (hv:VOk w) (hn:¬ (S4 w).2.1≠0):(∃ p:Nat,p<w.2.1.length/\l4 w p=true)/\VOk (G4 w):=by
  have hf:=h.J4;obtain ⟨g1,g2⟩:=Jg h.mem (show w.2.1.length<=8 by omega);obtain ⟨e1,e2,e3⟩:=PO hn;have bq:u7 .u8 w.1.2.1:=u8_in.2 h.mem;have hJ:half (S3 .u8 w.1.2.1 (E3 w w.2.1.length)) w.1.2.1=true:=by
    unfold S4 S5 at hn;split at hn
    . rename_i c; exact absurd c hn
    split at hn
    . exact absurd (by decide) hn
    split at hn
    . exact absurd (by decide) hn
    split at hn
    . exact absurd (by decide) hn
    split at hn
    . exact absurd (by decide) hn
    . rename_i c; simpa using c
  have bG:S3 .u8 w.1.2.1 (E3 w w.2.1.length)≠0:=by
    intro e0;rw [e0] at hJ;unfold half at hJ;rw [(Wd bq).2] at hJ;have h1:=of_decide_eq_true hJ;have h2:=(Nz w.1.2.1).1;have h3:vI 0=0:=by decide
    omega
  have fm:(G4 w).1=(w.1.1+1,bOr .u8 (S3 .u8 w.1.2.1 (E3 w w.2.1.length)) 0,()):=e1;rw [VG AF] at fm;have hlen:(G4 w).2.1.length=w.2.1.length:=List.length_mapIdx ..;have jP:∀ i,bit (S3 .u8 w.1.2.1 (E3 w w.2.1.length)) i=(bit w.1.2.1 i && !bit (E3 w w.2.1.length) i):=λ i=>Sm u8s bq g1 i;have kK:∀ i,i<8->bit w.1.2.1 i=true->i<w.2.1.length:=λ i hi hb=>hv.mem i hi (by rw [Ay h.mem hi]; exact hb);constructor
  . by_cases hex:∃ p:Nat,p<w.2.1.length/\l4 w p=true
    . exact hex
    . exfalso;apply bG;refine (ZG (u8_in.1 AF).1).2 (λ i=>?_);by_cases hi:i<8
      . rw [jP i];cases hb:bit w.1.2.1 i with
        | false=>rfl
        | true =>
          have kq:=kK i hi hb;have ha:l4 w i=false:=by
            cases ha:l4 w i with
            | false=>rfl
            | true=>exact absurd ⟨i,kq,ha⟩ hex
          rw [g2 i hi,decide_eq_true kq,Ay h.mem hi,hb,ha]; rfl
      . exact Ob u8s AF (by show 8<=i; omega)
  . refine ⟨?_,λ i hi hm=>?_⟩
    . rw [fm];refine ZC ⟨by show 0<=w.1.1+1/\w.1.1+1<=16777215; omega,bG,XD AF ?_ ?_⟩
      . rw [jP];cases hb:bit w.1.2.1 6 with
        | false=>rfl
        | true=>have:=kK 6 (by decide) hb; omega
      . rw [jP];cases hb:bit w.1.2.1 7 with
        | false=>rfl
        | true=>have:=kK 7 (by decide) hb; omega
    . rw [hlen];rw [fm] at hm;rw [Ay (u8_in.1 AF) hi,jP,Bool.and_eq_true] at hm;exact kK i hi hm.1
theorem Yp (w:f8) (d:J0):(S8 w d).1.1=w.1\/(¬ (S4 w).2.1≠0/\(S8 w d).1=G4 w):=by
  unfold S8
  split
  . exact .inl (Kp _ _ _).view
  split
  . exact .inl (Tc _ _).view
  split
  . exact .inl (CI _ _ _).view
  split
  . left; unfold vQ; split<;>rfl
  split
  . by_cases c:(S4 w).2.1≠0
    . rw [KR c]; exact .inl rfl
    . rw [KV c]; exact .inr ⟨c,rfl⟩
  . exact .inl rfl
theorem VOk.S8 (h:Ok c said w) (hv:VOk w) (d:J0):VOk (S8 w d).1:=by
  have hl:=(BU h d).len;rcases Yp w d with e|⟨c,e⟩
  . exact ⟨by rw [e]; exact hv.J8,λ i hi hm=>by rw [hl]; rw [e] at hm; exact hv.mem i hi hm⟩
  . rw [e]; exact (b8v h hv c).2
end
end Go.Proofs.YtijlnmgondibnaaGreatDoor
namespace Go.Proofs.YtijlnmgondibnaaGreatDoor
open Go.Ex
set_option maxRecDepth 100000
attribute [local irreducible] Go.Ex.exec
structure c86 (n:Int) (w u:f8) (fl:List Int) (B:List E5):Prop where
  num:u.1.1=w.1.1+1
  len:u.2.1.length=n.toNat
  some_:Hb u fl n.toNat≠[]
  log:∀ j:Nat,j<n.toNat->W5 u.1.2.1 j=true->¬ (j:Int)∈fl->xF u j=B
  grow:∀ j:Nat,j<n.toNat->W5 u.1.2.1 j=true->¬ (j:Int)∈fl->(xF w j).length<=B.length
end Go.Proofs.YtijlnmgondibnaaGreatDoor
namespace Go.Proofs.YtijlnmgondibnaaGreatDoor
open Go.Ex
set_option maxRecDepth 100000
def live (w:f8) (s:y7):Option n9:=if (w9 s).2.1=0/\(w9 s).1.2.2.2.1=w.1.1/\l4 w (w9 s).1.2.2.1=true then some (w9 s).1 else none
def notes (w:f8):List n9:=w.2.2.2.1.filterMap (live w)
def gO (p:Int) (n:n9):Bool:=decide (n.1=2) && decide (n.2.2.1=p)
def gS (p:Int) (n:n9):Bool:=decide (n.1=1) && decide (n.2.1=p)
def runN (g:n9->Bool):Option Int->List n9->Option Int
  | x,[]=>x
  | none,_::_=>none
  | some x,n::N=>if g n=true then (if n.2.2.2.2.1=x then runN g (some (x+1)) N else if n.2.2.2.2.1<x then runN g (some x) N else none) else runN g (some x) N
theorem QQ {g:n9->Bool}:∀ {N:List n9},runN g none N=none
  | []=>rfl
  | _::_=>rfl
theorem zB {g:n9->Bool}:∀ {N M:List n9} {x:Option Int},runN g x (N++M)=runN g (runN g x N) M
  | [],M,x=>by cases M<;>cases x<;>rfl
  | n::N,M,none=>by rw [List.cons_append]; rw [runN,runN,QQ]
  | n::N,M,some x=>by
    rw [List.cons_append,runN,runN]
    split
    . split
      . exact zB
      . split
        . exact zB
        . exact QQ.symm
    . exact zB
theorem V5 {g:n9->Bool} {n:n9} {N:List n9} {x:Int} (h:g n=false):runN g (some x) (n::N)=runN g (some x) N:=by rw [runN,if_neg (by rw [h]; decide)]
theorem QR {g:n9->Bool} {n:n9} {N:List n9} {x:Int} (h:g n=true) (e:n.2.2.2.2.1=x):runN g (some x) (n::N)=runN g (some (x+1)) N:=by rw [runN,if_pos h,if_pos e]
theorem Km {g:n9->Bool} {n:n9} {N:List n9} {x:Int} (h:g n=true) (e:n.2.2.2.2.1<x):runN g (some x) (n::N)=runN g (some x) N:=by rw [runN,if_pos h,if_neg (by omega),if_pos e]
theorem a12 {g:n9->Bool}:∀ {N:List n9} {x r:Int},runN g (some x) N=some r->x<=r
  | [],x,r,h=>by cases h; exact Int.le_refl _
  | n::N,x,r,h=>by
    rw [runN] at h;split at h
    . split at h
      . have:=a12 h; omega
      . split at h
        . exact a12 h
        . cases h
    . exact a12 h
theorem a40 {g:n9->Bool} {n:n9} {N:List n9} {x r:Int} (h:runN g (some x) (n::N)=some r) (hg:g n=true):(n.2.2.2.2.1=x/\runN g (some (x+1)) N=some r/\x+1<=r)\/(n.2.2.2.2.1<x/\runN g (some x) N=some r):=by
  rw [runN,if_pos hg] at h;split at h
  . rename_i e; exact .inl ⟨e,h,a12 h⟩
  . split at h
    . rename_i e; exact .inr ⟨e,h⟩
    . cases h
theorem EE {g:n9->Bool}:∀ {N:List n9} {x:Int},(∀ n∈N,g n=true->n.2.2.2.2.1<x)->runN g (some x) N=some x
  | [],_,_=>rfl
  | n::N,x,h=>by
    have ih:=EE (N:=N) (x:=x) λ m hm=>h m (List.mem_cons_of_mem _ hm);cases hg:g n with
    | false=>rw [V5 hg]; exact ih
    | true=>rw [Km hg (h n List.mem_cons_self hg)]; exact ih
def ext (n:n9):Nat:=if n.1=1 then 6 else if n.1=3 then 4 else 0
theorem zn {w w':f8} (h1:w'.1=w.1) (h2:w'.2.1.length=w.2.1.length) (h3:∀ i:Nat,(w'.2.1.getD i g9).1=(w.2.1.getD i g9).1):l4 w'=l4 w/\live w'=live w:=by
  have h:l4 w'=l4 w:=by funext p; unfold l4; rw [h1,h2,h3]
  exact ⟨h,by funext s; unfold live; rw [h1,h]⟩
theorem K7.live {k:Nat} {w w':f8} (h:K7 k w w'):l4 w'=l4 w/\live w'=live w:=zn h.view h.len h.fal
theorem Kf {w:f8} {s:y7} {n:n9} (h:live w s=some n):w9 s=(n,0,())/\n.2.2.2.1=w.1.1/\l4 w n.2.2.1=true/\F0 n=0:=by
  unfold live at h;split at h
  . rename_i c;cases h;refine ⟨?_,c.2.1,c.2.2,(NH c.1).1⟩;generalize w9 s=r at c ⊢;obtain ⟨a,b,⟨⟩⟩:=r;have:b=0:=c.1;rw [this]
  . cases h
theorem Rp {w:f8} {k f t q:Int} {x:y7} (hc:F0 (k,f,t,w.1.1,q,[0,0,0,0,0,0],x,())=0) (ha:l4 w t=true) :
    live w (M7 (k,f,t,w.1.1,q,[0,0,0,0,0,0],x,()))=some (k,f,t,w.1.1,q,[0,0,0,0,0,0],x,()):=by
  unfold live;rw [Kl hc rfl];exact if_pos ⟨rfl,rfl,ha⟩
theorem JV {k f t v q:Int} {x:y7} (h1:0<=k/\k<=255) (h2:0<=f/\f<=5) (h3:0<=t/\t<=5) (h4:0<=v/\v<=16777215) (h5:0<=q/\q<=16777215) (h6:x.length<=200):F0 (k,f,t,v,q,[0,0,0,0,0,0],x,())=0:=by
  unfold F0;rw [if_neg,if_neg,if_neg (by show ¬ 200<x.length; omega)]
  . show ¬ ([0,0,0,0,0,0]:List Int).any T4=true;decide
  . unfold wh;rw [M8.2 h1,M8.2 h2,M8.2 h3,M8.2 h4,M8.2 h5]; decide
theorem Av {w:f8} (hf:w.2.1.length<=6) {p:Int} (h:l4 w p=true):0<=p/\p<=5/\p<(w.2.1.length:Int):=by
  obtain ⟨k,h1,h2,-⟩:=yI.1 h;omega
theorem LK {w:f8} {p:Int} (h:l4 w p=true):¬ known w p≠0:=by
  obtain ⟨k,h1,h2,-⟩:=yI.1 h;exact Cv.2 ⟨by omega,by omega⟩
structure R2 (R:Nat->Int) (w:f8):Prop where
  ord:∀ p:Nat,l4 w p=true->(w.2.1.getD p g9).2.2.2.1.2.1=[]/\runN (gO p) (some (w.2.1.getD p g9).2.2.2.1.1) (notes w)=some (w.2.2.1.length:Int)
  say:∀ p:Nat,l4 w p=true->(w.2.1.getD p g9).2.2.2.2.1.2.1=[]/\runN (gS p) (some (w.2.1.getD p g9).2.2.2.2.1.1) (notes w)=some (R p)
  nn:∀ p:Nat,l4 w p=true->0<=(w.2.1.getD p g9).2.2.2.1.1/\0<=(w.2.1.getD p g9).2.2.2.2.1.1
  liv:∀ n∈notes w,l4 w n.2.1=true
  txt:∀ n∈notes w,n.1=1->n.2.2.2.2.2.2.1.length<=150
  seq:l4 w (s7 w)=true
  cnt:w.2.2.1.length+(notes w).countP (λ n=>decide (n.1=1))<=16777214
  phi:w.2.2.2.1.length+((notes w).map ext).sum<=60
  rle:∀ p,R p<=16777215
  view:0<=w.1.1/\w.1.1<=16777215
  J4:w.2.1.length<=6
structure xo (P:n9->Prop) (k:Nat) (w w':f8):Prop where
  view:w'.1=w.1
  all:w'.2.1=w.2.1
  ord:w'.2.2.1=w.2.2.1
  Y1:∃ L,w'.2.2.2.1=w.2.2.2.1++L/\L.length<=k/\∀ s∈L,∃ n,w9 s=(n,0,())/\P n
theorem xo.refl {P:n9->Prop} {k:Nat} (w:f8):xo P k w w:=⟨rfl,rfl,rfl,[],by simp,Nat.zero_le _,λ s h=>by cases h⟩
theorem xo.trans {P:n9->Prop} {k l:Nat} {w w' w'':f8} (h:xo P k w w') (h':xo P l w' w''):xo P (k+l) w w'':=by
  obtain ⟨L,e1,e2,e3⟩:=h.Y1;obtain ⟨M,f1,f2,f3⟩:=h'.Y1;refine ⟨h'.view.trans h.view,h'.all.trans h.all,h'.ord.trans h.ord,L++M,by rw [f1,e1,List.append_assoc],by rw [List.length_append]; omega,λ s hs=>?_⟩;rcases List.mem_append.1 hs with hs|hs
  . exact e3 s hs
  . exact f3 s hs
theorem xo.one {P:n9->Prop} {w:f8} {k f t q:Int} {x:y7} (h:P (k,f,t,w.1.1,q,[0,0,0,0,0,0],x,())):xo P 1 w (M0 w k f t q x):=by
  by_cases c:(U3 (k,f,t,w.1.1,q,[0,0,0,0,0,0],x,())).2.1=0/\(w.2.2.2.1.length:Int)<60
  . rw [Cx c.1 c.2];have hc:F0 (k,f,t,w.1.1,q,[0,0,0,0,0,0],x,())=0:=by
      by_cases hc:F0 (k,f,t,w.1.1,q,[0,0,0,0,0,0],x,())=0
      . exact hc
      . have:=c.1;rw [PS hc] at this;exact absurd this hc
    refine ⟨rfl,rfl,rfl,[_],rfl,Nat.le_refl _,λ s hs=>?_⟩;rw [List.mem_singleton] at hs;rw [EP hc] at hs;exact ⟨_,by rw [hs]; exact Kl hc rfl,h⟩
  . rw [Cw c]; exact .refl w
theorem QT {w:f8} {k f t q:Int} {x:y7} (hc:F0 (k,f,t,w.1.1,q,[0,0,0,0,0,0],x,())=0) (hr:w.2.2.2.1.length<60) :
    M0 w k f t q x=(w.1,w.2.1,w.2.2.1,w.2.2.2.1++[M7 (k,f,t,w.1.1,q,[0,0,0,0,0,0],x,())],()):=by
  rw [Cx (by rw [EP hc]) (by omega),EP hc]
theorem Sk {w:f8} {n:n9} (h0:0<=n.2.2.2.2.1):∀ j,xo (λ m=>m.1=2/\m.2.1=s7 w/\m.2.2.2.2.1<(w.2.2.1.length:Int)) j w (F2 w n j)
  | 0=>.refl w
  | j+1=>by
    have ih:=Sk (w:=w) h0 j;rw [F2]
    split
    . rename_i c;refine ih.trans (.one ⟨rfl,?_,?_⟩)
      . show s7 (F2 w n j)=s7 w;unfold s7; rw [ih.view]
      . show n.2.2.2.2.1+(j:Int)<_;rw [ih.ord] at c; omega
    . exact ⟨ih.view,ih.all,ih.ord,by obtain ⟨L,a,b,c⟩:=ih.Y1; exact ⟨L,a,by omega,c⟩⟩
def S6 (x:y7) (u:f8):Nat->List n9
  | 0=>[]
  | p+1=>S6 x u p++if l4 u p=true then [(2,s7 u,(p:Int),u.1.1,(u.2.2.1.length:Int) - 1,[0,0,0,0,0,0],x,())] else []
theorem ET {x:y7} {u:f8}:∀ k,(S6 x u k).length<=k
  | 0=>Nat.le_refl _
  | k+1=>by
    have:=ET (x:=x) (u:=u) k;rw [S6,List.length_append]
    split<;>simp<;>omega
theorem JJ {x:y7} {u:f8}:∀ {k:Nat} {n:n9},n∈S6 x u k->n.1=2/\n.2.1=s7 u/\(∃ p:Nat,n.2.2.1=p/\l4 u p=true)/\n=(2,s7 u,n.2.2.1,u.1.1,(u.2.2.1.length:Int) - 1,[0,0,0,0,0,0],x,())
  | 0,n,h=>by cases h
  | k+1,n,h=>by
    rw [S6] at h;rcases List.mem_append.1 h with h|h
    . exact JJ h
    . split at h
      . rename_i a;rw [List.mem_singleton] at h;rw [h]; exact ⟨rfl,rfl,⟨k,rfl,a⟩,rfl⟩
      . cases h
theorem RF {x:y7} {u:f8} {p:Nat}:∀ {k:Nat} {y:Int},y=(u.2.2.1.length:Int) - 1->l4 u p=true->runN (gO p) (some y) (S6 x u k)=some (if p<k then y+1 else y)
  | 0,y,_,_=>rfl
  | k+1,y,hy,ha=>by
    rw [S6,zB,RF hy ha];by_cases e:p=k
    . subst e;rw [if_neg (Nat.lt_irrefl _),if_pos ha,if_pos (by omega),QR (by simp [gO]) hy.symm]; rfl
    . have ot:∀ z:Int,runN (gO p) (some z) (if l4 u k=true then [((2:Int),s7 u,(k:Int),u.1.1,(u.2.2.1.length:Int) - 1,[0,0,0,0,0,0],x,())] else [])=some z:=λ z=>by
        split
        . rw [V5 (by simp [gO]; omega)]; rfl
        . rfl
      rw [ot];by_cases h:p<k
      . rw [if_pos h,if_pos (by omega)]
      . rw [if_neg h,if_neg (by omega)]
theorem JK {x:y7} {u:f8} (hs:l4 u (s7 u)=true) (hf:u.2.1.length<=6) (hv:0<=u.1.1/\u.1.1<=16777215) (ho:1<=u.2.2.1.length/\u.2.2.1.length<=16777215) (hx:x.length<=200) :
    ∀ {k:Nat},u.2.2.2.1.length+k<=60->F4 x u k=(u.1,u.2.1,u.2.2.1,u.2.2.2.1++(S6 x u k).map M7,())
  | 0,_=>by rw [F4,S6,List.map_nil,List.append_nil]
  | k+1,h=>by
    have ih:=JK hs hf hv ho hx (k:=k) (by omega);have hl:=ET (x:=x) (u:=u) k;have ha:l4 (F4 x u k) k=l4 u k:=by
      obtain ⟨h1,h2,h3⟩:=Cq (x:=x) (w:=u) k;unfold l4; rw [h1,h2]
    have pe:s7 (F4 x u k)=s7 u:=by
      obtain ⟨h1,h2,h3⟩:=Cq (x:=x) (w:=u) k;unfold s7; rw [h2]
    rw [F4,ha,S6]
    split
    . rename_i a;have h5:=Av hf hs;have h6:=Av hf a;have hc:F0 (2,s7 u,(k:Int),u.1.1,(u.2.2.1.length:Int) - 1,[0,0,0,0,0,0],x,())=0:=JV (by decide) ⟨h5.1,h5.2.1⟩ ⟨h6.1,h6.2.1⟩ hv ⟨by omega,by omega⟩ hx;rw [pe,ih];refine (QT (w:=(u.1,u.2.1,u.2.2.1,u.2.2.2.1++(S6 x u k).map M7,())) hc (by show (u.2.2.2.1++(S6 x u k).map M7).length<60; rw [List.length_append,List.length_map]; omega)).trans ?_;rw [List.map_append,<- List.append_assoc]; rfl
    . rw [ih,List.append_nil]
theorem c1B {x:y7} {u:f8} (hs:l4 u (s7 u)=true) (hf:u.2.1.length<=6) (hv:0<=u.1.1/\u.1.1<=16777215) (ho:1<=u.2.2.1.length/\u.2.2.1.length<=16777215) (hx:x.length<=200) {k:Nat} :
    ((S6 x u k).map M7).filterMap (live u)=S6 x u k:=by
  rw [List.filterMap_map];have:∀ n∈S6 x u k,(live u ∘ M7) n=some n:=λ n hn=>by
    obtain ⟨-,-,⟨p,e,a⟩,h⟩:=JJ hn;have h5:=Av hf hs;have h6:=Av hf a;show live u (M7 n)=some n;rw [h,e];exact Rp (JV (by decide) ⟨h5.1,h5.2.1⟩ ⟨h6.1,h6.2.1⟩ hv ⟨by omega,by omega⟩ hx) a
  generalize S6 x u k=N at this
  induction N with
  | nil=>rfl
  | cons n N ih =>
    rw [List.filterMap_cons,this n List.mem_cons_self,ih λ m hm=>this m (List.mem_cons_of_mem _ hm)]
def s6 (w:f8) (rest:List y7):f8:=(w.1,w.2.1,w.2.2.1,rest,())
theorem Ff {w:f8} {s:y7} {rest:List y7} (h:w.2.2.2.1=s::rest):o8 w 0 1=(N2 (s6 w rest) 1 s,0):=by
  have c:¬ H6 0 0 ((w.2.2.2.1.length:Int) - 1)=false:=by
    have:H6 0 0 ((w.2.2.2.1.length:Int) - 1)=true:=M8.2 ⟨by omega,by rw [h,List.length_cons]; omega⟩;rw [this]; decide
  rw [BZ (by decide) c (by decide)];unfold xB s6;rw [h]; rfl
theorem KK {u:f8} {s:y7}:N2 u 1 s=match live u s with|some n=>B9 u n|none=>u:=by
  unfold live;by_cases c:(w9 s).2.1=0/\(w9 s).1.2.2.2.1=u.1.1/\l4 u (w9 s).1.2.2.1=true
  . rw [if_pos c,KJ ⟨rfl,c⟩]
  . rw [if_neg c,Ki (λ e=>c e.2)]
theorem Ei {r:ToD} (h:r.2.1=[]):r=(r.1,[],()):=by
  obtain ⟨a,b,⟨⟩⟩:=r;have:b=[]:=h;rw [this]
theorem xp.empty {x:Int} (h:0<=x/\x<=16777215):xp x []:=⟨h,Nat.zero_le _,trivial,λ p hp=>by cases hp⟩
theorem Qh {t:y7} (h:t.length<=200):F1 t=false:=by
  simp only [F1,decide_eq_false_iff_not]; omega
theorem Rq {x q:Int} {t:y7} (hx:0<=x/\x<=16777215) (hq:0<=q/\q<x) (ht:t.length<=200):E2 (x,[],()) (q,t,())=((x,[],()),[],0,()):=by
  rw [JA (xp.empty hx) ⟨hq.1,by show q<=_; omega⟩ (Qh ht),if_pos (.inl hq.2)]
theorem Rr {x:Int} {t:y7} (hx:0<=x/\x<=16777214) (ht:t.length<=200):E2 (x,[],()) (x,t,())=((x+1,[],()),[t],0,()):=by
  rw [JA (xp.empty ⟨hx.1,by omega⟩) ⟨hx.1,hx.2⟩ (Qh ht),if_neg,if_neg (by show ¬ x<x; omega)]
  . rfl
  . rintro (e|e|e)
    . have e:x<x:=e;omega
    . have e:x+16<=x:=e;omega
    . cases e
theorem Cf {α:Type} {d:α}:∀ {l:List α} {i:Nat},l.set i (l.getD i d)=l
  | [],_=>rfl
  | a::l,0=>rfl
  | a::l,i+1=>by
    rw [List.set_cons_succ,List.getD_cons_succ,Cf]
theorem TR {u:f8} {p:Int}:Q5 u p (C5 u p)=u:=by
  unfold Q5 C5;rw [Cf]
theorem Kj {u:f8} {n:n9} (hr:(C5 u n.2.1).2.2.2.2.1.2.1=[]) (hx:(C5 u n.2.1).2.2.2.2.1.1<=16777215) (hq:0<=n.2.2.2.2.1/\n.2.2.2.2.1<(C5 u n.2.1).2.2.2.2.1.1) (ht:n.2.2.2.2.2.2.1.length<=200):N7 u n=u:=by
  have e:U4 u n=((C5 u n.2.1).2.2.2.2.1,[],0,()):=by
    unfold U4;rw [Ei hr];exact Rq ⟨by omega,hx⟩ hq ht
  rw [N7,e,if_neg (λ c=>c rfl)];show Q5 u n.2.1 (V3 (C5 u n.2.1) (C5 u n.2.1).2.2.2.2.1)=u;exact TR
theorem Rv {u:f8} {n:n9} (hr:(C5 u n.2.1).2.2.2.2.1.2.1=[]) (hx:0<=(C5 u n.2.1).2.2.2.2.1.1/\(C5 u n.2.1).2.2.2.2.1.1<=16777214) (hq:n.2.2.2.2.1=(C5 u n.2.1).2.2.2.2.1.1) (ht:n.2.2.2.2.2.2.1.length<=200) :
    N7 u n=F4 (G3 n.2.1 n.2.2.2.2.1 n.2.2.2.2.2.2.1) (xd (Q5 u n.2.1 (V3 (C5 u n.2.1) (n.2.2.2.2.1+1,[],()))) (G3 n.2.1 n.2.2.2.2.1 n.2.2.2.2.2.2.1)) u.2.1.length:=by
  have e:U4 u n=((n.2.2.2.2.1+1,[],()),[n.2.2.2.2.2.2.1],0,()):=by
    unfold U4;rw [Ei hr,hq];exact Rr hx ht
  rw [N7,e,if_neg (λ c=>c rfl)];show I4 n.2.1 (C5 u n.2.1).2.2.2.2.1.1 [n.2.2.2.2.2.2.1] _ 1=_;rw [I4,I4];have e2:(C5 u n.2.1).2.2.2.2.1.1+((0:Nat):Int)=n.2.2.2.2.1:=by omega
  rw [e2];show F4 _ _ (u.2.1.set _ _).length=_;rw [List.length_set]; rfl
theorem Js {u:f8} {n:n9} (hr:(C5 u n.2.2.1).2.2.2.1.2.1=[]) (hx:(C5 u n.2.2.1).2.2.2.1.1<=16777215) (hq:0<=n.2.2.2.2.1/\n.2.2.2.2.1<(C5 u n.2.2.1).2.2.2.1.1) (ht:n.2.2.2.2.2.2.1.length<=200):T3 u n=u:=by
  have e:N0 u n=((C5 u n.2.2.1).2.2.2.1,[],0,()):=by
    unfold N0;rw [Ei hr];exact Rq ⟨by omega,hx⟩ hq ht
  rw [T3,e,if_neg (λ c=>c rfl)];show Q5 u n.2.2.1 (wJ (C5 u n.2.2.1) (C5 u n.2.2.1).2.2.2.1)=u;exact TR
theorem Qc {u:f8} {n:n9} (hr:(C5 u n.2.2.1).2.2.2.1.2.1=[]) (hx:0<=(C5 u n.2.2.1).2.2.2.1.1/\(C5 u n.2.2.1).2.2.2.1.1<=16777214) (hq:n.2.2.2.2.1=(C5 u n.2.2.1).2.2.2.1.1) (ht:n.2.2.2.2.2.2.1.length<=200) :
    T3 u n=Q5 u n.2.2.1 (X2 n.2.2.1 (wJ (C5 u n.2.2.1) (n.2.2.2.2.1+1,[],())) n.2.2.2.2.2.2.1):=by
  have e:N0 u n=((n.2.2.2.2.1+1,[],()),[n.2.2.2.2.2.2.1],0,()):=by
    unfold N0;rw [Ei hr,hq];exact Rr hx ht
  rw [T3,e,if_neg (λ c=>c rfl)]; rfl
theorem Sa (q:Int) (x:p7) (t:y7):(X2 q x t).2.2.2=x.2.2.2/\(X2 q x t).1=x.1:=by
  refine ⟨?_,(SU q x t).1⟩;unfold X2
  split<;>rfl
def V8 (w:f8):Nat:=w.2.2.2.1.length+((notes w).map ext).sum
theorem RG {f q:Int} {t:y7} (hf:0<=f/\f<=5) (hq:0<=q/\q<=16777215) (ht:t.length<=150):(G3 f q t).length<=200:=by
  obtain ⟨a,rfl⟩:∃ a:Nat,f=a:=⟨f.toNat,by omega⟩;obtain ⟨b,rfl⟩:∃ b:Nat,q=b:=⟨q.toNat,by omega⟩;have h1:=EN (n:=a) 18 (by omega) (by decide);have h2:=EN (n:=b) 18 (by omega) (by decide);unfold G3;simp only [List.length_append,List.length_cons,List.length_nil];omega
theorem Lu {u:f8} {n:n9} (h:¬ known u n.2.1≠0):B9 u n=if n.1=1 then N7 u n else if n.1=3 then F2 u n 4 else if n.1=2 then T3 u n else u:=by
  rw [B9,if_neg h]
theorem AL {n:n9} {N:List n9}:(n::N).countP (λ n=>decide (n.1=1))=N.countP (λ n=>decide (n.1=1))+if n.1=1 then 1 else 0:=by
  rw [List.countP_cons];by_cases h:n.1=1
  . rw [if_pos h,if_pos (by simpa using h)]
  . rw [if_neg h,if_neg (by simpa using h)]
theorem DP {p:Int} {n:n9} (h:n.1≠2):gO p n=false:=by simp [gO,h]
theorem DQ {p:Int} {n:n9} (h:n.1≠1):gS p n=false:=by simp [gS,h]
theorem Xz {N:List n9} (h:∀ n∈N,n.1=2):(N.map ext).sum=0:=by
  induction N with
  | nil=>rfl
  | cons n N ih =>
    rw [List.map_cons,List.sum_cons,ih λ m hm=>h m (List.mem_cons_of_mem _ hm)];unfold ext;rw [h n List.mem_cons_self]; rfl
theorem MQ {N:List n9} (h:∀ n∈N,n.1=2):N.countP (λ n=>decide (n.1=1))=0:=by
  rw [List.countP_eq_zero];intro n hn;rw [h n hn]; decide
structure xV (R:Nat->Int) (w:f8) (n:n9) (rest:List y7) (w':f8) (M:List n9):Prop where
  view:w'.1=w.1
  len:w'.2.1.length=w.2.1.length
  fal:∀ i:Nat,(w'.2.1.getD i g9).1=(w.2.1.getD i g9).1
  Y1:∃ L,w'.2.2.2.1=rest++L/\L.filterMap (live w)=M/\L.length<=ext n
  two:∀ m∈M,m.1=2/\l4 w m.2.1=true
  cnt:w'.2.2.1.length<=w.2.2.1.length+if n.1=1 then 1 else 0
  ord:∀ p:Nat,l4 w p=true->(w'.2.1.getD p g9).2.2.2.1.2.1=[]/\runN (gO p) (some (w'.2.1.getD p g9).2.2.2.1.1) (rest.filterMap (live w)++M)=some (w'.2.2.1.length:Int)
  say:∀ p:Nat,l4 w p=true->(w'.2.1.getD p g9).2.2.2.2.1.2.1=[]/\runN (gS p) (some (w'.2.1.getD p g9).2.2.2.2.1.1) (rest.filterMap (live w))=some (R p)
  nn:∀ p:Nat,l4 w p=true->0<=(w'.2.1.getD p g9).2.2.2.1.1/\0<=(w'.2.1.getD p g9).2.2.2.2.1.1
theorem R2.Z5 {R:Nat->Int} {w w':f8} {s:y7} {rest:List y7} {n:n9} {M:List n9} (h:R2 R w) (hw:w.2.2.2.1=s::rest) (hl:live w s=some n) (t:xV R w n rest w' M):R2 R w'/\V8 w'<V8 w/\notes w=n::rest.filterMap (live w)/\notes w'=rest.filterMap (live w)++M:=by
  obtain ⟨ha,kZ⟩:=zn t.view t.len t.fal;have hn:notes w=n::rest.filterMap (live w):=by unfold notes; rw [hw,List.filterMap_cons,hl]
  obtain ⟨L,hL,hM,rN⟩:=t.Y1;have eC:notes w'=rest.filterMap (live w)++M:=by unfold notes; rw [hL,kZ,List.filterMap_append,hM]
  have h0:=h.phi;have h1:=h.cnt;have h2:=t.cnt;rw [hn] at h0 h1;rw [hw,List.length_cons,List.map_cons,List.sum_cons] at h0;rw [AL] at h1;have pc:((notes w').map ext).sum=((rest.filterMap (live w)).map ext).sum:=by
    rw [eC,List.map_append,List.sum_append,Xz λ m hm=>(t.two m hm).1]; omega
  have fC:(notes w').countP (λ n=>decide (n.1=1))=(rest.filterMap (live w)).countP (λ n=>decide (n.1=1)):=by
    rw [eC,List.countP_append,MQ λ m hm=>(t.two m hm).1]; omega
  have ie:V8 w'<V8 w:=by
    unfold V8;rw [pc,hL,hn,hw,List.map_cons,List.sum_cons,List.length_append,List.length_cons];omega
  refine ⟨⟨λ p hp=>?_,λ p hp=>?_,λ p hp=>t.nn p (by rw [ha] at hp; exact hp),λ m hm=>?_,λ m hm he=>?_,?_,?_,?_,h.rle,by rw [t.view]; exact h.view,by rw [t.len]; exact h.J4⟩,ie,hn,eC⟩
  . rw [ha] at hp;rw [eC]; exact t.ord p hp
  . rw [ha] at hp;rw [eC,zB];refine ⟨(t.say p hp).1,?_⟩;rw [(t.say p hp).2];exact EE λ m hm hg=>by rw [DQ (by rw [(t.two m hm).1]; decide)] at hg; cases hg
  . rw [eC] at hm;rw [ha];rcases List.mem_append.1 hm with hm|hm
    . exact h.liv m (by rw [hn]; exact List.mem_cons_of_mem _ hm)
    . exact (t.two m hm).2
  . rw [eC] at hm;rcases List.mem_append.1 hm with hm|hm
    . exact h.txt m (by rw [hn]; exact List.mem_cons_of_mem _ hm) he
    . exact absurd ((t.two m hm).1.symm.trans he) (by decide)
  . have:s7 w'=s7 w:=by unfold s7; rw [t.view]
    rw [ha,this]; exact h.seq
  . rw [fC]; omega
  . have:=h.phi;unfold V8 at ie;omega
theorem a49 {α:Type} {d x:α} {l:List α} {i j:Nat}:(l.set i x).getD j d=x/\i=j\/(l.set i x).getD j d=l.getD j d/\(i≠j\/¬ i<l.length):=by
  rw [L9];by_cases e:i=j/\i<l.length
  . rw [if_pos e]; exact .inl ⟨rfl,e.1⟩
  . rw [if_neg e];refine .inr ⟨rfl,?_⟩;by_cases c:i=j
    . exact .inr λ h=>e ⟨c,h⟩
    . exact .inl c
theorem xV.none {R:Nat->Int} {w:f8} {n:n9} {rest:List y7} (h:R2 R w) (hn:notes w=n::rest.filterMap (live w))
    (ho:∀ p:Nat,l4 w p=true->gO p n=true->n.2.2.2.2.1<(w.2.1.getD p g9).2.2.2.1.1) (hs:∀ p:Nat,l4 w p=true->gS p n=true->n.2.2.2.2.1<(w.2.1.getD p g9).2.2.2.2.1.1):xV R w n rest (s6 w rest) []:=by
  refine ⟨rfl,rfl,λ _=>rfl,⟨[],by show rest=_; rw [List.append_nil],rfl,Nat.zero_le _⟩,λ m hm=>(by cases hm),Nat.le_add_right _ _,λ p hp=>?_,λ p hp=>?_,h.nn⟩
  . obtain ⟨h1,h2⟩:=h.ord p hp;refine ⟨h1,?_⟩;rw [List.append_nil];rw [hn] at h2;cases hg:gO p n with
    | false=>rw [V5 hg] at h2; exact h2
    | true=>rw [Km hg (ho p hp hg)] at h2; exact h2
  . obtain ⟨h1,h2⟩:=h.say p hp;refine ⟨h1,?_⟩;rw [hn] at h2;cases hg:gS p n with
    | false=>rw [V5 hg] at h2; exact h2
    | true=>rw [Km hg (hs p hp hg)] at h2; exact h2
theorem BI {w:f8} {p:Int} (h:l4 w p=true):∃ k:Nat,p=k/\k<w.2.1.length:=by
  obtain ⟨k,h1,h2,-⟩:=yI.1 h;exact ⟨k,h1,h2⟩
theorem R2.a80 {R:Nat->Int} {w:f8} {s:y7} {rest:List y7} {n:n9} (h:R2 R w) (hw:w.2.2.2.1=s::rest) (hl:live w s=some n):∃ M,xV R w n rest (B9 (s6 w rest) n) M/\(n.1=2->M=[]):=by
  obtain ⟨h1,h2,h3,h4⟩:=Kf hl;have hn:notes w=n::rest.filterMap (live w):=by unfold notes; rw [hw,List.filterMap_cons,hl]
  have aK:=CL h4;have gg:=h.liv n (by rw [hn]; exact List.mem_cons_self);have ie:=h.phi;have fC:=h.cnt;rw [hn,AL] at fC;rw [hn,hw,List.length_cons,List.map_cons,List.sum_cons] at ie;have hu:B9 (s6 w rest) n=if n.1=1 then N7 (s6 w rest) n else if n.1=3 then F2 (s6 w rest) n 4 else if n.1=2 then T3 (s6 w rest) n else s6 w rest:=Lu (u:=s6 w rest) (LK gg)
  rw [hu];obtain ⟨f,hf,fI⟩:=BI gg;obtain ⟨q,hq,pw⟩:=BI h3;by_cases k1:n.1=1
  . rw [if_pos k1];have mz:=h.txt n (by rw [hn]; exact List.mem_cons_self) k1;have kv:w.2.2.1.length+1<=16777214:=by rw [if_pos k1] at fC; omega
    have hex:ext n=6:=if_pos k1;rw [hex] at ie;have lz:l4 w (f:Int)=true:=by rw [<- hf]; exact gg
    obtain ⟨s1,s2⟩:=h.say f lz;have hp:C5 (s6 w rest) n.2.1=w.2.1.getD f g9:=by rw [hf]; rfl
    have hg:gS f n=true:=by simp [gS,k1,hf]
    have hR:=h.rle f;have jD:=(h.nn f lz).2;rw [hn] at s2;have oB:∀ p,gO p n=false:=λ p=>DP (by omega);rcases a40 s2 hg with ⟨e,s3,s4⟩|⟨e,s3⟩
    . refine ⟨S6 (G3 n.2.1 n.2.2.2.2.1 n.2.2.2.2.2.2.1) (xd (Q5 (s6 w rest) n.2.1 (V3 (w.2.1.getD f g9) (n.2.2.2.2.1+1,[],()))) (G3 n.2.1 n.2.2.2.2.1 n.2.2.2.2.2.2.1)) w.2.1.length,?_,λ c=>by omega⟩;have jB:=Rv (u:=s6 w rest) (n:=n) (by rw [hp]; exact s1) (by rw [hp]; omega) (by rw [hp]; exact e) aK.text;rw [hp] at jB;rw [jB];obtain ⟨x,hx⟩:∃ x,x=G3 n.2.1 n.2.2.2.2.1 n.2.2.2.2.2.2.1:=⟨_,rfl⟩;have kG:x.length<=200:=by rw [hx]; exact RG aK.from_ aK.seq mz
      rw [<- hx];obtain ⟨u,gY⟩:∃ u,u=xd (Q5 (s6 w rest) n.2.1 (V3 (w.2.1.getD f g9) (n.2.2.2.2.1+1,[],()))) x:=⟨_,rfl⟩;have u1:u.1=w.1:=by rw [gY]; rfl
      have u2:u.2.1=w.2.1.set f (V3 (w.2.1.getD f g9) (n.2.2.2.2.1+1,[],())):=by rw [gY,hf]; rfl
      have u3:u.2.2.1=w.2.2.1++[x]:=by rw [gY]; rfl
      have u4:u.2.2.2.1=rest:=by rw [gY]; rfl
      have u5:u.2.1.length=w.2.1.length:=by rw [u2,List.length_set]
      have u6:∀ i:Nat,(u.2.1.getD i g9).1=(w.2.1.getD i g9).1:=λ i=>by
        rw [u2];rcases a49 (d:=g9) (x:=V3 (w.2.1.getD f g9) (n.2.2.2.2.1+1,[],())) (l:=w.2.1) (i:=f) (j:=i) with ⟨e,rfl⟩|⟨e,-⟩
        . rw [e]; rfl
        . rw [e]
      obtain ⟨ua,ul⟩:=zn u1 u5 u6;have us:s7 u=s7 w:=by unfold s7; rw [u1]
      have uo:u.2.2.1.length=w.2.2.1.length+1:=by rw [u3,List.length_append]; rfl
      have jj:=JK (x:=x) (u:=u) (by rw [ua,us]; exact h.seq) (by rw [u5]; exact h.J4) (by rw [u1]; exact h.view) ⟨by omega,by omega⟩ kG (k:=w.2.1.length) (by rw [u4]; have:=h.J4; omega);have cM:=c1B (x:=x) (u:=u) (by rw [ua,us]; exact h.seq) (by rw [u5]; exact h.J4) (by rw [u1]; exact h.view) ⟨by omega,by omega⟩ kG (k:=w.2.1.length);rw [<- gY];show xV R w n rest (F4 x u w.2.1.length) (S6 x u w.2.1.length);rw [jj];have cv:∀ p:Nat,(u.2.1.getD p g9).2.2.2.1=(w.2.1.getD p g9).2.2.2.1:=λ p=>by
        rw [u2];rcases a49 (d:=g9) (x:=V3 (w.2.1.getD f g9) (n.2.2.2.2.1+1,[],())) (l:=w.2.1) (i:=f) (j:=p) with ⟨e,rfl⟩|⟨e,-⟩
        . rw [e]; rfl
        . rw [e]
      have dC:∀ p:Nat,p≠f->(u.2.1.getD p g9)=(w.2.1.getD p g9):=λ p hp=>by
        rw [u2,L9,if_neg (λ c=>hp c.1.symm)]
      have eQ:(u.2.1.getD f g9).2.2.2.2.1=(n.2.2.2.2.1+1,[],()):=by
        rw [u2,L9,if_pos ⟨rfl,fI⟩]; rfl
      refine ⟨u1,u5,u6,⟨(S6 x u w.2.1.length).map M7,by rw [u4],by rw [<- ul]; exact cM,by rw [List.length_map,hex]; exact Nat.le_trans (ET _) h.J4⟩,λ m hm=>?_,by show u.2.2.1.length<=_; rw [uo,if_pos k1]; exact Nat.le_refl _,λ p hp=>?_,λ p hp=>?_,λ p hp=>?_⟩
      . obtain ⟨a,b,-⟩:=JJ hm;exact ⟨a,by rw [b,us]; exact h.seq⟩
      . obtain ⟨o1,o2⟩:=h.ord p hp;rw [hn,V5 (oB p)] at o2;show (u.2.1.getD p g9).2.2.2.1.2.1=[]/\runN (gO p) (some (u.2.1.getD p g9).2.2.2.1.1) _=some (u.2.2.1.length:Int);rw [cv p,zB,o2,uo];refine ⟨o1,?_⟩;obtain ⟨j,hj,iR⟩:=BI hp;rw [RF (by rw [uo]; omega) (by rw [ua]; exact hp),if_pos (by omega)];congr 1
      . obtain ⟨o1,o2⟩:=h.say p hp;show (u.2.1.getD p g9).2.2.2.2.1.2.1=[]/\runN (gS p) (some (u.2.1.getD p g9).2.2.2.2.1.1) _=some (R p);by_cases c:p=f
        . subst c;rw [eQ];exact ⟨rfl,by rw [e]; exact s3⟩
        . rw [dC p c];rw [hn,V5 (by simp [gS,k1,hf]; omega)] at o2;exact ⟨o1,o2⟩
      . show 0<=(u.2.1.getD p g9).2.2.2.1.1/\0<=(u.2.1.getD p g9).2.2.2.2.1.1;rw [cv p];refine ⟨(h.nn p hp).1,?_⟩;by_cases c:p=f
        . subst c;rw [eQ];show 0<=n.2.2.2.2.1+1;have:=aK.seq.1;omega
        . rw [dC p c]; exact (h.nn p hp).2
    . refine ⟨[],?_,λ _=>rfl⟩;rw [Kj (u:=s6 w rest) (n:=n) (by rw [hp]; exact s1) (by rw [hp]; have:=a12 s3; omega) (by rw [hp]; exact ⟨aK.seq.1,e⟩) aK.text];refine xV.none h hn (λ p fj cC=>by rw [oB p] at cC; cases cC) λ p fj cC=>?_;have:(f:Int)=p:=by rw [<- hf]; simp [gS] at cC; exact cC.2
      have:f=p:=by omega
      subst this;exact e
  rw [if_neg k1];by_cases k3:n.1=3
  . rw [if_pos k3];have hex:ext n=4:=by unfold ext; rw [if_neg k1,if_pos k3]
    obtain ⟨a1,a2,a3,L,a4,a5,a6⟩:=Sk (w:=s6 w rest) (n:=n) aK.seq.1 4;have kZ:∀ m∈L.filterMap (live w),m.1=2/\m.2.1=s7 w/\m.2.2.2.2.1<(w.2.2.1.length:Int):=λ m hm=>by
      obtain ⟨y,hy,lQ⟩:=List.mem_filterMap.1 hm;obtain ⟨z,hz,ml⟩:=a6 y hy;obtain ⟨g1,-⟩:=Kf lQ;rw [g1] at hz;cases hz;exact ml
    refine ⟨L.filterMap (live w),⟨a1,by rw [a2]; rfl,λ i=>by rw [a2]; rfl,⟨L,a4,rfl,by rw [hex]; exact a5⟩,λ m hm=>?_,by rw [a3]; exact Nat.le_add_right _ _,λ p hp=>?_,λ p hp=>?_,λ p hp=>by rw [a2]; exact h.nn p hp⟩,λ c=>by omega⟩
    . obtain ⟨g1,g2,-⟩:=kZ m hm;exact ⟨g1,by rw [g2]; exact h.seq⟩
    . obtain ⟨o1,o2⟩:=h.ord p hp;rw [hn,V5 (DP (by omega))] at o2;rw [a2,a3];refine ⟨o1,?_⟩;show runN (gO p) (some (w.2.1.getD p g9).2.2.2.1.1) _=some (w.2.2.1.length:Int);rw [zB,o2];exact EE λ m hm _=>(kZ m hm).2.2
    . obtain ⟨o1,o2⟩:=h.say p hp;rw [hn,V5 (DQ k1)] at o2;rw [a2];exact ⟨o1,o2⟩
  rw [if_neg k3];by_cases k2:n.1=2
  . rw [if_pos k2];refine ⟨[],?_,λ _=>rfl⟩;have mJ:l4 w (q:Int)=true:=by rw [<- hq]; exact h3
    obtain ⟨s1,s2⟩:=h.ord q mJ;have hp:C5 (s6 w rest) n.2.2.1=w.2.1.getD q g9:=by rw [hq]; rfl
    have hg:gO q n=true:=by simp [gO,k2,hq]
    have jD:=(h.nn q mJ).1;rw [hn] at s2;have lq:∀ p,gS p n=false:=λ p=>DQ (by omega);rcases a40 s2 hg with ⟨e,s3,s4⟩|⟨e,s3⟩
    . have jB:=Qc (u:=s6 w rest) (n:=n) (by rw [hp]; exact s1) (by rw [hp]; omega) (by rw [hp]; exact e) aK.text;rw [hp] at jB;rw [jB];obtain ⟨y,hy⟩:∃ y,y=X2 n.2.2.1 (wJ (w.2.1.getD q g9) (n.2.2.2.2.1+1,[],())) n.2.2.2.2.2.2.1:=⟨_,rfl⟩;obtain ⟨y1,y2⟩:=Sa n.2.2.1 (wJ (w.2.1.getD q g9) (n.2.2.2.2.1+1,[],())) n.2.2.2.2.2.2.1;rw [<- hy] at y1 y2 ⊢;have aL:Q5 (s6 w rest) n.2.2.1 y=(w.1,w.2.1.set q y,w.2.2.1,rest,()):=by rw [hq]; rfl
      rw [aL];have dC:∀ p:Nat,p≠q->((w.2.1.set q y).getD p g9)=(w.2.1.getD p g9):=λ p hp=>by
        rw [L9,if_neg (λ c=>hp c.1.symm)]
      have eQ:(w.2.1.set q y).getD q g9=y:=by rw [L9,if_pos ⟨rfl,pw⟩]
      have yt:y.2.2.2.1=(n.2.2.2.2.1+1,[],()):=congrArg (λ z=>z.1) y1;have yo:y.2.2.2.2.1=(w.2.1.getD q g9).2.2.2.2.1:=by
        have:=congrArg (λ z:ToD×ToD×Unit=>z.2.1) y1;exact this
      refine ⟨rfl,List.length_set ..,λ i=>?_,⟨[],by show rest=_; rw [List.append_nil],rfl,Nat.zero_le _⟩,λ m hm=>(by cases hm),Nat.le_add_right _ _,λ p hp=>?_,λ p hp=>?_,λ p hp=>?_⟩
      . show ((w.2.1.set q y).getD i g9).1=_;by_cases c:i=q
        . subst c; rw [eQ,y2]; rfl
        . rw [dC i c]
      . show ((w.2.1.set q y).getD p g9).2.2.2.1.2.1=[]/\runN (gO p) (some ((w.2.1.set q y).getD p g9).2.2.2.1.1) _=some (w.2.2.1.length:Int);rw [List.append_nil];by_cases c:p=q
        . subst c;rw [eQ,yt];exact ⟨rfl,by show runN (gO p) (some (n.2.2.2.2.1+1)) _=_; rw [e]; exact s3⟩
        . obtain ⟨o1,o2⟩:=h.ord p hp;rw [dC p c];rw [hn,V5 (by simp [gO,k2,hq]; omega)] at o2;exact ⟨o1,o2⟩
      . obtain ⟨o1,o2⟩:=h.say p hp;rw [hn,V5 (lq p)] at o2;show ((w.2.1.set q y).getD p g9).2.2.2.2.1.2.1=[]/\runN (gS p) (some ((w.2.1.set q y).getD p g9).2.2.2.2.1.1) _=some (R p);by_cases c:p=q
        . subst c;rw [eQ,yo]; exact ⟨o1,o2⟩
        . rw [dC p c]; exact ⟨o1,o2⟩
      . show 0<=((w.2.1.set q y).getD p g9).2.2.2.1.1/\0<=((w.2.1.set q y).getD p g9).2.2.2.2.1.1;by_cases c:p=q
        . subst c;rw [eQ,yo,yt];refine ⟨?_,(h.nn p ‹_›).2⟩;show 0<=n.2.2.2.2.1+1;have:=aK.seq.1;omega
        . rw [dC p c]; exact h.nn p hp
    . rw [Js (u:=s6 w rest) (n:=n) (by rw [hp]; exact s1) (by rw [hp]; have:=a12 s3; omega) (by rw [hp]; exact ⟨aK.seq.1,e⟩) aK.text];refine xV.none h hn (λ p fj cC=>?_) λ p fj cC=>by rw [lq p] at cC; cases cC
      have:(q:Int)=p:=by rw [<- hq]; simp [gO] at cC; exact cC.2
      have:q=p:=by omega
      subst this;exact e
  . rw [if_neg k2];refine ⟨[],xV.none h hn (λ p _ cC=>?_) λ p _ cC=>?_,λ c=>absurd c k2⟩
    . rw [DP k2] at cC; cases cC
    . rw [DQ k1] at cC; cases cC
theorem R2.step {R:Nat->Int} {w:f8} (h:R2 R w) {s:y7} {rest:List y7} (hw:w.2.2.2.1=s::rest):R2 R (o8 w 0 1).1/\(o8 w 0 1).2=0/\V8 (o8 w 0 1).1<V8 w:=by
  rw [Ff hw];have hm:N2 (s6 w rest) 1 s=match live w s with|some n=>B9 (s6 w rest) n|none=>s6 w rest:=KK
  show R2 R (N2 (s6 w rest) 1 s)/\_/\V8 (N2 (s6 w rest) 1 s)<V8 w;rw [hm];cases hl:live w s with
  | some n =>
    obtain ⟨M,ht,-⟩:=h.a80 hw hl;obtain ⟨g1,g2,-⟩:=h.Z5 hw hl ht;exact ⟨g1,rfl,g2⟩
  | none =>
    have hn:notes w=rest.filterMap (live w):=by unfold notes; rw [hw,List.filterMap_cons,hl]
    have eC:notes (s6 w rest)=notes w:=by rw [hn]; rfl
    have hp:V8 (s6 w rest)+1=V8 w:=by
      unfold V8; rw [eC,hw]; show rest.length+_+1=_; rw [List.length_cons]; omega
    refine ⟨⟨λ p hp=>?_,λ p hp=>?_,h.nn,λ m hm=>?_,λ m hm=>?_,h.seq,?_,?_,h.rle,h.view,h.J4⟩,rfl,by show V8 (s6 w rest)<_; omega⟩
    . rw [eC]; exact h.ord p hp
    . rw [eC]; exact h.say p hp
    . rw [eC] at hm; exact h.liv m hm
    . rw [eC] at hm; exact h.txt m hm
    . rw [eC]; exact h.cnt
    . have:=h.phi;show V8 (s6 w rest)<=60;have h2:V8 w<=60:=this;omega
theorem R2.drain {R:Nat->Int}:∀ (k:Nat) {w:f8},R2 R w->V8 w<=k->(D6 k w).2=true/\R2 R (D6 k w).1/\(D6 k w).1.2.2.2.1=[]
  | 0,w,h,hp=>by
    have:w.2.2.2.1.length=0:=by unfold V8 at hp; omega
    rw [D6];exact ⟨decide_eq_true (by omega),h,List.eq_nil_of_length_eq_zero this⟩
  | k+1,w,h,hp=>by
    rw [D6];cases hw:w.2.2.2.1 with
    | nil=>rw [if_pos (by simp)]; exact ⟨rfl,h,hw⟩
    | cons s rest =>
      obtain ⟨g1,g2,g3⟩:=h.step hw;rw [if_neg (by rw [List.length_cons]; omega),if_neg (λ c=>c g2)];exact R2.drain k g1 (by omega)
theorem R2.quiet {R:Nat->Int} {w:f8} (h:R2 R w) (hw:w.2.2.2.1=[]):notes w=[]/\∀ p:Nat,l4 w p=true->((w.2.1.getD p g9).2.2.2.1.2.1=[]/\(w.2.1.getD p g9).2.2.2.1.1=(w.2.2.1.length:Int))/\((w.2.1.getD p g9).2.2.2.2.1.2.1=[]/\(w.2.1.getD p g9).2.2.2.2.1.1=R p):=by
  have hn:notes w=[]:=by unfold notes; rw [hw]; rfl
  refine ⟨hn,λ p hp=>?_⟩;obtain ⟨a1,a2⟩:=h.ord p hp;obtain ⟨b1,b2⟩:=h.say p hp;rw [hn] at a2 b2;exact ⟨⟨a1,Option.some.inj a2⟩,b1,Option.some.inj b2⟩
theorem R2.add {R R':Nat->Int} {w w':f8} {N:List n9} (h:R2 R w) (hw:w.2.2.2.1=[]) (e1:w'.1=w.1) (e2:w'.2.1.length=w.2.1.length)
    (e3:∀ i:Nat,(w'.2.1.getD i g9).1=(w.2.1.getD i g9).1/\(w'.2.1.getD i g9).2.2.2=(w.2.1.getD i g9).2.2.2) (e4:w'.2.2.1=w.2.2.1) (e5:notes w'=N)
    (hN:∀ n∈N,n.1≠2/\l4 w n.2.1=true/\(n.1=1->n.2.2.2.2.2.2.1.length<=150)) (hr:∀ p:Nat,l4 w p=true->runN (gS p) (some (R p)) N=some (R' p))
    (hc:w.2.2.1.length+N.countP (λ n=>decide (n.1=1))<=16777214) (hp:w'.2.2.2.1.length+(N.map ext).sum<=60) (hR:∀ p,R' p<=16777215):R2 R' w':=by
  obtain ⟨ha,kZ⟩:=zn e1 e2 λ i=>(e3 i).1
  obtain ⟨-,hq⟩:=h.quiet hw;have pe:s7 w'=s7 w:=by unfold s7; rw [e1]
  refine ⟨λ p hp=>?_,λ p hp=>?_,λ p hp=>by rw [(e3 p).2]; rw [ha] at hp; exact h.nn p hp,λ n hn=>?_,λ n hn=>?_,by rw [ha,pe]; exact h.seq,by rw [e4,e5]; exact hc,by rw [e5]; exact hp,hR,by rw [e1]; exact h.view,by rw [e2]; exact h.J4⟩
  . rw [ha] at hp;obtain ⟨⟨a1,a2⟩,-⟩:=hq p hp;rw [(e3 p).2,e5,e4];refine ⟨a1,?_⟩;rw [a2];exact EE λ m hm hg=>by rw [DP (hN m hm).1] at hg; cases hg
  . rw [ha] at hp;obtain ⟨-,b1,b2⟩:=hq p hp;rw [(e3 p).2,e5];exact ⟨b1,by rw [b2]; exact hr p hp⟩
  . rw [e5] at hn;rw [ha]; exact (hN n hn).2.1
  . rw [e5] at hn;exact (hN n hn).2.2
def Cn (w:f8):Nat:=w.2.2.1.length+(notes w).countP (λ n=>decide (n.1=1))
def vN (w:f8):Prop:=∀ n∈notes w,n.1≠3
theorem R2.cn {R:Nat->Int} {w:f8} (h:R2 R w) {s:y7} {rest:List y7} (hw:w.2.2.2.1=s::rest):Cn (o8 w 0 1).1<=Cn w/\(vN w->vN (o8 w 0 1).1):=by
  rw [Ff hw];have hm:N2 (s6 w rest) 1 s=match live w s with|some n=>B9 (s6 w rest) n|none=>s6 w rest:=KK
  show Cn (N2 (s6 w rest) 1 s)<=Cn w/\(vN w->vN (N2 (s6 w rest) 1 s));rw [hm];cases hl:live w s with
  | some n =>
    obtain ⟨M,ht,-⟩:=h.a80 hw hl;obtain ⟨-,-,g3,g4⟩:=h.Z5 hw hl ht;have h2:=ht.cnt;show Cn (B9 (s6 w rest) n)<=Cn w/\(vN w->vN (B9 (s6 w rest) n));unfold Cn vN;rw [g3,g4,List.countP_append,MQ λ m hm=>(ht.two m hm).1,AL];refine ⟨by omega,λ c m hm=>?_⟩;rcases List.mem_append.1 hm with hm|hm
    . exact c m (List.mem_cons_of_mem _ hm)
    . rw [(ht.two m hm).1]; decide
  | none =>
    have hn:notes w=rest.filterMap (live w):=by unfold notes; rw [hw,List.filterMap_cons,hl]
    have eC:notes (s6 w rest)=notes w:=by rw [hn]; rfl
    show Cn (s6 w rest)<=Cn w/\(vN w->vN (s6 w rest));unfold Cn vN;rw [eC];exact ⟨Nat.le_refl _,id⟩
theorem Sn {x:y7} {u:f8} {r:List y7}:∀ {k},S6 x (s6 u r) k=S6 x u k
  | 0=>rfl
  | k+1=>by
    have:l4 (s6 u r) k=l4 u k:=rfl;rw [S6,S6,Sn,this]; rfl
theorem R2.local {R:Nat->Int} {w:f8} {s:y7} {rest:List y7} {n:n9} (h:R2 R w) (hw:w.2.2.2.1=s::rest) (hl:live w s=some n) (h3:n.1≠3) :
    ∃ (X:f8) (L:List y7),(∀ r:List y7,r.length+6<=60->B9 (s6 w r) n=s6 X (r++L))/\X.1=w.1/\X.2.1.length=w.2.1.length/\(∀ i:Nat,(X.2.1.getD i g9).1=(w.2.1.getD i g9).1)/\L.length<=6/\(∀ r,B9 (s6 X r) n=s6 X r):=by
  obtain ⟨h1,h2,h4,h5⟩:=Kf hl;have hn:notes w=n::rest.filterMap (live w):=by unfold notes; rw [hw,List.filterMap_cons,hl]
  have aK:=CL h5;have gg:=h.liv n (by rw [hn]; exact List.mem_cons_self);have fC:=h.cnt;rw [hn,AL] at fC;have hu:∀ r,B9 (s6 w r) n=if n.1=1 then N7 (s6 w r) n else if n.1=3 then F2 (s6 w r) n 4 else if n.1=2 then T3 (s6 w r) n else s6 w r:=λ r=>Lu (u:=s6 w r) (LK gg)
  have lh:∀ X:f8,X.2.1.length=w.2.1.length->∀ r,B9 (s6 X r) n=if n.1=1 then N7 (s6 X r) n else if n.1=3 then F2 (s6 X r) n 4 else if n.1=2 then T3 (s6 X r) n else s6 X r:=λ X hX r=>Lu (u:=s6 X r) (by
    have h6:=Cv.1 (LK gg);refine Cv.2 ⟨h6.1,?_⟩;show n.2.1<(X.2.1.length:Int);rw [hX]; exact h6.2)
  obtain ⟨f,hf,fI⟩:=BI gg;obtain ⟨q,hq,pw⟩:=BI h4;by_cases k1:n.1=1
  . have mz:=h.txt n (by rw [hn]; exact List.mem_cons_self) k1;have kv:w.2.2.1.length+1<=16777214:=by rw [if_pos k1] at fC; omega
    have lz:l4 w (f:Int)=true:=by rw [<- hf]; exact gg
    obtain ⟨s1,s2⟩:=h.say f lz;have hp:∀ r,C5 (s6 w r) n.2.1=w.2.1.getD f g9:=λ r=>by rw [hf]; rfl
    have hg:gS f n=true:=by simp [gS,k1,hf]
    have hR:=h.rle f;have jD:=(h.nn f lz).2;rw [hn] at s2;rcases a40 s2 hg with ⟨e,s3,s4⟩|⟨e,s3⟩
    . have jB:=λ r=>Rv (u:=s6 w r) (n:=n) (by rw [hp]; exact s1) (by rw [hp]; omega) (by rw [hp]; exact e) aK.text;obtain ⟨x,hx⟩:∃ x,x=G3 n.2.1 n.2.2.2.2.1 n.2.2.2.2.2.2.1:=⟨_,rfl⟩;have kG:x.length<=200:=by rw [hx]; exact RG aK.from_ aK.seq mz
      obtain ⟨y,hy⟩:∃ y,y=V3 (w.2.1.getD f g9) (n.2.2.2.2.1+1,[],()):=⟨_,rfl⟩;obtain ⟨u,gY⟩:∃ u:f8,u=(w.1,w.2.1.set f y,w.2.2.1++[x],[],()):=⟨_,rfl⟩;have sf:∀ r,xd (Q5 (s6 w r) n.2.1 (V3 (C5 (s6 w r) n.2.1) (n.2.2.2.2.1+1,[],()))) x=s6 u r:=λ r=>by
        rw [hp,<- hy,gY,hf]; rfl
      have u1:u.1=w.1:=by rw [gY]
      have u2:u.2.1=w.2.1.set f y:=by rw [gY]
      have u3:u.2.2.1=w.2.2.1++[x]:=by rw [gY]
      have u5:u.2.1.length=w.2.1.length:=by rw [u2,List.length_set]
      have u6:∀ i:Nat,(u.2.1.getD i g9).1=(w.2.1.getD i g9).1:=λ i=>by
        rw [u2];rcases a49 (d:=g9) (x:=y) (l:=w.2.1) (i:=f) (j:=i) with ⟨e,rfl⟩|⟨e,-⟩
        . rw [e,hy]; rfl
        . rw [e]
      obtain ⟨ua,ul⟩:=zn u1 u5 u6;have us:s7 u=s7 w:=by unfold s7; rw [u1]
      have uo:u.2.2.1.length=w.2.2.1.length+1:=by rw [u3,List.length_append]; rfl
      refine ⟨u,(S6 x u w.2.1.length).map M7,λ r hr=>?_,u1,u5,u6,by rw [List.length_map]; exact Nat.le_trans (ET _) h.J4,λ r=>?_⟩
      . rw [hu,if_pos k1,jB r,<- hx,sf r];have jj:=JK (x:=x) (u:=s6 u r) (by show l4 u (s7 u)=true; rw [ua,us]; exact h.seq) (by show u.2.1.length<=6; rw [u5]; exact h.J4) (by show 0<=u.1.1/\u.1.1<=16777215; rw [u1]; exact h.view) (by show 1<=u.2.2.1.length/\u.2.2.1.length<=16777215; omega) kG (k:=w.2.1.length) (by show r.length+_<=60; have:=h.J4; omega);rw [Sn] at jj;exact jj
      . have kU:C5 (s6 u r) n.2.1=y:=by
          rw [hf];show u.2.1.getD (Int.toNat (f:Int)) g9=_;rw [Int.toNat_natCast,u2,L9,if_pos ⟨rfl,fI⟩]
        rw [lh u u5 r,if_pos k1];exact Kj (by rw [kU,hy]; rfl) (by rw [kU,hy]; show n.2.2.2.2.1+1<=_; omega) (by rw [kU,hy]; show _/\_<n.2.2.2.2.1+1; have:=aK.seq.1; omega) aK.text
    . have fZ:∀ r,B9 (s6 w r) n=s6 w r:=λ r=>by
        rw [hu r,if_pos k1];exact Kj (u:=s6 w r) (n:=n) (by rw [hp]; exact s1) (by rw [hp]; have:=a12 s3; omega) (by rw [hp]; exact ⟨aK.seq.1,e⟩) aK.text
      exact ⟨w,[],λ r _=>by rw [List.append_nil]; exact fZ r,rfl,rfl,λ _=>rfl,Nat.zero_le _,fZ⟩
  by_cases k2:n.1=2
  . have mJ:l4 w (q:Int)=true:=by rw [<- hq]; exact h4
    obtain ⟨s1,s2⟩:=h.ord q mJ;have hp:∀ r,C5 (s6 w r) n.2.2.1=w.2.1.getD q g9:=λ r=>by rw [hq]; rfl
    have hg:gO q n=true:=by simp [gO,k2,hq]
    have jD:=(h.nn q mJ).1;rw [hn] at s2;rcases a40 s2 hg with ⟨e,s3,s4⟩|⟨e,s3⟩
    . have jB:=λ r=>Qc (u:=s6 w r) (n:=n) (by rw [hp]; exact s1) (by rw [hp]; omega) (by rw [hp]; exact e) aK.text;obtain ⟨y,hy⟩:∃ y,y=X2 n.2.2.1 (wJ (w.2.1.getD q g9) (n.2.2.2.2.1+1,[],())) n.2.2.2.2.2.2.1:=⟨_,rfl⟩;obtain ⟨y1,y2⟩:=Sa n.2.2.1 (wJ (w.2.1.getD q g9) (n.2.2.2.2.1+1,[],())) n.2.2.2.2.2.2.1;rw [<- hy] at y1 y2;have yt:y.2.2.2.1=(n.2.2.2.2.1+1,[],()):=congrArg (λ z=>z.1) y1;obtain ⟨u,gY⟩:∃ u:f8,u=(w.1,w.2.1.set q y,w.2.2.1,[],()):=⟨_,rfl⟩;have u1:u.1=w.1:=by rw [gY]
      have u2:u.2.1=w.2.1.set q y:=by rw [gY]
      have u5:u.2.1.length=w.2.1.length:=by rw [u2,List.length_set]
      refine ⟨u,[],λ r _=>?_,u1,u5,λ i=>?_,Nat.zero_le _,λ r=>?_⟩
      . rw [hu r,if_neg k1,if_neg h3,if_pos k2,jB r,hp,<- hy,List.append_nil,gY,hq]; rfl
      . rw [u2];rcases a49 (d:=g9) (x:=y) (l:=w.2.1) (i:=q) (j:=i) with ⟨e,rfl⟩|⟨e,-⟩
        . rw [e,y2]; rfl
        . rw [e]
      . have kU:C5 (s6 u r) n.2.2.1=y:=by
          rw [hq];show u.2.1.getD (Int.toNat (q:Int)) g9=_;rw [Int.toNat_natCast,u2,L9,if_pos ⟨rfl,pw⟩]
        rw [lh u u5 r,if_neg k1,if_neg h3,if_pos k2];exact Js (by rw [kU,yt]) (by rw [kU,yt]; show n.2.2.2.2.1+1<=_; omega) (by rw [kU,yt]; show _/\_<n.2.2.2.2.1+1; have:=aK.seq.1; omega) aK.text
    . have fZ:∀ r,B9 (s6 w r) n=s6 w r:=λ r=>by
        rw [hu r,if_neg k1,if_neg h3,if_pos k2];exact Js (u:=s6 w r) (n:=n) (by rw [hp]; exact s1) (by rw [hp]; have:=a12 s3; omega) (by rw [hp]; exact ⟨aK.seq.1,e⟩) aK.text
      exact ⟨w,[],λ r _=>by rw [List.append_nil]; exact fZ r,rfl,rfl,λ _=>rfl,Nat.zero_le _,fZ⟩
  . have fZ:∀ r,B9 (s6 w r) n=s6 w r:=λ r=>by
      rw [hu r,if_neg k1,if_neg h3,if_neg k2]
    exact ⟨w,[],λ r _=>by rw [List.append_nil]; exact fZ r,rfl,rfl,λ _=>rfl,Nat.zero_le _,fZ⟩
theorem MC {k m:Nat} (h:k<m):¬ H6 (k:Int) 0 ((m:Int) - 1)=false:=by
  have:H6 (k:Int) 0 ((m:Int) - 1)=true:=M8.2 ⟨by omega,by omega⟩;rw [this]; decide
theorem R2.UH {R:Nat->Int} {w:f8} (h:R2 R w) (ha:vN w) {s:y7} {rest:List y7} (hw:w.2.2.2.1=s::rest) (hr:rest.length+7<=60) :
    (o8 w 0 3).2=0/\(o8 (o8 w 0 3).1 0 1).2=0/\(o8 (o8 (o8 w 0 3).1 0 1).1 (rest.length:Int) 1).2=0/\(o8 (o8 (o8 w 0 3).1 0 1).1 (rest.length:Int) 1).1=(o8 w 0 1).1:=by
  have c1:o8 w 0 3=(s6 w (s::(rest++[s])),0):=by
    have c0:¬ H6 (0:Int) 0 ((w.2.2.2.1.length:Int) - 1)=false:=MC (k:=0) (by rw [hw,List.length_cons]; omega);rw [KI (by decide) c0 rfl (by rw [hw,List.length_cons]; omega)];unfold Bb s6;rw [hw]; rfl
  have c2:o8 (s6 w (s::(rest++[s]))) 0 1=(N2 (s6 w (rest++[s])) 1 s,0):=Ff (w:=s6 w (s::(rest++[s]))) rfl;rw [c1];show _/\(o8 (s6 w (s::(rest++[s]))) 0 1).2=0/\(o8 (o8 (s6 w (s::(rest++[s]))) 0 1).1 (rest.length:Int) 1).2=0/\(o8 (o8 (s6 w (s::(rest++[s]))) 0 1).1 (rest.length:Int) 1).1=_;rw [c2,Ff hw];show _/\_/\(o8 (N2 (s6 w (rest++[s])) 1 s) (rest.length:Int) 1).2=0/\(o8 (N2 (s6 w (rest++[s])) 1 s) (rest.length:Int) 1).1=N2 (s6 w rest) 1 s;have hm:∀ (X:f8) (r:List y7),N2 (s6 X r) 1 s=match live X s with|some n=>B9 (s6 X r) n|none=>s6 X r:=λ X r=>KK
  have km:∀ (X:f8) (L:List y7),o8 (s6 X (rest++[s]++L)) (rest.length:Int) 1=(N2 (s6 X (rest++L)) 1 s,0):=λ X L=>by
    rw [BZ (by decide) (MC (by show _<(rest++[s]++L).length; rw [List.length_append,List.length_append]; simp; omega)) (by decide)];unfold xB s6;congr 1;congr 1
    . show (X.1,X.2.1,X.2.2.1,List.take (rest.length:Int).toNat (rest++[s]++L)++List.drop ((rest.length:Int)+1).toNat (rest++[s]++L),())=_;rw [show ((rest.length:Int)+1).toNat=rest.length+1 by omega,Int.toNat_natCast,List.append_assoc,List.take_left,<- List.append_assoc,show rest.length+1=(rest++[s]).length by simp,List.drop_left]
    . show (rest++[s]++L).getD (rest.length:Int).toNat []=s;rw [Int.toNat_natCast,List.append_assoc];simp
  rw [hm w (rest++[s]),hm w rest];cases hl:live w s with
  | none =>
    show _/\_/\(o8 (s6 w (rest++[s])) (rest.length:Int) 1).2=0/\(o8 (s6 w (rest++[s])) (rest.length:Int) 1).1=s6 w rest;have e:=km w [];rw [List.append_nil,List.append_nil,hm w rest,hl] at e;rw [e];exact ⟨rfl,rfl,rfl,rfl⟩
  | some n =>
    obtain ⟨X,L,x1,x2,x3,x4,x5,x6⟩:=h.local hw hl (ha n (by unfold notes; rw [hw,List.filterMap_cons,hl]; exact List.mem_cons_self));show _/\_/\(o8 (B9 (s6 w (rest++[s])) n) (rest.length:Int) 1).2=0/\(o8 (B9 (s6 w (rest++[s])) n) (rest.length:Int) 1).1=B9 (s6 w rest) n;rw [x1 (rest++[s]) (by rw [List.length_append]; simp only [List.length_singleton]; omega),x1 rest (by omega),km X L,hm X (rest++L),(zn x2 x3 x4).2,hl];exact ⟨rfl,rfl,rfl,x6 _⟩
theorem R2.HG {R:Nat->Int}:∀ (j k:Nat) {w:f8},R2 R w->V8 w<=j->V8 w<=k->D6 j w=D6 k w
  | 0,k,w,h,hj,hk=>by
    have:w.2.2.2.1.length=0:=by unfold V8 at hj; omega
    rw [zD (by omega),zD (by omega)]
  | j+1,0,w,h,hj,hk=>by
    have:w.2.2.2.1.length=0:=by unfold V8 at hk; omega
    rw [zD (by omega),zD (by omega)]
  | j+1,k+1,w,h,hj,hk=>by
    rw [D6,D6];cases hw:w.2.2.2.1 with
    | nil=>rw [if_pos (by simp),if_pos (by simp)]
    | cons s rest =>
      obtain ⟨g1,g2,g3⟩:=h.step hw;rw [if_neg (by rw [List.length_cons]; omega),if_neg (λ c=>c g2),if_neg (by rw [List.length_cons]; omega),if_neg (λ c=>c g2)];exact R2.HG j k g1 (by omega) (by omega)
structure Calm (c k:Nat) (w:f8):Prop where
  ok:∃ said B S Q,Ok c said w/\Inv said B S Q w/\R2 (λ p=>((S p).length:Int)) w
  Y1:w.2.2.2.1=[]
  cn:w.2.2.1.length<=k
theorem Calm.new {n:Int} (hn:1<=n/\n<=6):Calm 0 0 (W4 n):=by
  have ho:=MH hn;obtain ⟨B,S,Q,hI⟩:=ho.inv;refine ⟨⟨_,B,S,Q,ho,hI,?_⟩,rfl,Nat.le_refl _⟩;have hs:∀ p:Nat,p<n.toNat->S p=[]:=λ p hp=>by
    obtain ⟨-,e⟩:=hI.mem p (by show p<(List.replicate n.toNat g9).length; rw [List.length_replicate]; exact hp) (Yv hn p hp);exact (List.append_eq_nil_iff.1 e.symm).2
  have gm:∀ p:Nat,l4 (W4 n) p=true->p<n.toNat:=λ p hp=>by
    obtain ⟨h1,-⟩:=X4.1 hp;rw [<- List.length_replicate (n:=n.toNat) (a:=g9)]; exact h1
  have hg:∀ p:Nat,(W4 n).2.1.getD p g9=g9:=λ p=>JF;refine ⟨λ p hp=>?_,λ p hp=>?_,λ p _=>by rw [hg p]; decide,λ m hm=>(by cases hm),λ m hm=>(by cases hm),?_,by show 0+0<=_; omega,by show 0+0<=_; omega,λ p=>by have:=hI.short p; show ((S p).length:Int)<=_; omega,by show (0:Int)<=0/\(0:Int)<=_; omega,hI.J4⟩
  . rw [hg p]; exact ⟨rfl,rfl⟩
  . rw [hg p,hs p (gm p hp)]; exact ⟨rfl,rfl⟩
  . have:n=1\/n=2\/n=3\/n=4\/n=5\/n=6:=by omega
    rcases this with rfl|rfl|rfl|rfl|rfl|rfl<;>decide +kernel
theorem MB {p:Nat} {n:n9} (h:n.1=1):gS p n=decide (n.2.1=p):=by simp [gS,h]
theorem Calm.say {c k:Nat} {w:f8} (h:Calm c k w) (hk:k<=16777000) {p:Nat} {t:y7} (he:(J9 w p t).2=0) :
    ∃ said B S Q,Ok (c+16) said (J9 w p t).1/\Inv said B S Q (J9 w p t).1/\R2 (λ p=>((S p).length:Int)) (J9 w p t).1/\vN (J9 w p t).1/\V8 (J9 w p t).1<=7/\Cn (J9 w p t).1<=k+1:=by
  obtain ⟨said,B,S,Q,aK,hI,hF⟩:=h.ok;have hd:=BU aK (AY p t);rw [Nl] at hd;have gM:=hd.ok;rw [J9] at he gM ⊢;by_cases a:K8 w p≠0
  . rw [if_pos a] at he; exact absurd he a
  rw [if_neg a] at he gM ⊢;by_cases b:(150:Int)<t.length
  . rw [if_pos b] at he; exact absurd he (show ¬ (2:Int)=0 by decide)
  rw [if_neg b] at he gM ⊢;by_cases b2:(w.2.2.2.1.length:Int)=60
  . rw [if_pos b2] at he; exact absurd he (show ¬ (8:Int)=0 by decide)
  rw [if_neg b2] at he gM ⊢;by_cases b3:(K3 (I7 w p) t).2.1≠0
  . rw [if_pos b3] at he; exact absurd he b3
  rw [if_neg b3] at gM ⊢;have gm:=Le a;obtain ⟨bZ,mK,-⟩:=X4.1 gm;have qV:=hI.say bZ mK b3;refine ⟨_,B,vw S p (S p++[t]),Q,gM,?_,?_⟩
  . have:wg said (AY p t) 0=vw said p (said p++[t]):=by
      rw [wg,if_pos ⟨rfl,rfl⟩]; rfl
    rw [this]; exact qV
  obtain ⟨g1,g2,g3⟩:=Il b3;obtain ⟨⟨m,hm⟩,-⟩:=hI.mem p bZ mK;have hf:I7 w p=(((C8 p (Q.take m)).length:Int),(S p).drop (C8 p (Q.take m)).length,()):=hm.from_;have hle:(C8 p (Q.take m)).length<=(S p).length:=((yA (p:=p) (Q:=Q) (i:=m)).trans (hI.yW p)).length_le;have fa:(K3 (I7 w p) t).1.1+(K3 (I7 w p) t).1.2.1.length - 1=((S p).length:Int):=by
    rw [g1,hf];show ((C8 p (Q.take m)).length:Int)+(((S p).drop (C8 p (Q.take m)).length++[t]).length:Int) - 1=_;rw [List.length_append,List.length_drop]; simp only [List.length_singleton]; omega
  obtain ⟨u,hu⟩:∃ u,u=setFrom w p (K3 (I7 w p) t).1:=⟨_,rfl⟩;have u1:u.1=w.1:=by rw [hu]; rfl
  have u2:u.2.1=w.2.1.set p ((w.2.1.getD p g9).1,(w.2.1.getD p g9).2.1,(K3 (I7 w p) t).1,(w.2.1.getD p g9).2.2.2):=by rw [hu]; rfl
  have u3:u.2.2.1=w.2.2.1:=by rw [hu]; rfl
  have u4:u.2.2.2.1=[]:=by rw [hu]; exact h.Y1
  have u5:u.2.1.length=w.2.1.length:=by rw [u2,List.length_set]
  have u6:∀ i:Nat,(u.2.1.getD i g9).1=(w.2.1.getD i g9).1/\(u.2.1.getD i g9).2.2.2=(w.2.1.getD i g9).2.2.2:=λ i=>by
    rw [u2,L9]
    split
    . rename_i e; rw [<- e.1]; exact ⟨rfl,rfl⟩
    . exact ⟨rfl,rfl⟩
  obtain ⟨ua,ul⟩:=zn u1 u5 λ i=>(u6 i).1
  have us:s7 u=s7 w:=by unfold s7; rw [u1]
  have hS:(S p).length<16777215:=by
    have:=qV.short p;rw [yM,List.length_append] at this;simp only [List.length_singleton] at this; omega
  have h5:=Av hF.J4 gm;have h6:=Av hF.J4 hF.seq;have hc:F0 (1,(p:Int),s7 u,u.1.1,((S p).length:Int),[0,0,0,0,0,0],t,())=0:=JV (by decide) ⟨h5.1,h5.2.1⟩ (by rw [us]; exact ⟨h6.1,h6.2.1⟩) (by rw [u1]; exact hF.view) ⟨by omega,by omega⟩ (by omega);obtain ⟨N,hN⟩:∃ N:n9,N=(1,(p:Int),s7 u,u.1.1,((S p).length:Int),[0,0,0,0,0,0],t,()):=⟨_,rfl⟩;have sq:yk w p t (K3 (I7 w p) t).1=(u.1,u.2.1,u.2.2.1,[M7 N],()):=by
    unfold yk;rw [fa,<- hu];rw [QT hc (by rw [u4]; decide),u4,hN]; rfl
  have kZ:live u (M7 N)=some N:=by rw [hN]; exact Rp hc (by rw [ua,us]; exact hF.seq)
  rw [<- hN] at hc;show R2 _ (yk w p t (K3 (I7 w p) t).1)/\vN (yk w p t (K3 (I7 w p) t).1)/\V8 (yk w p t (K3 (I7 w p) t).1)<=7/\Cn (yk w p t (K3 (I7 w p) t).1)<=k+1;rw [sq];have lY:notes (u.1,u.2.1,u.2.2.1,[M7 N],())=[N]:=by
    show [M7 N].filterMap (live u)=_;rw [List.filterMap_cons,kZ]; rfl
  have n1:N.1=1:=by rw [hN]
  have n2:N.2.1=p:=by rw [hN]
  have n3:N.2.2.2.2.1=((S p).length:Int):=by rw [hN]
  have n4:N.2.2.2.2.2.2.1=t:=by rw [hN]
  have hex:ext N=6:=if_pos n1;have kv:=h.cn;refine ⟨hF.add (N:=[N]) h.Y1 u1 u5 u6 u3 lY (λ n hn=>?_) (λ q hq=>?_) ?_ ?_ (λ q=>?_),λ n hn=>?_,?_,?_⟩
  . rw [List.mem_singleton] at hn;rw [hn];exact ⟨by rw [n1]; decide,by rw [n2]; exact gm,λ _=>by rw [n4]; omega⟩
  . by_cases e:q=p
    . subst e;rw [QR (by rw [MB n1,n2]; exact decide_eq_true rfl) n3,yM,List.length_append]; rfl
    . rw [V5 (by rw [MB n1,n2]; exact decide_eq_false (by omega)),yF e]; rfl
  . rw [AL,if_pos n1,List.countP_nil]; omega
  . show 1+([N].map ext).sum<=60;rw [List.map_cons,List.sum_cons,hex]; decide
  . have:=qV.short q;show ((vw S p (S p++[t]) q).length:Int)<=_;omega
  . rw [lY,List.mem_singleton] at hn;rw [hn,n1]; decide
  . unfold V8;rw [lY];show 1+([N].map ext).sum<=7;rw [List.map_cons,List.sum_cons,hex]; decide
  . unfold Cn;rw [lY,AL,if_pos n1,List.countP_nil];show u.2.2.1.length+_<=_;rw [u3]; omega
theorem VC {w:f8} {p:Int} {t:y7} (he:(J9 w p t).2≠0):(J9 w p t).1=w:=by
  rw [J9] at he ⊢
  split
  . rfl
  . rename_i a;rw [if_neg a] at he
    split
    . rfl
    . rename_i b;rw [if_neg b] at he
      split
      . rfl
      . rename_i b2;rw [if_neg b2] at he
        split
        . rfl
        . rename_i b3;rw [if_neg b3] at he;exact absurd rfl he
theorem Ok.mono {c d:Nat} {said:Nat->List y7} {w:f8} (h:Ok c said w) (hd:c<=d):Ok d said w:=⟨h.mem,h.sz.mono hd,h.inv⟩
structure Mid (c k:Nat) (A v:f8):Prop where
  ok:∃ said B S Q,Ok c said v/\Inv said B S Q v/\R2 (λ p=>((S p).length:Int)) v
  ask:vN v
  phi:V8 v<=7
  cn:Cn v<=k
  fin:A=(D6 60 v).1
theorem Calm.start {c k:Nat} {w:f8} (h:Calm c k w) (hk:k<=16777000) {p:Nat} {t:y7}:Mid (c+16) (k+1) (D6 100 (J9 w p t).1).1 (J9 w p t).1/\(D6 100 (J9 w p t).1).2=true:=by
  by_cases he:(J9 w p t).2=0
  . obtain ⟨said,B,S,Q,h1,h2,h3,h4,h5,h6⟩:=h.say hk he;have h7:=h3.HG 100 60 (by omega) (by omega);exact ⟨⟨⟨said,B,S,Q,h1,h2,h3⟩,h4,h5,h6,by rw [h7]⟩,(h3.drain 100 (by omega)).1⟩
  . rw [VC he];obtain ⟨said,B,S,Q,h1,h2,h3⟩:=h.ok;obtain ⟨q1,-⟩:=h3.quiet h.Y1;have hl:(w.2.2.2.1.length:Int)=0:=by rw [h.Y1]; rfl
    rw [zD hl];have kv:=h.cn;refine ⟨⟨⟨said,B,S,Q,h1.mono (by omega),h2,h3⟩,λ n hn=>(by rw [q1] at hn; cases hn),?_,?_,by rw [zD hl]⟩,rfl⟩
    . unfold V8;rw [q1,h.Y1]; decide
    . unfold Cn;rw [q1,List.countP_nil]; omega
theorem Mid.step {c k:Nat} {A v:f8} (h:Mid c k A v) (hv:(v.2.2.2.1.length:Int)≠0) :
    ((o8 v 0 3).2=0/\(o8 (o8 v 0 3).1 0 1).2=0/\(o8 (o8 (o8 v 0 3).1 0 1).1 ((v.2.2.2.1.length:Int) - 1) 1).2=0)/\Mid (c+48) k A (o8 (o8 (o8 v 0 3).1 0 1).1 ((v.2.2.2.1.length:Int) - 1) 1).1 /\
    V8 (o8 (o8 (o8 v 0 3).1 0 1).1 ((v.2.2.2.1.length:Int) - 1) 1).1<V8 v/\(∃ said,Ok (c+48) said v)/\(∃ said,Ok (c+48) said (o8 v 0 3).1)/\(∃ said,Ok (c+48) said (o8 (o8 v 0 3).1 0 1).1):=by
  obtain ⟨said,B,S,Q,h1,h2,h3⟩:=h.ok;cases hw:v.2.2.2.1 with
  | nil=>rw [hw] at hv; exact absurd rfl hv
  | cons s rest =>
    have ie:=h.phi;have hlen:rest.length+1<=V8 v:=by
      unfold V8; rw [hw,List.length_cons]; omega
    obtain ⟨e1,e2,e3,e4⟩:=h3.UH h.ask hw (by omega);obtain ⟨g1,g2,g3⟩:=h3.step hw;obtain ⟨c1,c2⟩:=h3.cn hw;obtain ⟨Q',tV⟩:=h2.move 0 1;have kv:=h.cn;have hl:((s::rest).length:Int) - 1=(rest.length:Int):=by rw [List.length_cons]; omega
    rw [hl,e4];have o1:=h1.zV 0 3;have o2:=o1.zV 0 1;refine ⟨⟨e1,e2,e3⟩,⟨⟨said,B,S,Q',(h1.zV 0 1).mono (by omega),tV,g1⟩,c2 h.ask,by omega,by omega,?_⟩,g3,⟨said,h1.mono (by omega)⟩,⟨said,o1.mono (by omega)⟩,⟨said,o2.mono (by omega)⟩⟩;rw [h.fin,show (60:Nat)=59+1 from rfl,D6,if_neg (by rw [hw,List.length_cons]; omega),if_neg (λ c=>c g2)];rw [g1.HG 59 (59+1) (by omega) (by omega)]
theorem Mid.stop {c k:Nat} {A v:f8} (h:Mid c k A v) (hv:(v.2.2.2.1.length:Int)=0):A=v/\Calm c k v:=by
  have hw:v.2.2.2.1=[]:=List.eq_nil_of_length_eq_zero (by omega);have hf:=h.fin;rw [zD hv] at hf;refine ⟨hf,⟨h.ok,hw,?_⟩⟩;have:=h.cn;unfold Cn at this;omega
theorem Calm.mono {c d k:Nat} {w:f8} (h:Calm c k w) (hd:c<=d):Calm d k w:=by
  obtain ⟨said,B,S,Q,h1,h2,h3⟩:=h.ok;exact ⟨⟨said,B,S,Q,h1.mono hd,h2,h3⟩,h.Y1,h.cn⟩
attribute [local irreducible] Go.Ex.exec
def Gw:r9:={ ps:=[.v (.d8 false .str),.v (.d8 false .str)],rs:=[.bool],pre:=λ _=>True,fn:=λ x=>(decide ((show List yY from x.1)=(show List yY from x.2.1)),()),out:=λ _=>() }
noncomputable def Dy:Env:={ P:=Tryz.prog,tt:=tt,E4:=[],res:=[Go.ResultVar.tmp 4],rs:=[Ty.bool],ps:=[PK.v (Ty.d8 false Ty.str),PK.v (Ty.d8 false Ty.str)],D5:=[(4,[(0,none),(1,none),(12,none),(13,none)])],nt:=26 }
theorem Jj:C0 Dy:=C7 s9 trivial
theorem IP:D7 Dy Tryz.f22:=⟨rfl,rfl⟩
theorem UW (x0:List yY) (x1:List yY):exec Dy 1000 [.code (d9 Tryz.prog 22)] (y8 Gw.ps ((x0,x1,()))) =
  cond (decide ((↑(List.length x0):Int)≠(↑(List.length x1):Int))) (.ret ((false,()))) (.ctL (g8 (d9 Tryz.prog 22) 4) (St.mk [(0,AV.val (Ty.d8 false Ty.str) x0),(1,AV.val (Ty.d8 false Ty.str) x1),(12,AV.val f7 (↑(List.length x0):Int)),(13,AV.val f7 (0:Int))] [])):=by kernel_rfl
def Ph (v0:List yY) (v1:List yY) (v12:Int) (vd:Int):St:=St.mk [(0,AV.val (Ty.d8 false Ty.str) v0),(1,AV.val (Ty.d8 false Ty.str) v1),(12,AV.val f7 v12),(13,AV.val f7 vd)] []
theorem Xl (v0:List yY) (v1:List yY) (v12:Int) (vd:Int):exec Dy 1000 (.code (g8 (d9 Tryz.prog 22) 4).1::.inLoop (g8 (d9 Tryz.prog 22) 4).1::(g8 (d9 Tryz.prog 22) 4).2) (Ph v0 v1 v12 vd) =
  cond (decide (vd<v12)) (.f9 ((0:Int)<=vd/\vd<(↑(List.length v0):Int)) (.f9 ((0:Int)<=vd/\vd<(↑(List.length v1):Int)) (cond (decide (List.getD v0 (Int.toNat vd) []≠List.getD v1 (Int.toNat vd) [])) (.ret ((false,()))) (.f9 (u7 IntKind.i64 (vd+(1:Int))) (.ctL (g8 (d9 Tryz.prog 22) 4) (St.mk [(0,AV.val (Ty.d8 false Ty.str) v0),(1,AV.val (Ty.d8 false Ty.str) v1),(12,AV.val f7 v12),(13,AV.val f7 (vd+(1:Int)))] [])))))) (.ret ((true,()))):=by kernel_rfl
theorem b8y:Gw.Valid Tryz.prog 22:=by
  refine r9.r7 Jj rfl rfl Tryz.func22 (c:=d9 Tryz.prog 22) rfl rfl IP rfl ?_;rintro ⟨(l:List yY),(m:List yY),⟨⟩⟩ - ⟨⟨hl,-⟩,-⟩;have hl:l.length<=9223372036854775807:=hl;refine j8 (n:=1000) Jj IP ?_;refine i8 (UW l m) ?_;have fin:∀ {b:Bool},(b=true↔l=m)->((b,()):Bool×Unit)=(decide (l=m),()):=λ {b} h=>by
    cases b with
    | true=>rw [decide_eq_true (h.1 rfl)]
    | false=>rw [decide_eq_false (λ e=>by cases h.2 e)]
  simp only [j7,Tree.holds,sL];refine ⟨λ c=>fin ⟨λ h=>(by cases h),λ h=>absurd (congrArg (λ q:List yY=>(q.length:Int)) h) c⟩,λ c=>?_⟩;refine Reach.O8 Jj IP (λ i:Nat=>Ph l m (l.length:Int) (i:Int)) (λ i=>i<=l.length/\∀ j,j<i->l.getD j []=m.getD j [])
    (λ i=>l.length - i) 1000 (λ _=>⟨y6 rfl,y6 rfl⟩) ?_ 0 ⟨Nat.zero_le _,λ j hj=>by omega⟩
  rintro i ⟨k1,k2⟩ - ih;refine i8 (Xl ..) ?_;have c:l.length=m.length:=by omega
  simp only [j7,Tree.holds,sL];refine ⟨λ d1=>⟨by omega,λ _=>⟨by omega,λ _=>⟨λ d2=>fin ⟨λ h=>(by cases h),λ h=>absurd (congrArg (λ q:List yY=>q.getD i []) h) (d2)⟩,λ d2=>⟨by omega,λ _=>ih (i+1) ⟨by omega,λ j hj=>?_⟩ (by omega)⟩⟩⟩⟩,λ d1=>fin ⟨λ _=>eq_of_getD c (λ j hj=>k2 j (by omega)),λ _=>rfl⟩⟩;rcases Nat.lt_or_ge j i with h|h
  . exact k2 j h
  . obtain rfl:j=i:=by omega
    exact Decidable.not_not.1 d2
theorem Zz {n:Int} {l:List y7} (hp:Aa [f7,.d8 false .str] (n,l,())<=1048576):l.length<=1048576:=by
  have h2:=RC (f:=Ty.V7 .str) (λ x=>Nat.le_add_left 1 x.length) l;have h1:Ty.V7 f7 n+((Z2 (Ty.V7 .str) l+1)+0)<=1048576:=hp;omega
def Tj:r9:=Na [f7,.d8 false .str]
noncomputable def xK:Env:={ P:=Tryz.prog,tt:=tt,E4:=[(12,IB),(13,FN),(14,DM),(15,Ds),(16,BJ),(17,Dw),(18,Bk),(19,Dd),(20,GB),(21,DI),(22,Gw)],res:=[Go.ResultVar.tmp 4],rs:=[Ty.bool],ps:=[PK.v f7,PK.v (Ty.d8 false Ty.str)],D5:=[(9,[(0,none),(5,none),(7,none),(41,none),(42,none),(43,none)]),(16,[(0,none),(5,none),(7,none),(41,none),(42,none),(43,none),(64,none)]),(24,[(5,none),(7,none),(88,none),(89,none)])],nt:=130 }
theorem CK:C0 xK:=C7 s9 ⟨b4R,ZU,Tp,RV,TC,RZ,KW,Ss,b8r,Tm,b8y,trivial⟩
theorem CC:D7 xK Tryz.f3:=⟨rfl,rfl⟩
theorem XH (x0:Int) (x1:List yY):exec xK 1000 [.code (d9 Tryz.prog 3)] (y8 Tj.ps ((x0,x1,()))) =
  .f9 (True) (.f9 (True) (.f9 ((1:Int)<=J4 x0/\J4 x0<=(6:Int)) (.f9 ((1:Int)<=J4 x0/\J4 x0<=(6:Int)) (.ctL (g8 (d9 Tryz.prog 3) 9) (St.mk [(0,AV.val f7 (J4 x0)),(5,AV.ptr 1027 []),(7,AV.ptr 1032 []),(41,AV.val (Ty.d8 false Ty.str) x1),(42,AV.val f7 (↑(List.length x1):Int)),(43,AV.val f7 (0:Int))] [(1027,i7.var r8 (((0:Int),yj (J4 x0),()),List.replicate (Int.toNat (J4 x0)) g9,[],[],())),(1032,i7.var r8 (((0:Int),yj (J4 x0),()),List.replicate (Int.toNat (J4 x0)) g9,[],[],()))]))))):=by kernel_rfl
def JW (v0:Int) (vl:List yY) (wk:Int) (va:Int) (aR:Int) (aF:Int) (aM:List (Bool×List (Int×yY×Unit)×(Int×List yY×Unit)×(Int×List (Int×yY×Unit)×Unit)×(Int×List (Int×yY×Unit)×Unit)×Unit)) (aE:List yY) (aA:List yY) (aJ:Int) (aC:Int) (aG:List (Bool×List (Int×yY×Unit)×(Int×List yY×Unit)×(Int×List (Int×yY×Unit)×Unit)×(Int×List (Int×yY×Unit)×Unit)×Unit)) (aB:List yY) (ao:List yY):St:=St.mk [(0,AV.val f7 v0),(5,AV.ptr 1027 []),(7,AV.ptr 1032 []),(41,AV.val (Ty.d8 false Ty.str) vl),(42,AV.val f7 wk),(43,AV.val f7 va)] [(1027,i7.var r8 ((aR,aF,()),aM,aE,aA,())),(1032,i7.var r8 ((aJ,aC,()),aG,aB,ao,()))]
theorem Zi (v0:Int) (vl:List yY) (wk:Int) (va:Int) (aR:Int) (aF:Int) (aM:List (Bool×List (Int×yY×Unit)×(Int×List yY×Unit)×(Int×List (Int×yY×Unit)×Unit)×(Int×List (Int×yY×Unit)×Unit)×Unit)) (aE:List yY) (aA:List yY) (aJ:Int) (aC:Int) (aG:List (Bool×List (Int×yY×Unit)×(Int×List yY×Unit)×(Int×List (Int×yY×Unit)×Unit)×(Int×List (Int×yY×Unit)×Unit)×Unit)) (aB:List yY) (ao:List yY):exec xK 1000 (.code (g8 (d9 Tryz.prog 3) 9).1::.inLoop (g8 (d9 Tryz.prog 3) 9).1::(g8 (d9 Tryz.prog 3) 9).2) (JW v0 vl wk va aR aF aM aE aA aJ aC aG aB ao) =
  cond (decide (va<wk)) (.f9 ((0:Int)<=va/\va<(↑(List.length vl):Int)) (.f9 ((0:Int)<v0) (.f9 (List.length aM<=6) (.f9 ((0:Int)<v0) (.f9 (List.length aG<=6) (cond (decide (Prod.snd (J9 ((aR,aF,()),aM,aE,aA,()) (Int.tmod va v0) (List.getD vl (Int.toNat va) []))≠Prod.snd (J9 ((aJ,aC,()),aG,aB,ao,()) (Int.tmod va v0) (List.getD vl (Int.toNat va) [])))) (.ret ((false,()))) (.f9 (Fit (100:Int) (Prod.fst (J9 ((aR,aF,()),aM,aE,aA,()) (Int.tmod va v0) (List.getD vl (Int.toNat va) [])))) (cond (!Prod.snd (Subtype.val wK (Int.toNat (100:Int)) (Prod.fst (J9 ((aR,aF,()),aM,aE,aA,()) (Int.tmod va v0) (List.getD vl (Int.toNat va) []))))) (.ret ((false,()))) (.ctL (g8 (d9 Tryz.prog 3) 16) (St.mk [(0,AV.val f7 v0),(5,AV.ptr 1027 []),(7,AV.ptr 1032 []),(41,AV.val (Ty.d8 false Ty.str) vl),(42,AV.val f7 wk),(43,AV.val f7 va),(64,AV.val f7 (0:Int))] [(1027,i7.var r8 (Prod.fst (Subtype.val wK (Int.toNat (100:Int)) (Prod.fst (J9 ((aR,aF,()),aM,aE,aA,()) (Int.tmod va v0) (List.getD vl (Int.toNat va) [])))))),(1032,i7.var r8 (Prod.fst (J9 ((aJ,aC,()),aG,aB,ao,()) (Int.tmod va v0) (List.getD vl (Int.toNat va) []))))])))))))))) (.ctL (g8 (d9 Tryz.prog 3) 24) (St.mk [(5,AV.ptr 1027 []),(7,AV.ptr 1032 []),(88,AV.val f7 v0),(89,AV.val f7 (0:Int))] [(1027,i7.var r8 ((aR,aF,()),aM,aE,aA,())),(1032,i7.var r8 ((aJ,aC,()),aG,aB,ao,()))])):=by kernel_rfl
def Lf (v0:Int) (vl:List yY) (wk:Int) (va:Int) (zF:Int) (aR:Int) (aF:Int) (aM:List (Bool×List (Int×yY×Unit)×(Int×List yY×Unit)×(Int×List (Int×yY×Unit)×Unit)×(Int×List (Int×yY×Unit)×Unit)×Unit)) (aE:List yY) (aA:List yY) (aJ:Int) (aC:Int) (aG:List (Bool×List (Int×yY×Unit)×(Int×List yY×Unit)×(Int×List (Int×yY×Unit)×Unit)×(Int×List (Int×yY×Unit)×Unit)×Unit)) (aB:List yY) (ao:List yY):St:=St.mk [(0,AV.val f7 v0),(5,AV.ptr 1027 []),(7,AV.ptr 1032 []),(41,AV.val (Ty.d8 false Ty.str) vl),(42,AV.val f7 wk),(43,AV.val f7 va),(64,AV.val f7 zF)] [(1027,i7.var r8 ((aR,aF,()),aM,aE,aA,())),(1032,i7.var r8 ((aJ,aC,()),aG,aB,ao,()))]
theorem b8T (v0:Int) (vl:List yY) (wk:Int) (va:Int) (zF:Int) (aR:Int) (aF:Int) (aM:List (Bool×List (Int×yY×Unit)×(Int×List yY×Unit)×(Int×List (Int×yY×Unit)×Unit)×(Int×List (Int×yY×Unit)×Unit)×Unit)) (aE:List yY) (aA:List yY) (aJ:Int) (aC:Int) (aG:List (Bool×List (Int×yY×Unit)×(Int×List yY×Unit)×(Int×List (Int×yY×Unit)×Unit)×(Int×List (Int×yY×Unit)×Unit)×Unit)) (aB:List yY) (ao:List yY):exec xK 1000 (.code (g8 (d9 Tryz.prog 3) 16).1::.inLoop (g8 (d9 Tryz.prog 3) 16).1::(g8 (d9 Tryz.prog 3) 16).2) (Lf v0 vl wk va zF aR aF aM aE aA aJ aC aG aB ao) =
  cond (decide (zF<(200:Int))) (.f9 (True) (cond (decide ((↑(List.length ao):Int)=(0:Int))) (.f9 (u7 IntKind.i64 (va+(1:Int))) (.ctL (g8 (d9 Tryz.prog 3) 9) (St.mk [(0,AV.val f7 v0),(5,AV.ptr 1027 []),(7,AV.ptr 1032 []),(41,AV.val (Ty.d8 false Ty.str) vl),(42,AV.val f7 wk),(43,AV.val f7 (va+(1:Int)))] [(1027,i7.var r8 ((aR,aF,()),aM,aE,aA,())),(1032,i7.var r8 ((aJ,aC,()),aG,aB,ao,()))]))) (.f9 (True) (.f9 (yy ((aJ,aC,()),aG,aB,ao,())) (cond (decide (Prod.snd (o8 ((aJ,aC,()),aG,aB,ao,()) (0:Int) (3:Int))≠(0:Int))) (.ret ((false,()))) (.f9 (yy (Prod.fst (o8 ((aJ,aC,()),aG,aB,ao,()) (0:Int) (3:Int)))) (cond (decide (Prod.snd (o8 (Prod.fst (o8 ((aJ,aC,()),aG,aB,ao,()) (0:Int) (3:Int))) (0:Int) (1:Int))≠(0:Int))) (.ret ((false,()))) (.f9 (u7 IntKind.i64 ((↑(List.length ao):Int) - (1:Int))) (.f9 (yy (Prod.fst (o8 (Prod.fst (o8 ((aJ,aC,()),aG,aB,ao,()) (0:Int) (3:Int))) (0:Int) (1:Int)))) (cond (decide (Prod.snd (o8 (Prod.fst (o8 (Prod.fst (o8 ((aJ,aC,()),aG,aB,ao,()) (0:Int) (3:Int))) (0:Int) (1:Int))) ((↑(List.length ao):Int) - (1:Int)) (1:Int))≠(0:Int))) (.ret ((false,()))) (.f9 (u7 IntKind.i64 (zF+(1:Int))) (.ctL (g8 (d9 Tryz.prog 3) 16) (St.mk [(0,AV.val f7 v0),(5,AV.ptr 1027 []),(7,AV.ptr 1032 []),(41,AV.val (Ty.d8 false Ty.str) vl),(42,AV.val f7 wk),(43,AV.val f7 va),(64,AV.val f7 (zF+(1:Int)))] [(1027,i7.var r8 ((aR,aF,()),aM,aE,aA,())),(1032,i7.var r8 (Prod.fst (o8 (Prod.fst (o8 (Prod.fst (o8 ((aJ,aC,()),aG,aB,ao,()) (0:Int) (3:Int))) (0:Int) (1:Int))) ((↑(List.length ao):Int) - (1:Int)) (1:Int))))]))))))))))))) (.f9 (u7 IntKind.i64 (va+(1:Int))) (.ctL (g8 (d9 Tryz.prog 3) 9) (St.mk [(0,AV.val f7 v0),(5,AV.ptr 1027 []),(7,AV.ptr 1032 []),(41,AV.val (Ty.d8 false Ty.str) vl),(42,AV.val f7 wk),(43,AV.val f7 (va+(1:Int)))] [(1027,i7.var r8 ((aR,aF,()),aM,aE,aA,())),(1032,i7.var r8 ((aJ,aC,()),aG,aB,ao,()))]))):=by kernel_rfl
def Lg (vp:Int) (vD:Int) (aR:Int) (aF:Int) (aM:List (Bool×List (Int×yY×Unit)×(Int×List yY×Unit)×(Int×List (Int×yY×Unit)×Unit)×(Int×List (Int×yY×Unit)×Unit)×Unit)) (aE:List yY) (aA:List yY) (aJ:Int) (aC:Int) (aG:List (Bool×List (Int×yY×Unit)×(Int×List yY×Unit)×(Int×List (Int×yY×Unit)×Unit)×(Int×List (Int×yY×Unit)×Unit)×Unit)) (aB:List yY) (ao:List yY):St:=St.mk [(5,AV.ptr 1027 []),(7,AV.ptr 1032 []),(88,AV.val f7 vp),(89,AV.val f7 vD)] [(1027,i7.var r8 ((aR,aF,()),aM,aE,aA,())),(1032,i7.var r8 ((aJ,aC,()),aG,aB,ao,()))]
theorem b8S (vp:Int) (vD:Int) (aR:Int) (aF:Int) (aM:List (Bool×List (Int×yY×Unit)×(Int×List yY×Unit)×(Int×List (Int×yY×Unit)×Unit)×(Int×List (Int×yY×Unit)×Unit)×Unit)) (aE:List yY) (aA:List yY) (aJ:Int) (aC:Int) (aG:List (Bool×List (Int×yY×Unit)×(Int×List yY×Unit)×(Int×List (Int×yY×Unit)×Unit)×(Int×List (Int×yY×Unit)×Unit)×Unit)) (aB:List yY) (ao:List yY):exec xK 1000 (.code (g8 (d9 Tryz.prog 3) 24).1::.inLoop (g8 (d9 Tryz.prog 3) 24).1::(g8 (d9 Tryz.prog 3) 24).2) (Lg vp vD aR aF aM aE aA aJ aC aG aB ao) =
  cond (decide (vD<vp)) (.f9 (List.length aM<=6/\List.length (xF ((aR,aF,()),aM,aE,aA,()) vD)<=5864062014805) (.f9 (List.length aG<=6/\List.length (xF ((aJ,aC,()),aG,aB,ao,()) vD)<=5864062014805) (.f9 (List.length aM<=6/\List.length (Prod.fst (Prod.snd (I7 ((aR,aF,()),aM,aE,aA,()) vD)))<=1048576) (.f9 (List.length aG<=6/\List.length (Prod.fst (Prod.snd (I7 ((aJ,aC,()),aG,aB,ao,()) vD)))<=1048576) (.f9 (True) (cond (!decide (Prod.fst (wD ((aR,aF,()),aM,aE,aA,()) vD)=Prod.fst (wD ((aJ,aC,()),aG,aB,ao,()) vD))) (.ret ((false,()))) (.f9 (True) (cond (!decide (Prod.fst (zU ((aR,aF,()),aM,aE,aA,()) vD)=Prod.fst (zU ((aJ,aC,()),aG,aB,ao,()) vD))) (.ret ((false,()))) (.f9 (u7 IntKind.i64 (vD+(1:Int))) (.ctL (g8 (d9 Tryz.prog 3) 24) (St.mk [(5,AV.ptr 1027 []),(7,AV.ptr 1032 []),(88,AV.val f7 vp),(89,AV.val f7 (vD+(1:Int)))] [(1027,i7.var r8 ((aR,aF,()),aM,aE,aA,())),(1032,i7.var r8 ((aJ,aC,()),aG,aB,ao,()))]))))))))))) (.f9 (True) (.ret ((decide ((↑(List.length ao):Int)=(0:Int)),())))):=by kernel_rfl
attribute [local irreducible] J9 o8 wD zU in
theorem a9f:Tj.Valid Tryz.prog 3:=by
  refine r9.r7 CK rfl rfl Tryz.func3 (c:=d9 Tryz.prog 3) rfl rfl CC rfl ?_;rintro ⟨(n0:Int),(l:List y7),⟨⟩⟩ hs -
  have hl:l.length<=1048576:=Zz hs;refine j8 (n:=1000) CK CC ?_;refine i8 (XH n0 l) ?_;have hn:=MV n0;obtain ⟨n,jD⟩:∃ n,n=J4 n0:=⟨_,rfl⟩;rw [<- jD] at hn ⊢;simp only [j7,Tree.holds,sL];refine ⟨hn,λ _=>⟨hn,λ _=>?_⟩⟩;suffices go:Go.Ex.Reach xK Tryz.f3 (true,()) () (.code (g8 (d9 Tryz.prog 3) 9).1::.inLoop (g8 (d9 Tryz.prog 3) 9).1::(g8 (d9 Tryz.prog 3) 9).2) (JW n l (l.length:Int) ((0:Nat):Int) (W4 n).1.1 (W4 n).1.2.1 (W4 n).2.1 (W4 n).2.2.1 (W4 n).2.2.2.1 (W4 n).1.1 (W4 n).1.2.1 (W4 n).2.1 (W4 n).2.2.1 (W4 n).2.2.2.1) by exact go
  refine Reach.O8 CK CC (λ i:Nat×f8=>JW n l (l.length:Int) (i.1:Int) i.2.1.1 i.2.1.2.1 i.2.2.1 i.2.2.2.1 i.2.2.2.2.1 i.2.1.1 i.2.1.2.1 i.2.2.1 i.2.2.2.1 i.2.2.2.2.1) (λ i=>i.1<=l.length/\Calm (400*i.1) i.1 i.2/\i.2.2.1.length=n.toNat) (λ i=>l.length - i.1) 1000 (λ _=>⟨y6 rfl,y6 rfl⟩) ?_ (0,W4 n) ⟨Nat.zero_le _,Calm.new hn,List.length_replicate ..⟩;rintro ⟨i,w⟩ ⟨k1,k2,k3⟩ - ih;have k1:i<=l.length:=k1;have k2:Calm (400*i) i w:=k2;have k3:w.2.1.length=n.toNat:=k3;refine i8 (Zi ..) ?_;have e1:((i:Nat):Int)+1=((i+1:Nat):Int):=by omega
  by_cases hi:i<l.length
  . obtain ⟨p,hp⟩:∃ p:Nat,Int.tmod (i:Int) n=p:=⟨(Int.tmod (i:Int) n).toNat,by have:=Int.tmod_nonneg n (show (0:Int)<=i by omega); omega⟩;obtain ⟨t,ht⟩:∃ t,t=l.getD i []:=⟨_,rfl⟩;obtain ⟨m0,d0⟩:=k2.start (p:=p) (t:=t) (by omega);have hlen:(J9 w p t).1.2.1.length=n.toNat:=(Kp w p t).len.trans k3;obtain ⟨u,hu⟩:∃ u,u=(J9 w p t).1:=⟨_,rfl⟩;obtain ⟨A,hA⟩:∃ A,A=(D6 100 u).1:=⟨_,rfl⟩;have qh:Fit 100 u:=by
      obtain ⟨said,B,S,Q,o1,-,-⟩:=m0.ok;rw [<- hu] at o1;exact ⟨⟨by decide,by decide⟩,_,said,o1,by omega⟩
    rw [<- hu] at m0 d0 hlen;rw [<- hA] at m0;have inner:Go.Ex.Reach xK Tryz.f3 (true,()) () (.code (g8 (d9 Tryz.prog 3) 16).1::.inLoop (g8 (d9 Tryz.prog 3) 16).1::(g8 (d9 Tryz.prog 3) 16).2) (Lf n l (l.length:Int) (i:Int) ((0:Nat):Int) A.1.1 A.1.2.1 A.2.1 A.2.2.1 A.2.2.2.1 u.1.1 u.1.2.1 u.2.1 u.2.2.1 u.2.2.2.1):=by
      refine Reach.O8 CK CC (λ k:Nat×f8=>Lf n l (l.length:Int) (i:Int) (k.1:Int) A.1.1 A.1.2.1 A.2.1 A.2.2.1 A.2.2.2.1 k.2.1.1 k.2.1.2.1 k.2.2.1 k.2.2.2.1 k.2.2.2.2.1) (λ k=>k.1+V8 k.2<=7/\Mid (400*i+16+48*k.1) (i+1) A k.2/\k.2.2.1.length=n.toNat) (λ k=>200 - k.1) 1000 (λ _=>⟨y6 rfl,y6 rfl⟩) ?_ (0,u) ⟨by show 0+V8 u<=7; have:=m0.phi; omega,m0,hlen⟩;rintro ⟨k,v⟩ ⟨m1,m2,m3⟩ - ih2;have m1:k+V8 v<=7:=m1;have m2:Mid (400*i+16+48*k) (i+1) A v:=m2;have m3:v.2.1.length=n.toNat:=m3;refine i8 (b8T ..) ?_;have e2:((k:Nat):Int)+1=((k+1:Nat):Int):=by omega
      by_cases hv:(v.2.2.2.1.length:Int)=0
      . obtain ⟨f1,f2⟩:=m2.stop hv;have ih3:=ih (i+1,v) ⟨by show i+1<=l.length; omega,f2.mono (by show 400*i+16+48*k<=400*(i+1); omega),m3⟩ (by show l.length - (i+1)<l.length - i; omega);rw [f1];simp only [j7,Tree.holds,e1,sL];exact ⟨λ _=>⟨λ _=>⟨G9.2 ⟨by omega,by omega⟩,λ _=>ih3⟩,λ c=>absurd hv c⟩,λ c=>absurd (by omega) c⟩
      . obtain ⟨⟨r1,r2,r3⟩,r4,r5,⟨s1,o1⟩,⟨s2,o2⟩,⟨s3,o3⟩⟩:=m2.step hv;have m4:(o8 (o8 (o8 v 0 3).1 0 1).1 ((v.2.2.2.1.length:Int) - 1) 1).1.2.1.length=n.toNat:=((((CI _ _ _).len.trans (CI _ _ _).len).trans (CI _ _ _).len)).trans m3;have ih3:=ih2 (k+1,(o8 (o8 (o8 v 0 3).1 0 1).1 ((v.2.2.2.1.length:Int) - 1) 1).1) ⟨by show k+1+V8 (o8 (o8 (o8 v 0 3).1 0 1).1 ((v.2.2.2.1.length:Int) - 1) 1).1<=7; omega,by show Mid (400*i+16+48*(k+1)) _ _ _; rw [show 400*i+16+48*(k+1)=400*i+16+48*k+48 by omega]; exact r4,m4⟩ (by show 200 - (k+1)<200 - k; omega);have g1:=(o1.yc (by omega)).move;have g2:=(o2.yc (by omega)).move;have g3:=(o3.yc (by omega)).move;have mv:=g1.Y1;obtain ⟨⟨v0,v1,⟨⟩⟩,val,vod,vwy,⟨⟩⟩:=v;have hv:¬ (vwy.length:Int)=0:=hv;have r1:(o8 ((v0,v1,()),val,vod,vwy,()) 0 3).2=0:=r1;have r2:(o8 (o8 ((v0,v1,()),val,vod,vwy,()) 0 3).1 0 1).2=0:=r2;have r3:(o8 (o8 (o8 ((v0,v1,()),val,vod,vwy,()) 0 3).1 0 1).1 ((vwy.length:Int) - 1) 1).2=0:=r3;have mv:vwy.length<=60:=mv;simp only [j7,Tree.holds,e2,r1,r2,r3,sL];exact ⟨λ _=>⟨λ c=>absurd c hv,λ _=>⟨g1,λ _=>⟨λ c=>absurd rfl c,λ _=>⟨g2,λ _=>⟨λ c=>absurd rfl c,λ _=>⟨G9.2 ⟨by omega,by omega⟩,λ _=>⟨g3,λ _=>⟨λ c=>absurd rfl c,λ _=>⟨G9.2 ⟨by omega,by omega⟩,λ _=>ih3⟩⟩⟩⟩⟩⟩⟩⟩⟩,λ c=>absurd (by omega) c⟩
    have ly:w.2.1.length<=6:=by omega
    have sj:(J9 ((w.1.1,w.1.2.1,()),w.2.1,w.2.2.1,w.2.2.2.1,()) (p:Int) t).1=u:=hu.symm;have d0:(D6 (Int.toNat 100) u).2=true:=d0;have hA:A=(D6 (Int.toNat 100) u).1:=hA;rw [wK.2];simp only [j7,Tree.holds,hp,<- ht,sj,d0,<- hA,sL];exact ⟨λ _=>⟨⟨by omega,by omega⟩,λ _=>⟨by omega,λ _=>⟨ly,λ _=>⟨by omega,λ _=>⟨ly,λ _=>⟨λ c=>absurd rfl c,λ _=>⟨qh,λ _=>⟨λ c=>(by cases c),inner⟩⟩⟩⟩⟩⟩⟩⟩,λ c=>absurd (by omega) c⟩
  obtain rfl:i=l.length:=by omega
  clear ih;simp only [j7,Tree.holds,sL];refine ⟨λ c=>absurd c (by omega),λ _=>?_⟩;suffices go:Go.Ex.Reach xK Tryz.f3 (true,()) () (.code (g8 (d9 Tryz.prog 3) 24).1::.inLoop (g8 (d9 Tryz.prog 3) 24).1::(g8 (d9 Tryz.prog 3) 24).2) (Lg n ((0:Nat):Int) w.1.1 w.1.2.1 w.2.1 w.2.2.1 w.2.2.2.1 w.1.1 w.1.2.1 w.2.1 w.2.2.1 w.2.2.2.1) by exact go
  refine Reach.O8 CK CC (λ p:Nat=>Lg n (p:Int) w.1.1 w.1.2.1 w.2.1 w.2.2.1 w.2.2.2.1 w.1.1 w.1.2.1 w.2.1 w.2.2.1 w.2.2.2.1) (λ p=>p<=n.toNat) (λ p=>n.toNat - p) 1000 (λ _=>⟨y6 rfl,y6 rfl⟩) ?_ 0 (Nat.zero_le _);rintro p m1 - ih;have m1:p<=n.toNat:=m1;refine i8 (b8S ..) ?_;have e1:((p:Nat):Int)+1=((p+1:Nat):Int):=by omega
  have mr:=k2.Y1;obtain ⟨said,B,S,Q,o1,-,-⟩:=k2.ok;by_cases hp:p<n.toNat
  . have h1:w.2.1.length<=6/\(xF w (p:Int)).length<=5864062014805:=⟨o1.J4,Nat.le_trans (o1.sz.log p) (by omega)⟩;have h2:w.2.1.length<=6/\(I7 w (p:Int)).2.1.length<=1048576:=⟨o1.J4,Nat.le_trans (o1.sz.late p) (by omega)⟩;have ih3:=ih (p+1) (by show p+1<=n.toNat; omega) (by show n.toNat - (p+1)<n.toNat - p; omega);simp only [j7,Tree.holds,e1,sL];exact ⟨λ _=>⟨h1,λ _=>⟨h1,λ _=>⟨h2,λ _=>⟨h2,λ _=>⟨λ c=>absurd trivial c,⟨λ c=>absurd trivial c, ⟨G9.2 ⟨by omega,by omega⟩,λ _=>ih3⟩⟩⟩⟩⟩⟩⟩,λ c=>absurd (by omega) c⟩
  . have og:(w.2.2.2.1.length:Int)=0:=by rw [mr]; rfl
    simp only [j7,Tree.holds,og,sL];exact ⟨λ c=>absurd c (by omega),λ _=>rfl⟩
end Go.Proofs.YtijlnmgondibnaaGreatDoor
