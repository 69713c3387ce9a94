import Derived.Test.YtijlnmgondibnaaGreatDoorJ2
import Derived.Test.YtijlnmgondibnaaGreatDoorJ1
set_option linter.unusedVariables false
set_option linter.unusedSimpArgs false
set_option linter.unusedSectionVars false
namespace Go.Proofs.YtijlnmgondibnaaGreatDoor
open Go.Ex
set_option maxRecDepth 100000
theorem OP {b:Int} {l:List C9} (h1:0<=b/\b<=16777215) (h2:l.length<=16) (h3:l.any D9=false):H7 (b,l,())=0:=by
  unfold H7;rw [if_neg (by rw [xk.2 h1]; decide),if_neg (by show ¬ (16:Int)<(l.length:Int); omega),if_neg (by rw [h3]; decide)]
theorem OS {l:List C9} {k:Nat} (h:l.any D9=false):(l.drop k).any D9=false:=by
  rw [List.any_eq_false] at h ⊢;exact λ x hx=>h x (List.mem_of_mem_drop hx)
theorem UC {k:Nat} {l:List C9} (h:H7 ((k:Int),l,())=0) (hl:1<=l.length) (hb:k+l.length<=16777215) :
    Q4 ((k:Int),l,()) ((k:Int)+1)=((((k+1:Nat):Int),l.drop 1,()),0,())/\H7 (((k+1:Nat):Int),l.drop 1,())=0:=by
  have aL:=xr h;have ha:ahd (k:Int) ((k:Int)+1)=1:=by unfold ahd; rw [if_neg (by omega)]; omega
  constructor
  . unfold Q4;rw [if_neg (by rw [h]; decide),if_neg (by show ¬ (k:Int)+(l.length:Int)<(k:Int)+1; omega)];simp only;rw [ha];rfl
  . exact OP ⟨by omega,by omega⟩ (by rw [List.length_drop]; have:=aL.2.1; simp only at this; omega) (OS aL.2.2)
section
variable {said:Nat->List C9} {B:List C4} {S:Nat->List C9} {Q:List U7} {w:f9}
structure Av (B:List C4) (S:Nat->List C9) (Q:List U7) (p m:Nat) (x:n6):Prop where
  log:x.2.1=B++(Q.take m).map a31
  from_:x.2.2.1=(((B9 p (Q.take m)).length:Int),(S p).drop (B9 p (Q.take m)).length,())
  ok:H7 x.2.2.1=0
theorem c0l {p m q:Nat} {x:n6} {s:C9} (h:Av B S Q p m x) (hQ:Q[m]?=some (q,s)) (hq:q<=5) (aV:∀ p,B9 p Q <+: S p) (cj:∀ p,(S p).length<=16777215) :
    Av B S Q p (m+1) (vL p x (I5 q (B9 q (Q.take m)).length s))/\(vL p x (I5 q (B9 q (Q.take m)).length s)).2.2.2=x.2.2.2/\(vL p x (I5 q (B9 q (Q.take m)).length s)).1=x.1:=by
  have hm:m<Q.length:=by
    by_cases hm:m<Q.length
    . exact hm
    . rw [List.getElem?_eq_none (by omega)] at hQ; cases hQ
  have eH:Q.take (m+1)=Q.take m++[(q,s)]:=by
    rw [List.take_add_one,hQ]; rfl
  have pO:∀ p,(B9 p (Q.take (m+1))).length<=(S p).length:=λ p=>((xu (p:=p) (Q:=Q) (i:=m+1)).trans (aV p)).length_le;have hk:(B9 q (Q.take m)).length<=16777300:=by
    have h1:=((xu (p:=q) (Q:=Q) (i:=m)).trans (aV q)).length_le;have:=cj q;omega
  have hw:who (I5 q (B9 q (Q.take m)).length s)=q:=XU hq;have hn:nth (I5 q (B9 q (Q.take m)).length s)=(B9 q (Q.take m)).length:=Pc hk;have ht:wH (I5 q (B9 q (Q.take m)).length s)=s:=YG;have jr:x.2.1++[((q:Int),s,())]=B++(Q.take (m+1)).map a31:=by
    rw [h.log,eH,List.map_append,List.append_assoc]; rfl
  by_cases e:q=p
  . subst e;have hc:=pO q;rw [eH,yb] at hc;have h1:B9 q [(q,s)]=[s]:=by simp [B9]
    rw [h1,List.length_append] at hc;simp only [List.length_singleton] at hc;have aL:=h.ok;rw [h.from_] at aL;obtain ⟨g1,g2⟩:=UC aL (by rw [List.length_drop]; omega) (by rw [List.length_drop]; have:=cj q; omega);have hl:Q4 x.2.2.1 (nth (I5 q (B9 q (Q.take m)).length s)+1)=(((((B9 q (Q.take m)).length+1:Nat):Int),((S q).drop (B9 q (Q.take m)).length).drop 1,()),0,()):=by
      rw [h.from_,hn]; exact g1
    rw [Jo hw (by rw [hl]),hl,hw,ht];refine ⟨⟨jr,?_,g2⟩,rfl,rfl⟩;show (((((B9 q (Q.take m)).length+1:Nat):Int),((S q).drop (B9 q (Q.take m)).length).drop 1,()):FrD)=_;rw [eH,yb,h1,List.length_append,List.drop_drop]; rfl
  . rw [DN (λ c=>e (by have:=c.1; rw [hw] at this; exact_mod_cast this)),hw,ht];refine ⟨⟨jr,?_,h.ok⟩,rfl,rfl⟩;have h1:B9 p [(q,s)]=[]:=by simp [B9,e]
    rw [eH,yb,h1,List.append_nil];exact h.from_
theorem QH {p m:Nat} {x:n6} {l:List C9} (h:Av B S Q p m x) (hl:∀ i,i<l.length->(N5 Q)[m+i]?=l[i]?) (hq:∀ y∈Q,y.1<=5) (aV:∀ p,B9 p Q <+: S p) (cj:∀ p,(S p).length<=16777215) :
    ∀ {i},i<=l.length->Av B S Q p (m+i) (J5 p x l i)/\(J5 p x l i).2.2.2=x.2.2.2/\(J5 p x l i).1=x.1
  | 0,_=>⟨h,rfl,rfl⟩
  | i+1,hi=>by
    obtain ⟨g1,g2,g3⟩:=QH h hl hq aV cj (show i<=l.length by omega);have h1:=hl i (by omega);rw [PW,List.getElem?_eq_getElem (show i<l.length by omega)] at h1;cases hQ:Q[m+i]? with
    | none=>rw [hQ] at h1; cases h1
    | some y =>
      obtain ⟨q,s⟩:=y;rw [hQ] at h1;have h2:I5 q (B9 q (Q.take (m+i))).length s=l[i]:=by simpa using h1
      have hy:=hq (q,s) (List.mem_of_getElem? hQ);obtain ⟨k1,k2,k3⟩:=c0l (p:=p) g1 hQ hy aV cj;rw [J5,show l.getD i []=I5 q (B9 q (Q.take (m+i))).length s by rw [h2,List.getD_eq_getElem?_getD,List.getElem?_eq_getElem (show i<l.length by omega)]; rfl];exact ⟨k1,k2.trans g2,k3.trans g3⟩
theorem Inv.le5 (h:Inv said B S Q w):∀ y∈Q,y.1<=5:=λ y hy=>by have:=h.inQ y hy; have:=h.K9; omega
theorem Inv.take (h:Inv said B S Q w) {n:y9} {p:Nat} (hp:n.2.2.1=p) (cg:p<w.2.1.length) (hv:R5 w.1.2.1 p=true) (hm:w.2.2.1[n.2.2.2.2.1.toNat]?=some n.2.2.2.2.2.2.1) :
    Inv said B S Q (vn w n):=by
  by_cases he:(P9 w n).2.2.1≠0
  . rw [vn,if_pos he]; exact h
  rw [vn,if_neg he,hp];have lv:P9 w n=D3 (w.2.1.getD p j7).2.2.2.1 (n.2.2.2.2.1,n.2.2.2.2.2.2.1,()):=by rw [P9,hp]; rfl
  rw [lv] at he ⊢;have kW:=Decidable.not_not.1 he;obtain ⟨⟨m,hM⟩,dV⟩:=h.mem p cg hv;rw [h.ord] at hm;obtain ⟨a1,a2,a3,a4,a5,a6⟩:=yQ kW;have fK:=QJ (F:=λ i=>(N5 Q)[i]?) kW hM.wait hm;obtain ⟨r,hr⟩:∃ r,r=D3 (w.2.1.getD p j7).2.2.2.1 (n.2.2.2.2.1,n.2.2.2.2.2.2.1,()):=⟨_,rfl⟩;rw [<- hr] at kW a1 a2 a3 a5 a6 fK ⊢;have jP:=hM.next;have fK:∀ i,i<r.2.1.length->(N5 Q)[m+i]?=r.2.1[i]?:=λ i hi=>by
    have:=fK i hi;rw [jP] at this;exact this
  have hH:Av B S Q p m (AE (N3 w (p:Int)) r.1):=⟨hM.log,hM.from_,hM.ok⟩;obtain ⟨k1,k2,k3⟩:=QH hH fK h.le5 h.xH h.short (Nat.le_refl _);refine h.D6 (p:=p) (λ _=>?_) (λ _ _=>⟨m+r.2.1.length,?_⟩)
  . rw [k2];exact h.rcv p cg
  . refine ⟨?_,?_,?_,k1.log,k1.from_,k1.ok⟩
    . rcases Nat.eq_zero_or_pos r.2.1.length with h0|h0
      . rw [h0]; exact hM.le
      . have h1:=fK (r.2.1.length - 1) (by omega);rw [List.getElem?_eq_getElem (show r.2.1.length - 1<r.2.1.length by omega)] at h1;have h2:m+(r.2.1.length - 1)<(N5 Q).length:=by
          by_cases h2:m+(r.2.1.length - 1)<(N5 Q).length
          . exact h2
          . rw [List.getElem?_eq_none (by omega)] at h1; cases h1
        rw [XL] at h2;omega
    . rw [k2];show r.1.1=_;rw [a5,jP]; omega
    . rw [k2];intro x hx;rcases a2 x hx with rfl|hx
      . exact hm
      . exact hM.wait x hx
theorem Inv.VK (h:Inv said B S Q w) {n:y9} (h0:0<=n.2.2.2.2.1) (hm:xK S w.2.2.1 n) (ha:s4 w n.2.2.1=true):∃ Q',Inv said B S Q' (F7 w n):=by
  by_cases hk:known w n.2.1≠0
  . exact ⟨Q,by rw [Sg hk]; exact h⟩
  by_cases c1:n.1=1
  . rw [SE hk c1]; exact h.order hk (hm.1 c1)
  by_cases c3:n.1=3
  . refine ⟨Q,?_⟩;rw [SD hk c3]; exact h.Gy (h.asks h0 4)
  by_cases c2:n.1=2
  . refine ⟨Q,?_⟩;rw [SX hk c2];obtain ⟨p,hp,cg,hv,-⟩:=BN.1 ha;exact h.take hp cg hv (hm.2 c2)
  . exact ⟨Q,by rw [SW c1 c3 c2]; exact h⟩
theorem Pk {s:C9} (h:(w7 s).2.1=0):0<=(w7 s).1.2.2.2.2.1/\(w7 s).1.2.2.2.2.1<=16777215:=(JQ (Vh h).1).seq
theorem Inv.TS (h:Inv said B S Q w) {bA:Int} {s:C9} (hs:zk S w.2.2.1 w.1.1 s):∃ Q',Inv said B S Q' (wQ w bA s):=by
  by_cases c:bA=1/\(w7 s).2.1=0/\(w7 s).1.2.2.2.1=w.1.1/\s4 w (w7 s).1.2.2.1=true
  . rw [Rr c];exact h.VK (Pk c.2.1).1 ((hs c.2.1).2 c.2.2.1) c.2.2.2
  . exact ⟨Q,by rw [QL c]; exact h⟩
theorem Inv.move (h:Inv said B S Q w) (k bA:Int):∃ Q',Inv said B S Q' (F6 w k bA).1:=by
  by_cases c1:I2 bA 1 3=false
  . exact ⟨Q,by rw [QK c1]; exact h⟩
  by_cases c2:I2 k 0 ((w.2.2.2.1.length:Int) - 1)=false
  . exact ⟨Q,by rw [Rq c1 c2]; exact h⟩
  have hk:=U4.1 (Bool.not_eq_false _▸c2:I2 k 0 ((w.2.2.2.1.length:Int) - 1)=true);by_cases c3:bA=3
  . by_cases c4:(w.2.2.2.1.length:Int)=60
    . exact ⟨Q,by rw [Ro c1 c2 c3 c4]; exact h⟩
    . refine ⟨Q,?_⟩;rw [Rn c1 c2 c3 c4];exact h.copy (by omega) c4
  . rw [Iu c1 c2 c3];refine (h.drop k).TS ?_;refine h.msg _ ?_;rw [List.getD_eq_getElem?_getD,List.getElem?_eq_getElem (by omega)]; exact List.getElem_mem _
end
end Go.Proofs.YtijlnmgondibnaaGreatDoor
namespace Go.Proofs.YtijlnmgondibnaaGreatDoor
open Go.Ex
set_option maxRecDepth 100000
theorem zO {x:Int} (h:0<=x/\x<=255) {p:Nat} (hp:p<8):R5 x p=bit x p:=by
  have key:∀ n:Fin 256,∀ i:Fin 8,R5 ((n.val:Nat):Int) i.val=bit ((n.val:Nat):Int) i.val:=by decide +kernel
  have:=key ⟨x.toNat,by omega⟩ ⟨p,hp⟩;simpa [show ((x.toNat:Nat):Int)=x by omega] using this
theorem Ve {k i:Nat} (hk:k<8) (hi:i<8):bit (IntKind.wrap .u8 (1*2^min ((k:Nat):Int).toNat IntKind.u8.bits)) i=decide (i=k):=by
  have key:∀ k:Fin 8,∀ i:Fin 8,bit (IntKind.wrap .u8 (1*2^min ((k.val:Nat):Int).toNat IntKind.u8.bits)) i.val=decide (i.val=k.val):=by decide +kernel
  exact key ⟨k,hk⟩ ⟨i,hi⟩
theorem Pb (i:Nat):bit 0 i=false:=by
  show (0:Nat).testBit i=false;simp
theorem Im {w:f9} (hv:0<=w.1.2.1/\w.1.2.1<=255):∀ {k:Nat},k<=8->r7 .u8 (D0 w k)/\∀ i,i<8->bit (D0 w k) i=(decide (i<k) && R5 w.1.2.1 i && !s4 w i)
  | 0,_=>⟨u8_in.2 ⟨Int.le_refl 0,by show (0:Int)<=255; decide⟩,λ i _=>by
      show bit 0 i=_;rw [Pb]; simp⟩
  | k+1,hk=>by
    obtain ⟨h1,h2⟩:=Im hv (show k<=8 by omega);rw [D0,Pt];by_cases a:s4 w k=true
    . rw [if_pos a];refine ⟨h1,λ i hi=>?_⟩;rw [h2 i hi];by_cases e:i=k
      . subst e;rw [a]; simp
      . rw [show decide (i<k+1)=decide (i<k) by by_cases c:i<k<;>simp [c]<;>omega]
    . rw [if_neg a];refine ⟨GF,λ i hi=>?_⟩;rw [LQ u8s h1 Md,NG u8s (u8_in.2 hv) (S8 _ _),Ve (by omega) hi,h2 i hi,<- zO hv hi];by_cases e:i=k
      . subst e;have a':s4 w i=false:=by simpa using a
        rw [a']; simp
      . rw [show decide (i<k+1)=decide (i<k) by by_cases c:i<k<;>simp [c]<;>omega];simp [e]
theorem Py {v:vA} {g:Int} (h:¬ (Q7 v g 0).2.1≠0):(Q7 v g 0).1=(v.1+1,bOr .u8 (Q5 .u8 v.2.1 g) 0,())/\v.1<16777215/\0<=v.1:=by
  unfold Q7 at h ⊢;by_cases c1:R3 v≠0
  . rw [if_pos c1] at h; exact absurd c1 h
  rw [if_neg c1] at h ⊢;split at h
  . exact absurd (by decide) h
  rename_i c2;rw [if_neg c2];split at h
  . exact absurd (by decide) h
  rename_i c3;rw [if_neg c3];split at h
  . exact absurd (by decide) h
  rename_i c4;rw [if_neg c4];split at h
  . exact absurd (by decide) h
  rename_i c5;rw [if_neg c5];refine ⟨rfl,?_⟩;unfold R3 at c1;split at c1
  . exact absurd (by decide) c1
  . rename_i c6;omega
theorem members {w:f9} (hf:w.2.1.length<=6) (hv:0<=w.1.2.1/\w.1.2.1<=255) (hn:¬ (Q6 w).2.1≠0) :
    (E8 w).1.1=w.1.1+1/\(0<=(E8 w).1.2.1/\(E8 w).1.2.1<=255)/\∀ p,p<w.2.1.length->R5 (E8 w).1.2.1 p=s4 w p:=by
  obtain ⟨h1,h2⟩:=Py hn;have he:(E8 w).1=(w.1.1+1,bOr .u8 (Q5 .u8 w.1.2.1 (D0 w w.2.1.length)) 0,()):=h1;obtain ⟨g1,g2⟩:=Im hv (show w.2.1.length<=8 by omega);rw [he];refine ⟨rfl,u8_in.1 GF,λ p hp=>?_⟩;have z0:r7 .u8 (0:Int):=u8_in.2 ⟨by decide,by decide⟩;show R5 (bOr .u8 (Q5 .u8 w.1.2.1 (D0 w w.2.1.length)) 0) p=s4 w p;rw [zO (u8_in.1 GF) (by omega),LQ u8s zS z0,RP u8s (u8_in.2 hv) g1,g2 p (by omega),Pb,<- zO hv (by omega),decide_eq_true hp];cases hm:R5 w.1.2.1 p with
  | true=>simp
  | false =>
    have:s4 w p=false:=by
      cases ha:s4 w p with
      | false=>rfl
      | true=>have:=(yO.1 ha).2.1; rw [hm] at this; cases this
    rw [this]; rfl
theorem Js {w:f9}:∀ {k:Nat},I0 w k=[]\/∃ i,i<k/\s4 w i=true/\I0 w k=(w.2.1.getD i j7).2.1
  | 0=>.inl rfl
  | k+1=>by
    rw [I0]
    split
    . rename_i h; exact .inr ⟨k,by omega,h.1,rfl⟩
    . rcases Js (w:=w) (k:=k) with h|⟨i,h1,h2,h3⟩
      . exact .inl h
      . exact .inr ⟨i,by omega,h2,h3⟩
theorem So {f:Nat->n6->n6} {l:List n6} {p:Nat} (hp:p<l.length):(l.mapIdx f).getD p j7=f p (l.getD p j7):=by
  rw [List.getD_eq_getElem?_getD,List.getElem?_mapIdx,List.getD_eq_getElem?_getD,List.getElem?_eq_getElem hp]; rfl
theorem Xm {α:Type} {l:List α} {c:Nat}:l.drop (min c l.length)=l.drop c:=by
  by_cases h:c<=l.length
  . rw [Nat.min_eq_left h]
  . rw [Nat.min_eq_right (by omega),List.drop_length,List.drop_eq_nil_of_le (by omega)]
section
variable {said:Nat->List C9} {B:List C4} {S:Nat->List C9} {Q:List U7} {w:f9}
theorem Inv.long (h:Inv said B S Q w) {p0:Nat} (lC:p0<w.2.1.length) (nX:s4 w p0=true) :
    ∃ m,m<=Q.length/\I0 w w.2.1.length=B++(Q.take m).map a31/\∀ p,p<w.2.1.length->s4 w p=true->∀ j,CO said B S Q p (w.2.1.getD p j7) j->j<=m:=by
  rcases Js (w:=w) (k:=w.2.1.length) with hL|⟨i,hi,tp,hL⟩
  . have hz:∀ p,p<w.2.1.length->s4 w p=true->(w.2.1.getD p j7).2.1=[]:=λ p hp fe=>by
      have:=DW fe hp;rw [hL] at this;exact List.eq_nil_of_length_eq_zero (by simpa using this)
    obtain ⟨⟨j,hj⟩,-⟩:=h.mem p0 lC (yO.1 nX).2.1;have h0:=hj.log;rw [hz p0 lC nX] at h0;have hB:B=[]:=(List.append_eq_nil_iff.1 h0.symm).1;refine ⟨0,Nat.zero_le _,by rw [hL,hB]; rfl,λ p hp fe j hj=>?_⟩;have h0:=hj.log;rw [hz p hp fe] at h0;have h1:=(List.append_eq_nil_iff.1 h0.symm).2;have h2:=congrArg List.length h1;rw [List.length_map,List.length_take] at h2;have:=hj.le;simp only [List.length_nil] at h2;omega
  . obtain ⟨⟨m,hm⟩,-⟩:=h.mem i hi (yO.1 tp).2.1;refine ⟨m,hm.le,by rw [hL,hm.log],λ p hp fe j hj=>?_⟩;have:=DW fe hp;rw [hL,hm.log,hj.log,List.length_append,List.length_append,List.length_map,List.length_map,List.length_take,List.length_take] at this;have h1:=hj.le;have h2:=hm.le;omega
theorem Inv.change (h:Inv said B S Q w) (hv:0<=w.1.2.1/\w.1.2.1<=255) (hn:¬ (Q6 w).2.1≠0) :
    ∃ B' S',Inv said B' S' [] (E8 w)/\(∀ p,p<w.2.1.length->s4 w p=true->(E8 w).2.1.getD p j7=((w.2.1.getD p j7).1,B',(0,S' p,()),(0,[],()),(0,[],()),())) /\
      (∀ p,p<w.2.1.length->(w.2.1.getD p j7).2.1 <+: ((E8 w).2.1.getD p j7).2.1):=by
  obtain ⟨eY,lu,lQ⟩:=members h.K9 hv hn;have hlen:(E8 w).2.1.length=w.2.1.length:=List.length_mapIdx ..;have cE:∀ p:Nat,p<w.2.1.length->(E8 w).2.1.getD p j7=uS w (I0 w w.2.1.length) p (w.2.1.getD p j7):=λ p hp=>So hp;have gL:∀ p:Nat,p<w.2.1.length->s4 w p=false->(E8 w).2.1.getD p j7=((w.2.1.getD p j7).1,(w.2.1.getD p j7).2.1,(w.2.1.getD p j7).2.2.1,(w.2.1.getD p j7).2.2.2.1,(0,[],()),()):=λ p hp ha=>by
    rw [cE p hp,uS,if_neg (by rw [ha]; decide)]
  have mD:∀ S',∀ s∈w.2.2.2.1,zk S' [] (w.1.1+1) s:=λ S' s hs e=>by
    have:=(h.msg s hs e).1;exact ⟨by omega,λ e2=>absurd e2 (by omega)⟩
  by_cases hex:∃ p0:Nat,p0<w.2.1.length/\s4 w p0=true
  . obtain ⟨p0,lC,nX⟩:=hex;obtain ⟨m,uv,hL,jv⟩:=h.long lC nX;rw [hL] at cE;obtain ⟨S',iL⟩:∃ S':Nat->List C9,S'=λ p=>if p<w.2.1.length/\s4 w p=true then (S p).drop (B9 p (Q.take m)).length else []:=⟨_,rfl⟩
    have gl:∀ p:Nat,p<w.2.1.length->s4 w p=true->S' p=(S p).drop (B9 p (Q.take m)).length:=λ p hp ha=>by rw [iL]; exact if_pos ⟨hp,ha⟩
    have eQ:∀ p:Nat,s4 w p=false->S' p=[]:=λ p ha=>by rw [iL]; exact if_neg (λ c=>by rw [c.2] at ha; cases ha)
    have jc:∀ p:Nat,p<w.2.1.length->s4 w p=true->(E8 w).2.1.getD p j7=((w.2.1.getD p j7).1,B++(Q.take m).map a31,(0,S' p,()),(0,[],()),(0,[],()),()):=λ p hp ha=>by
      obtain ⟨⟨j,hj⟩,-⟩:=h.mem p hp (yO.1 ha).2.1;have jv:=jv p hp ha j hj;rw [cE p hp,uS,if_pos ha,Xm,hj.from_];simp only;have hd:(B++(Q.take m).map a31).drop (w.2.1.getD p j7).2.1.length=((Q.take m).drop j).map a31:=by
        rw [hj.log,List.length_append,List.length_map,List.length_take,Nat.min_eq_left hj.le,<- List.drop_drop,List.drop_left,List.map_drop]
      rw [hd,RG,zJ,List.drop_drop,gl p hp ha];have fw:B9 p (Q.take m)=B9 p (Q.take j)++B9 p ((Q.take m).drop j):=by
        rw [<- yb];congr 1;rw [show Q.take j=(Q.take m).take j by rw [List.take_take,Nat.min_eq_left jv],List.take_append_drop]
      rw [fw,List.length_append]
    refine ⟨B++(Q.take m).map a31,S',?_,jc,λ p hp=>?_⟩
    . refine ⟨by rw [hlen]; exact h.K9,h.way,rfl,λ x hx=>(by cases hx),λ p=>List.nil_prefix,λ p=>?_,λ s hs=>?_,λ p hp=>?_,λ p hp hm=>?_,λ p hp hm=>?_,λ s hs=>?_⟩
      . rw [iL];dsimp only
        split
        . rw [List.length_drop]; have:=h.short p; omega
        . exact Nat.zero_le _
      . rw [eY]; exact mD S' s hs
      . rw [hlen] at hp;cases ha:s4 w p with
        | true=>rw [jc p hp ha]; exact ⟨rfl,λ q hq=>by cases hq⟩
        | false=>rw [gL p hp ha]; exact ⟨rfl,λ q hq=>by cases hq⟩
      . rw [hlen] at hp;rw [lQ p hp] at hm;rw [jc p hp hm];obtain ⟨⟨j,hj⟩,dV⟩:=h.mem p hp (yO.1 hm).2.1;have aL:=hj.ok;rw [hj.from_] at aL;have ml:=xr aL;have jv:=jv p hp hm j hj;have bU:S' p=((S p).drop (B9 p (Q.take j)).length).drop ((B9 p (Q.take m)).length - (B9 p (Q.take j)).length):=by
          rw [gl p hp hm,List.drop_drop];congr 1;have:(B9 p (Q.take j)).length<=(B9 p (Q.take m)).length:=by
            have:=(xu (p:=p) (Q:=Q.take m) (i:=j)).length_le;rw [List.take_take,Nat.min_eq_left jv] at this;exact this
          omega
        refine ⟨⟨0,Nat.zero_le _,rfl,λ q hq=>(by cases hq),by simp,by simp [B9],?_⟩,?_⟩
        . refine OP ⟨by decide,by decide⟩ ?_ ?_
          . rw [bU,List.length_drop]; have:=ml.2.1; simp only at this; omega
          . rw [bU]; exact OS ml.2.2
        . rw [dV,zI,zJ,gl p hp hm,List.append_assoc];congr 1;have aV:=(xu (p:=p) (Q:=Q) (i:=m)).trans (h.xH p)
          conv=>lhs; rw [<- List.take_append_drop (B9 p (Q.take m)).length (S p)]
          rw [<- List.prefix_iff_eq_take.1 aV]
      . rw [hlen] at hp;rw [lQ p hp] at hm;refine ⟨eQ p hm,?_⟩;rw [zI,zJ];have aV:=(xu (p:=p) (Q:=Q) (i:=m)).trans (h.xH p);cases ia:R5 w.1.2.1 p with
        | true =>
          rw [(h.mem p hp ia).2];exact (List.prefix_append_right_inj _).2 aV
        | false =>
          obtain ⟨e1,e2⟩:=h.out p hp ia;rw [e1] at aV;rw [List.prefix_nil.1 aV,List.append_nil];exact e2
      . rw [hlen];rcases List.mem_append.1 hs with hs|hs
        . exact h.Fe s hs
        . obtain ⟨y,hy,rfl⟩:=List.mem_map.1 hs;have:=h.inQ y (List.mem_of_mem_take hy);show 0<=((y.1:Nat):Int)/\((y.1:Nat):Int)<_;omega
    . cases ha:s4 w p with
      | true =>
        rw [jc p hp ha];obtain ⟨⟨j,hj⟩,-⟩:=h.mem p hp (yO.1 ha).2.1;have jv:=jv p hp ha j hj;rw [hj.log];refine (List.prefix_append_right_inj _).2 (List.IsPrefix.map a31 ?_);rw [show Q.take j=(Q.take m).take j by rw [List.take_take,Nat.min_eq_left jv]];exact List.take_prefix ..
      | false=>rw [gL p hp ha]; exact List.prefix_rfl
  . have bH:∀ p:Nat,p<w.2.1.length->s4 w p=false:=λ p hp=>by
      cases ha:s4 w p with
      | false=>rfl
      | true=>exact absurd ⟨p,hp,ha⟩ hex
    refine ⟨[],λ _=>[],?_,λ p hp ha=>(by rw [bH p hp] at ha; cases ha),λ p hp=>by rw [gL p hp (bH p hp)]; exact List.prefix_rfl⟩;refine ⟨by rw [hlen]; exact h.K9,h.way,rfl,λ x hx=>(by cases hx),λ p=>List.nil_prefix,λ p=>Nat.zero_le _,λ s hs=>?_,λ p hp=>?_,λ p hp hm=>?_,λ p hp hm=>⟨rfl,List.nil_prefix⟩,λ s hs=>(by cases hs)⟩
    . rw [eY]; exact mD _ s hs
    . rw [hlen] at hp;rw [gL p hp (bH p hp)]; exact ⟨rfl,λ q hq=>by cases hq⟩
    . rw [hlen] at hp;rw [lQ p hp,bH p hp] at hm; cases hm
end
end Go.Proofs.YtijlnmgondibnaaGreatDoor
namespace Go.Proofs.YtijlnmgondibnaaGreatDoor
open Go.Ex
set_option maxRecDepth 100000
attribute [local irreducible] Go.Ex.exec
section
variable {H:Array Go.Obj} {S:Nat->Prop} {O:List Nat} {cs:List Value}
theorem Pl {α β:Type} {R:List Nat->List Value->α->Prop} {R':List Nat->List Value->β->Prop} {sz:Nat} {f:α->β} (hr:∀ O cs x,R O cs x->R' O cs (f x)):∀ {l:List α} {O:List Nat} {cs:List Value},i8 R sz O cs l->i8 R' sz O cs (l.map f)
  | [],_,_,h=>h
  | _::_,_,_,⟨O1,O2,e,h1,h2⟩=>⟨O1,O2,e,hr _ _ _ h1,Pl hr h2⟩
theorem UM {l:List n6} (h:g9 H S (.d0 true wL) O cs l):g9 H S (.d0 true X4) O cs (l.map toM):=by
  have e:(l.map toM).length=l.length:=List.length_map ..;rcases h with ⟨a,b,c⟩|⟨b,off,cap,O',h1,h2,h3,h4,h5,h6⟩
  . exact .inl ⟨a,b,by rw [c]; rfl⟩
  . refine .inr ⟨b,off,cap,O',?_,?_,h3,?_,?_,h6⟩
    . rw [h1]; exact congrArg (λ n:Nat=>[Value.slice (some ⟨b,off,none⟩) n cap]) e.symm
    . exact Nat.le_trans (Nat.le_of_eq e) h2
    . exact Nat.le_trans (Nat.le_of_eq (congrArg (λ n:Nat=>off+n*X4.size) e)) h4
    . have:=Pl (R':=g9 H S X4) (f:=toM) (λ _ _ _ h=>h) h5;have e2:e8 H b off (List.length (l.map toM)*X4.size)=e8 H b off (List.length l*wL.size):=congrArg (λ n:Nat=>e8 H b off (n*X4.size)) e;show i8 (g9 H S X4) X4.size O' (e8 H b off (List.length (l.map toM)*X4.size)) (l.map toM);rw [e2];exact this
theorem Xa {l:List n6} (h:g9 H S (.d0 true X4) O cs (l.map toM)):g9 H S (.d0 true wL) O cs l:=by
  have e:(l.map toM).length=l.length:=List.length_map ..;rcases h with ⟨a,b,c⟩|⟨b,off,cap,O',h1,h2,h3,h4,h5,h6⟩
  . exact .inl ⟨a,b,List.map_eq_nil_iff.1 c⟩
  . refine .inr ⟨b,off,cap,O',?_,?_,h3,?_,?_,h6⟩
    . rw [h1]; exact congrArg (λ n:Nat=>[Value.slice (some ⟨b,off,none⟩) n cap]) e
    . exact Nat.le_trans (Nat.le_of_eq e.symm) h2
    . exact Nat.le_trans (Nat.le_of_eq (congrArg (λ n:Nat=>off+n*X4.size) e.symm)) h4
    . have e2:e8 H b off (List.length (l.map toM)*X4.size)=e8 H b off (List.length l*wL.size):=congrArg (λ n:Nat=>e8 H b off (n*X4.size)) e;have h5:i8 (g9 H S X4) X4.size O' (e8 H b off (List.length (l.map toM)*X4.size)) (l.map toM):=h5;rw [e2] at h5;exact i8.Li (R:=g9 H S wL) (f:=toM) (λ _ _ _ h=>h) h5
theorem Vl {w:f9} (h:g9 H S s5 O cs w):g9 H S Y5 O cs (va w):=by
  obtain ⟨v,al,r⟩:=w;obtain ⟨P1,P2,e,r1,P3,P4,e',r2,r3⟩:=h;exact ⟨P1,P2,e,r1,P3,P4,e',UM r2,r3⟩
theorem Yw {w:f9} (h:g9 H S Y5 O cs (va w)):g9 H S s5 O cs w:=by
  obtain ⟨v,al,r⟩:=w;obtain ⟨P1,P2,e,r1,P3,P4,e',r2,r3⟩:=h;exact ⟨P1,P2,e,r1,P3,P4,e',Xa r2,r3⟩
end
def OX:o7:={ ps:=[.rw s5],rs:=[d9],pre:=λ x=>yJ x.1,fn:=λ x=>((S3 x.1).2,()),out:=λ x=>((S3 x.1).1,()) }
theorem JJ {w:f9} (h:(Q6 w).2.1≠0):S3 w=(w,(Q6 w).2.1):=by rw [S3]; exact if_pos h
theorem KV {w:f9} (h:¬ (Q6 w).2.1≠0):S3 w=(E8 w,0):=by rw [S3]; exact if_neg h
attribute [local irreducible] S3 E8 Q6 in
theorem b2c:OX.Valid Tryz.prog 25:=by
  refine ⟨SS.ent,?_,λ h=>by cases h⟩;rintro w S vs ⟨(x:f9),⟨⟩⟩ L hS dY (aV:yJ x) ⟨v,us,L1,L2,rfl,rfl,⟨b,off,O,rfl,hr,hf,rfl⟩,rfl,rfl⟩ - aF hL;by_cases hn:(Q6 x).2.1≠0
  . have hs:g9 w.heap (λ c=>S c\/c∈b::O) F3 [] (e8 w.heap b off s5.size) x:=hr.vw (S':=λ c=>S c\/c∈b::O) (λ c h=>.inr (List.mem_cons_of_mem _ h)) (λ c h=>.inl h) rfl;refine (b2d.run w (λ c=>S c\/c∈b::O) [.pointer (some ⟨b,off,none⟩)] (x,()) [] ?_ (dY.sub (λ c h=>.inl h)) ⟨aV.K9,hn⟩ ⟨_,[],[],[],rfl,rfl,⟨rfl,b,off,rfl,.inr List.mem_cons_self,?_,hs⟩,rfl,rfl⟩ trivial List.nodup_nil (by simp)).mono ?_
    . rintro c (h|h)
      . exact hS c h
      . exact (hL c (by simpa using h)).2
    . exact N0.u7 hf
    rintro e w' ⟨us,O2,Lo,S',e1,hp,s1,s2,h1,h2,da,fq⟩;obtain ⟨v1,us1,P1,P2,cs,rfl,rfl,rfl,⟨rfl,rfl,hk⟩,rfl,rfl⟩:=h1;have dK:∀ c,c<w.heap.size->w'.heap[c]?=w.heap[c]?:=λ c hc=>hp.frame c hc (by simp);have ee:∀ c∈b::O,¬ S c/\c<w.heap.size:=λ c hc=>hL c (by simpa using hc);have hb:=dK b (ee b List.mem_cons_self).2;have fc:=JJ hn;refine ⟨[_],[],b::O,S,e1,⟨hp.os,hp.tape,hp.out,hp.size,λ c hc hn=>dK c hc⟩,λ _ h=>h,λ c h=>.inl h,⟨_,[],[],[],_,rfl,rfl,rfl,⟨rfl,?_,?_⟩,rfl,rfl⟩,⟨b,off,O,[],[],rfl,?_,?_,by simp,rfl,rfl⟩,?_,?_⟩
    . show [Value.int .i64 _]=[Value.int .i64 (S3 x).2];rw [fc]; rfl
    . show r7 .i64 (S3 x).2;rw [fc]; exact hk
    . show g9 w'.heap S s5 O (e8 w'.heap b off s5.size) (S3 x).1;rw [fc,l4 hb];exact hr.s8 (λ c hc=>dK c (hc.elim (λ h=>(ee c (List.mem_cons_of_mem _ h)).2) (hS c))) (λ _ h=>h)
    . exact N0.s8 hb hf
    . simpa using aF
    . intro c hc;have hc:c∈b::O:=by simpa using hc
      exact ⟨(ee c hc).1,.inr (by simpa using hc),Nat.lt_of_lt_of_le (ee c hc).2 hp.size⟩
  . have fc:=KV hn;have nR:=Xq x;refine (SS.run w S [.pointer (some ⟨b,off,none⟩)] (va x,()) (b::O++[]) hS dY ⟨?_,?_,?_⟩ ⟨_,[],b::O,[],rfl,rfl,⟨b,off,O,rfl,Vl hr,hf,rfl⟩,rfl,rfl⟩ trivial aF hL).mono ?_
    . show va x=va (vE (va x)); rw [nR]
    . show yJ (vE (va x)); rw [nR]; exact aV
    . show ¬ (Q6 (vE (va x))).2.1≠0; rw [nR]; exact hn
    rintro e w' ⟨us,O2,Lo,S',e1,hp,s1,s2,h1,h2,h3,h4⟩;refine ⟨us,O2,Lo,S',e1,hp,s1,s2,?_,?_,h3,h4⟩
    . have h1:K3 w'.heap S' [d9] O2 us ((0:Int),()):=h1;show K3 w'.heap S' [d9] O2 us ((S3 x).2,());rw [fc]; exact h1
    . obtain ⟨b',aq,O',us',L',e',kC,pG,e2,h'⟩:=h2;refine ⟨b',aq,O',us',L',e',?_,pG,e2,h'⟩;have kC:g9 w'.heap S' Y5 O' (e8 w'.heap b' aq Y5.size) (va (E8 (vE (va x)))):=kC;show g9 w'.heap S' s5 O' (e8 w'.heap b' aq s5.size) (S3 x).1;rw [fc];rw [nR] at kC;exact Yw kC
end Go.Proofs.YtijlnmgondibnaaGreatDoor
namespace Go.Proofs.YtijlnmgondibnaaGreatDoor
open Go.Ex
set_option maxRecDepth 100000
attribute [local irreducible] Go.Ex.exec
end Go.Proofs.YtijlnmgondibnaaGreatDoor
namespace Go.Proofs.YtijlnmgondibnaaGreatDoor
open Go.Ex
set_option maxRecDepth 100000
structure Sz (c:Nat) (w:f9):Prop where
  log:∀ i:Nat,(w.2.1.getD i j7).2.1.length<=c
  ord:w.2.2.1.length<=c
  txt:∀ i:Nat,∀ s∈(w.2.1.getD i j7).2.1,s.2.1.length<=200
  late:∀ i:Nat,(w.2.1.getD i j7).2.2.1.2.1.length<=16
theorem Sz.mono {c d:Nat} {w:f9} (h:Sz c w) (hd:c<=d):Sz d w:=⟨λ i=>Nat.le_trans (h.log i) hd,Nat.le_trans h.ord hd,h.txt,h.late⟩
structure K5 (k:Nat) (w w':f9):Prop where
  view:w'.1=w.1
  len:w'.2.1.length=w.2.1.length
  log:∀ i:Nat,(w.2.1.getD i j7).2.1 <+: (w'.2.1.getD i j7).2.1
  fal:∀ i:Nat,(w'.2.1.getD i j7).1=(w.2.1.getD i j7).1
  sz:∀ c,Sz c w->Sz (c+k) w'
theorem K5.same {w w':f9} (h1:w'.1=w.1) (h2:w'.2.1=w.2.1) (h3:w'.2.2.1=w.2.2.1):K5 0 w w' :=
  ⟨h1,by rw [h2],λ i=>by rw [h2]; exact List.prefix_rfl,λ i=>by rw [h2],λ c h=>⟨by rw [h2]; exact h.log,by rw [h3]; exact h.ord,by rw [h2]; exact h.txt,by rw [h2]; exact h.late⟩⟩
theorem K5.more {k l:Nat} {w w':f9} (h:K5 k w w') (hl:k<=l):K5 l w w':=⟨h.view,h.len,h.log,h.fal,λ c hc=>(h.sz c hc).mono (by omega)⟩
theorem K5.trans {k l:Nat} {w w' w'':f9} (h:K5 k w w') (h':K5 l w' w''):K5 (k+l) w w'' :=
  ⟨h'.view.trans h.view,h'.len.trans h.len,λ i=>(h.log i).trans (h'.log i),λ i=>(h'.fal i).trans (h.fal i),λ c hc=>by rw [<- Nat.add_assoc]; exact h'.sz _ (h.sz c hc)⟩
theorem V5.CF {P:y9->Prop} {w w':f9} (h:V5 P w w'):K5 0 w w':=.same h.view h.all h.ord
theorem K5.set {k:Nat} {w:f9} {p:Nat} {x:n6} (h1:(w.2.1.getD p j7).2.1 <+: x.2.1) (h2:x.1=(w.2.1.getD p j7).1) (h3:x.2.1.length<=(w.2.1.getD p j7).2.1.length+k)
    (h4:(∀ s∈(w.2.1.getD p j7).2.1,s.2.1.length<=200)->∀ s∈x.2.1,s.2.1.length<=200) (h5:(w.2.1.getD p j7).2.2.1.2.1.length<=16->x.2.2.1.2.1.length<=16):K5 k w (w.1,w.2.1.set p x,w.2.2):=by
  have hg:∀ i,(w.2.1.set p x).getD i j7=x/\p=i\/(w.2.1.set p x).getD i j7=w.2.1.getD i j7:=λ i=>by
    rw [U5]
    split
    . rename_i e; exact .inl ⟨rfl,e.1⟩
    . exact .inr rfl
  refine ⟨rfl,List.length_set ..,λ i=>?_,λ i=>?_,λ c hc=>⟨λ i=>?_,Nat.le_trans hc.ord (Nat.le_add_right _ _),λ i=>?_,λ i=>?_⟩⟩
  . rcases hg i with ⟨e,rfl⟩|e
    . show _ <+: ((w.2.1.set p x).getD p j7).2.1; rw [e]; exact h1
    . show _ <+: ((w.2.1.set p x).getD i j7).2.1; rw [e]; exact List.prefix_rfl
  . rcases hg i with ⟨e,rfl⟩|e
    . show ((w.2.1.set p x).getD p j7).1=_; rw [e]; exact h2
    . show ((w.2.1.set p x).getD i j7).1=_; rw [e]
  . rcases hg i with ⟨e,rfl⟩|e
    . show ((w.2.1.set p x).getD p j7).2.1.length<=_; rw [e]; have:=hc.log p; omega
    . show ((w.2.1.set p x).getD i j7).2.1.length<=_; rw [e]; have:=hc.log i; omega
  . rcases hg i with ⟨e,rfl⟩|e
    . show ∀ s∈((w.2.1.set p x).getD p j7).2.1,_; rw [e]; exact h4 (hc.txt p)
    . show ∀ s∈((w.2.1.set p x).getD i j7).2.1,_; rw [e]; exact hc.txt i
  . rcases hg i with ⟨e,rfl⟩|e
    . show ((w.2.1.set p x).getD p j7).2.2.1.2.1.length<=_; rw [e]; exact h5 (hc.late p)
    . show ((w.2.1.set p x).getD i j7).2.2.1.2.1.length<=_; rw [e]; exact hc.late i
theorem PQ {w:f9} {k f t q:Int} {x:C9}:K5 0 w (L8 w k f t q x):=by
  obtain ⟨h1,h2,h3⟩:=El (w:=w) (k:=k) (f:=f) (t:=t) (s:=q) (x:=x);exact .same h2 h1 h3
theorem QS (w:f9) (p:Int) (t:C9):K5 0 w (uZ w p t).1:=by
  rw [uZ]
  split
  . exact .same rfl rfl rfl
  split
  . exact .same rfl rfl rfl
  split
  . exact .same rfl rfl rfl
  split
  . exact .same rfl rfl rfl
  . rename_i hl;obtain ⟨g1,g2,g3⟩:=No hl;have aL:=xr g2;refine K5.trans (w':=setFrom w p (P7 (M4 w p) t).1) (k:=0) ?_ PQ;refine K5.set (k:=0) List.prefix_rfl rfl (Nat.le_refl _) id (λ _=>?_);rw [g1]; exact aL.2.1
theorem Su (w:f9) (p:Int):K5 0 w (V1 w p).1:=by
  rw [V1]
  split
  . exact .same rfl rfl rfl
  . obtain ⟨h1,h2,h3⟩:=Kr (p:=p) (l:=xN w p) (w:=w) (xN w p).length;exact (K5.same h2 h1 h3).trans PQ
theorem b7s (w:f9) (n:y9):K5 16 w (W6 w n):=by
  rw [W6]
  split
  . exact (K5.same rfl rfl rfl).more (by omega)
  . rename_i he;obtain ⟨-,-,a3,-⟩:=yQ (Decidable.not_not.1 he);have h0:K5 0 w (yc w n.2.1 (xR (N3 w n.2.1) (X8 w n).1)):=K5.set List.prefix_rfl rfl (Nat.le_refl _) id id;obtain ⟨h1,h2,h3⟩:=JP (f:=n.2.1) (first:=(N3 w n.2.1).2.2.2.2.1.1) (l:=(X8 w n).2.1) (w:=yc w n.2.1 (xR (N3 w n.2.1) (X8 w n).1)) (X8 w n).2.1.length;refine (h0.trans (l:=16) ⟨h2,by rw [h1],λ i=>by rw [h1]; exact List.prefix_rfl,λ i=>by rw [h1],λ c hc=>⟨λ i=>?_,?_,by rw [h1]; exact hc.txt,by rw [h1]; exact hc.late⟩⟩).more (by omega)
    . rw [h1]; have:=hc.log i; omega
    . rw [h3];have:=hc.ord;have a3:(X8 w n).2.1.length<=16:=a3;omega
theorem b7x {s:vy} {x:Int} (h:(Q4 s x).2.1=0):(Q4 s x).1.2.1.length<=s.2.1.length:=by
  unfold Q4 at h ⊢
  split
  . rename_i h1; rw [if_pos h1] at h; exact absurd h h1
  . rename_i h1;rw [if_neg h1] at h
    split
    . rename_i h2; rw [if_pos h2] at h; exact absurd h (by decide)
    . exact List.length_drop ..▸Nat.sub_le _ _
theorem b7B (q:Int) (x:n6) (t:C9):(vL q x t).1=x.1/\(x.2.2.1.2.1.length<=16->(vL q x t).2.2.1.2.1.length<=16):=by
  by_cases h:who t=q/\(Q4 x.2.2.1 (nth t+1)).2.1=0
  . rw [Jo h.1 h.2];exact ⟨rfl,λ h2=>Nat.le_trans (b7x h.2) h2⟩
  . rw [DN h];exact ⟨rfl,id⟩
theorem XT (t:C9):(wH t).length<=t.length:=by
  unfold wH;exact Nat.le_trans (Bv _).2 (Bv _).2
theorem Ta {q:Int} {x:n6} {l:List C9} (hl:∀ t∈l,D9 t=false):∀ {i},i<=l.length->x.2.1 <+: (J5 q x l i).2.1/\(J5 q x l i).1=x.1/\(x.2.2.1.2.1.length<=16->(J5 q x l i).2.2.1.2.1.length<=16) /\
    ((∀ s∈x.2.1,s.2.1.length<=200)->∀ s∈(J5 q x l i).2.1,s.2.1.length<=200)
  | 0,_=>⟨List.prefix_rfl,rfl,id,id⟩
  | i+1,hi=>by
    obtain ⟨h1,h2,h3,h4⟩:=Ta (q:=q) (x:=x) hl (show i<=l.length by omega);obtain ⟨g1,g2⟩:=b7B q (J5 q x l i) (l.getD i []);have g3:=QG q (J5 q x l i) (l.getD i []);rw [J5];refine ⟨h1.trans (by rw [g3]; exact List.prefix_append ..),g1.trans h2,λ h=>g2 (h3 h),λ h s hs=>?_⟩;rw [g3] at hs;rcases List.mem_append.1 hs with hs|hs
    . exact h4 h s hs
    . rw [List.mem_singleton] at hs;rw [hs];have hm:l.getD i []∈l:=by rw [List.getD_eq_getElem?_getD,List.getElem?_eq_getElem (by omega)]; exact List.getElem_mem _
      exact Nat.le_trans (XT _) (Jr (hl _ hm))
theorem b9I (w:f9) (n:y9):K5 16 w (vn w n):=by
  rw [vn]
  split
  . exact (K5.same rfl rfl rfl).more (by omega)
  . rename_i he;obtain ⟨a1,-,a3,-⟩:=yQ (Decidable.not_not.1 he);obtain ⟨h1,h2,h3,h4⟩:=Ta (q:=n.2.2.1) (x:=AE (N3 w n.2.2.1) (P9 w n).1) (λ t ht=>(a1 t ht).2) (Nat.le_refl (P9 w n).2.1.length);have h5:=KK (q:=n.2.2.1) (x:=AE (N3 w n.2.2.1) (P9 w n).1) (l:=(P9 w n).2.1) (P9 w n).2.1.length;refine K5.set (k:=16) h1 h2 ?_ h4 h3;rw [h5];have a3:(P9 w n).2.1.length<=16:=a3;exact Nat.add_le_add_left a3 _
theorem b34 (w:f9) (n:y9):K5 16 w (F7 w n):=by
  rw [F7]
  split
  . exact (K5.same rfl rfl rfl).more (by omega)
  split
  . exact b7s w n
  split
  . obtain ⟨h1,h2,h3⟩:=zT (w:=w) (n:=n) 4;exact (K5.same h2 h1 h3).more (by omega)
  split
  . exact b9I w n
  . exact (K5.same rfl rfl rfl).more (by omega)
theorem Rp (w:f9) (k bA:Int):K5 16 w (F6 w k bA).1:=by
  have h0:K5 16 w w:=(K5.same rfl rfl rfl).more (by omega);rw [F6]
  split
  . exact h0
  split
  . exact h0
  split
  . exact h0
  split
  . exact (K5.same (w:=w) (w':=CT w k.toNat) rfl rfl rfl).more (Nat.zero_le 16)
  . refine (K5.trans (k:=0) (l:=16) (w':=yu w k) (K5.same (w:=w) (w':=yu w k) rfl rfl rfl) ?_).more (Nat.le_refl 16);show K5 16 (yu w k) (wQ (yu w k) bA (w.2.2.2.1.getD k.toNat []));rw [wQ]
    split
    . exact b34 _ _
    . exact (K5.same rfl rfl rfl).more (by omega)
abbrev G5:=Int×Int×Int×yY×Unit
def R2 (w:f9) (d:G5):f9×Int :=
  if d.1=1 then uZ w d.2.1 d.2.2.2.1 else if d.1=2 then V1 w d.2.1 else if d.1=3 then F6 w d.2.1 d.2.2.1 else if d.1=4 then vC w d.2.1 else if d.1=5 then S3 w else (w,1)
structure Ok (c:Nat) (said:Nat->List C9) (w:f9):Prop where
  mem:0<=w.1.2.1/\w.1.2.1<=255
  sz:Sz c w
  inv:∃ B S Q,Inv said B S Q w
structure Good (w:f9):Prop where
  move:Bp w
  change:yJ w
theorem Ok.K9 {c:Nat} {said:Nat->List C9} {w:f9} (h:Ok c said w):w.2.1.length<=6:=by
  obtain ⟨B,S,Q,hI⟩:=h.inv;exact hI.K9
theorem Inv.note {said:Nat->List C9} {B:List C4} {S:Nat->List C9} {Q:List U7} {w:f9} (h:Inv said B S Q w) {s:C9} (hs:s∈w.2.2.2.1) (h1:(w7 s).2.1=0) (h2:(w7 s).1.2.2.2.1=w.1.1) (h3:s4 w (w7 s).1.2.2.1=true) {c:Nat} (hc:Sz c w) (dL:c<=1000000000000):wR w (w7 s).1:=by
  obtain ⟨p,hp,cg,hv,-⟩:=BN.1 h3;obtain ⟨⟨m,hM⟩,-⟩:=h.mem p cg hv;have hm:=(h.msg s hs h1).2 h2;refine ⟨h.K9,by omega,Pk h1,?_,Nat.le_trans hc.ord dL,λ hk t ht=>?_⟩
  . rw [hp]; exact Nat.le_trans (hc.log p) dL
  . have cH:N3 w (w7 s).1.2.2.1=w.2.1.getD p j7:=by rw [hp]; rfl
    unfold P9 at ht;rw [cH] at ht;have dv:∃ i:Nat,(N5 Q)[i]?=some t:=by
      by_cases he:(D3 (w.2.1.getD p j7).2.2.2.1 ((w7 s).1.2.2.2.2.1,(w7 s).1.2.2.2.2.2.2.1,())).2.2.1=0
      . obtain ⟨a1,-⟩:=yQ he;rcases (a1 t ht).1 with e|⟨q,hq,e⟩
        . refine ⟨(w7 s).1.2.2.2.2.1.toNat,?_⟩;rw [e,<- h.ord];exact hm.2 hk
        . exact ⟨_,by rw [e]; exact hM.wait q hq⟩
      . rw [YU he] at ht; cases ht
    obtain ⟨i,hi⟩:=dv;rw [PW] at hi;cases hQ:Q[i]? with
    | none=>rw [hQ] at hi; cases hi
    | some y =>
      rw [hQ] at hi;have e:I5 y.1 (B9 y.1 (Q.take i)).length y.2=t:=by simpa using hi
      have hy:=h.le5 y (List.mem_of_getElem? hQ);have h5:=((xu (p:=y.1) (Q:=Q) (i:=i)).trans (h.xH y.1)).length_le;have h6:=h.short y.1;exact ⟨y.1,_,y.2,hy,by omega,e.symm⟩
theorem Ok.Aq {c:Nat} {said:Nat->List C9} {w:f9} (h:Ok c said w) (hc:c<=1000000000000):Good w:=by
  obtain ⟨B,S,Q,hI⟩:=h.inv;exact ⟨⟨hI.K9,hI.way,λ s hs h1 h2 h3=>hI.note hs h1 h2 h3 h.sz hc⟩,hI.K9,λ i=>Nat.le_trans (h.sz.log i) (by omega),λ i=>Nat.le_trans (h.sz.late i) (by omega)⟩
def wD (said:Nat->List C9) (d:G5) (e:Int):Nat->List C9:=if d.1=1/\e=0 then vJ said d.2.1.toNat (said d.2.1.toNat++[d.2.2.2.1]) else said
structure a93 (c:Nat) (said:Nat->List C9) (w:f9) (d:G5) (w':f9) (e:Int):Prop where
  ok:Ok (c+16) (wD said d e) w'
  len:w'.2.1.length=w.2.1.length
  log:∀ i:Nat,(w.2.1.getD i j7).2.1 <+: (w'.2.1.getD i j7).2.1
  fal:∀ i:Nat,i<w.2.1.length->(w'.2.1.getD i j7).1=((w.2.1.getD i j7).1 || decide (d.1=4/\e=0/\d.2.1=i))
  mem:∀ i:Nat,i<w.2.1.length->R5 w'.1.2.1 i=true->R5 w.1.2.1 i=true
theorem a93.CF {c:Nat} {said:Nat->List C9} {w w':f9} {d:G5} {e:Int} (h:Ok c said w) (hm:K5 16 w w') (hi:∃ B S Q,Inv (wD said d e) B S Q w') (hf:d.1≠4):a93 c said w d w' e :=
  ⟨⟨by rw [hm.view]; exact h.mem,hm.sz c h.sz,hi⟩,hm.len,hm.log,λ i _=>by rw [hm.fal i,show decide (d.1=4/\e=0/\d.2.1=i)=false from decide_eq_false (λ c=>hf c.1),Bool.or_false],λ i _ h=>by rw [hm.view] at h; exact h⟩
theorem Sr {w:f9} {p:Int} (h:¬ K7 w p≠0):s4 w p=true:=by
  unfold K7 at h;split at h
  . rename_i h1; exact absurd h1 h
  . split at h
    . rename_i h2; exact h2
    . exact absurd (by decide) h
theorem Eh {w:f9} {p:Int}:¬ known w p≠0↔0<=p/\p<(w.2.1.length:Int):=by
  unfold known
  split
  . rename_i h;have:=U4.1 h;constructor
    . intro _; omega
    . intro _ h2; exact h2 rfl
  . rename_i h;constructor
    . intro h2; exact absurd (by decide) h2
    . intro h2; exact absurd (U4.2 ⟨h2.1,by omega⟩) h
theorem DJ {c:Nat} {said:Nat->List C9} {w:f9} (h:Ok c said w) (d:G5):a93 c said w d (R2 w d).1 (R2 w d).2:=by
  obtain ⟨B,S,Q,hI⟩:=h.inv;have stay:∀ e:Int,(d.1=1->e≠0)->(d.1=4->e≠0)->a93 c said w d w e:=λ e he hf =>
    ⟨⟨h.mem,h.sz.mono (by omega),B,S,Q,by rw [wD,if_neg (λ c=>he c.1 c.2)]; exact hI⟩,rfl,λ _=>List.prefix_rfl,λ i _=>by rw [show decide (d.1=4/\e=0/\d.2.1=i)=false from decide_eq_false (λ c=>hf c.1 c.2.1),Bool.or_false],λ _ _ h=>h⟩
  unfold R2;by_cases c1:d.1=1
  . rw [if_pos c1];have iR:=(QS w d.2.1 d.2.2.2.1).more (Nat.zero_le 16);have hf:d.1=4->False:=λ e=>by omega
    rw [uZ] at iR ⊢;by_cases a:K7 w d.2.1≠0
    . rw [if_pos a]; exact stay _ (λ _=>a) (λ e=>(hf e).elim)
    rw [if_neg a] at iR ⊢;by_cases b:(150:Int)<d.2.2.2.1.length
    . rw [if_pos b]; exact stay 2 (λ _=>by decide) (λ e=>(hf e).elim)
    rw [if_neg b] at iR ⊢;by_cases b2:(w.2.2.2.1.length:Int)=60
    . rw [if_pos b2]; exact stay 8 (λ _=>by decide) (λ e=>(hf e).elim)
    rw [if_neg b2] at iR ⊢;by_cases b3:(P7 (M4 w d.2.1) d.2.2.2.1).2.1≠0
    . rw [if_pos b3]; exact stay _ (λ _=>b3) (λ e=>(hf e).elim)
    rw [if_neg b3] at iR ⊢;obtain ⟨p,hp,cg,hv,-⟩:=BN.1 (Sr a);refine a93.CF h iR ?_ (λ e=>hf e);rw [wD,if_pos ⟨c1,rfl⟩,hp];rw [hp] at b3;exact ⟨_,_,_,hI.say cg hv b3⟩
  rw [if_neg c1];by_cases c2:d.1=2
  . rw [if_pos c2];have iR:=(Su w d.2.1).more (Nat.zero_le 16);rw [V1] at iR ⊢;by_cases a:K7 w d.2.1≠0
    . rw [if_pos a]; exact stay _ (λ e=>absurd e c1) (λ e=>by omega)
    rw [if_neg a] at iR ⊢;obtain ⟨p,hp,cg,hv,-⟩:=BN.1 (Sr a);refine a93.CF h iR ?_ (by omega);rw [wD,if_neg (λ c=>c1 c.1),hp];exact ⟨_,_,_,hI.again cg hv⟩
  rw [if_neg c2];by_cases c3:d.1=3
  . rw [if_pos c3];refine a93.CF h (Rp _ _ _) ?_ (by omega);rw [wD,if_neg (λ c=>c1 c.1)];obtain ⟨Q',h'⟩:=hI.move d.2.1 d.2.2.1;exact ⟨_,_,_,h'⟩
  rw [if_neg c3];by_cases c4:d.1=4
  . rw [if_pos c4];unfold vC;by_cases a:known w d.2.1≠0
    . rw [if_pos a]; exact stay _ (λ e=>absurd e c1) (λ _=>a)
    rw [if_neg a];have hk:=Eh.1 a;obtain ⟨p,hp⟩:∃ p:Nat,d.2.1=p:=⟨d.2.1.toNat,by omega⟩;rw [hp] at hk ⊢;have cg:p<w.2.1.length:=by omega
    have hg:∀ i,(w.2.1.set p (true,(w.2.1.getD p j7).2)).getD i j7=if p=i then (true,(w.2.1.getD p j7).2) else w.2.1.getD i j7:=λ i=>by
      rw [U5];by_cases e:p=i
      . rw [if_pos ⟨e,cg⟩,if_pos e]
      . rw [if_neg (λ h=>e h.1),if_neg e]
    have gA:∀ i,((w.2.1.set p (true,(w.2.1.getD p j7).2)).getD i j7).2=(w.2.1.getD i j7).2:=λ i=>by
      rw [hg]; split
      . rename_i e; rw [e]
      . rfl
    refine ⟨⟨h.mem,⟨λ i=>?_,Nat.le_trans h.sz.ord (Nat.le_add_right _ _),λ i=>?_,λ i=>?_⟩,B,S,Q,?_⟩,List.length_set ..,λ i=>?_,λ i hi=>?_,λ _ _ h=>h⟩
    . show ((w.2.1.set p (true,(w.2.1.getD p j7).2)).getD i j7).2.1.length<=_;rw [gA]; exact Nat.le_trans (h.sz.log i) (Nat.le_add_right _ _)
    . show ∀ s∈((w.2.1.set p (true,(w.2.1.getD p j7).2)).getD i j7).2.1,_;rw [gA]; exact h.sz.txt i
    . show ((w.2.1.set p (true,(w.2.1.getD p j7).2)).getD i j7).2.2.1.2.1.length<=_;rw [gA]; exact h.sz.late i
    . rw [wD,if_neg (λ c=>c1 c.1)]; exact hI.TH p
    . show _ <+: ((w.2.1.set p (true,(w.2.1.getD p j7).2)).getD i j7).2.1;rw [gA]; exact List.prefix_rfl
    . show ((w.2.1.set p (true,(w.2.1.getD p j7).2)).getD i j7).1=_;rw [hg];by_cases e:p=i
      . rw [if_pos e,decide_eq_true ⟨c4,rfl,by rw [hp,e]⟩,Bool.or_true]
      . rw [if_neg e,decide_eq_false (λ c=>e (by have:=c.2.2; omega)),Bool.or_false]
  rw [if_neg c4];by_cases c5:d.1=5
  . rw [if_pos c5];by_cases a:(Q6 w).2.1≠0
    . rw [JJ a]; exact stay _ (λ e=>absurd e c1) (λ e=>absurd e c4)
    rw [KV a];obtain ⟨B',S',tO,h1,h2⟩:=hI.change h.mem a;obtain ⟨eY,lu,lQ⟩:=members hI.K9 h.mem a;have hlen:(E8 w).2.1.length=w.2.1.length:=List.length_mapIdx ..;have cE:∀ i:Nat,i<w.2.1.length->(E8 w).2.1.getD i j7=uS w (I0 w w.2.1.length) i (w.2.1.getD i j7):=λ i hi=>So hi;have eK:∀ i:Nat,¬ i<w.2.1.length->(E8 w).2.1.getD i j7=j7:=λ i hi=>by
      rw [List.getD_eq_getElem?_getD,List.getElem?_eq_none (by rw [hlen]; omega)]; rfl
    have og:(I0 w w.2.1.length).length<=c/\∀ s∈I0 w w.2.1.length,s.2.1.length<=200:=by
      rcases Js (w:=w) (k:=w.2.1.length) with e|⟨i,-,-,e⟩
      . rw [e]; exact ⟨Nat.zero_le _,λ s hs=>by cases hs⟩
      . rw [e]; exact ⟨h.sz.log i,h.sz.txt i⟩
    have fc:∀ i x,(uS w (I0 w w.2.1.length) i x).2.1=I0 w w.2.1.length\/(uS w (I0 w w.2.1.length) i x).2.1=x.2.1:=λ i x=>by
      unfold uS; split
      . exact .inl rfl
      . exact .inr rfl
    have cJ:∀ i x,(uS w (I0 w w.2.1.length) i x).2.2.1.2.1.length<=x.2.2.1.2.1.length:=λ i x=>by
      unfold uS; split
      . exact List.length_drop ..▸Nat.sub_le _ _
      . exact Nat.le_refl _
    refine ⟨⟨lu,⟨λ i=>?_,Nat.zero_le _,λ i=>?_,λ i=>?_⟩,B',S',[],?_⟩,hlen,λ i=>?_,λ i hi=>?_,λ i hi hm=>?_⟩
    . by_cases hi:i<w.2.1.length
      . rw [cE i hi];have:=h.sz.log i;rcases fc i (w.2.1.getD i j7) with e|e
        . rw [e]; omega
        . rw [e]; omega
      . rw [eK i hi]; exact Nat.zero_le _
    . by_cases hi:i<w.2.1.length
      . rw [cE i hi];rcases fc i (w.2.1.getD i j7) with e|e
        . rw [e]; exact og.2
        . rw [e]; exact h.sz.txt i
      . rw [eK i hi]; exact λ s hs=>by cases hs
    . by_cases hi:i<w.2.1.length
      . rw [cE i hi]; exact Nat.le_trans (cJ _ _) (h.sz.late i)
      . rw [eK i hi]; exact Nat.zero_le _
    . rw [wD,if_neg (λ c=>c1 c.1)]; exact tO
    . by_cases hi:i<w.2.1.length
      . exact h2 i hi
      . have e:w.2.1.getD i j7=j7:=by rw [List.getD_eq_getElem?_getD,List.getElem?_eq_none (by omega)]; rfl
        rw [e]; exact List.nil_prefix
    . rw [cE i hi,LS,decide_eq_false (λ c=>c4 c.1),Bool.or_false]
    . rw [lQ i hi] at hm; exact (yO.1 hm).2.1
  . rw [if_neg c5]; exact stay _ (λ e=>absurd e c1) (λ e=>absurd e c4)
attribute [local irreducible] Go.Ex.exec
def K9 (n:Int):Int:=rest n 6+1
theorem Mo (n:Int):1<=K9 n/\K9 n<=6:=by have:=ND (a:=n) (n:=6) (by omega); unfold K9; omega
def Fh:o7:={ ps:=[.v d9],rs:=[d9],pre:=λ _=>True,fn:=λ x=>(K9 x.1,()),out:=λ _=>() }
noncomputable def EY:Env:={ P:=Tryz.prog,tt:=tt,C5:=[(39,Gn)],res:=[Go.ResultVar.tmp 2],rs:=[Ty.int IntKind.i64],ps:=[PK.v d9],y8:=[],nt:=6 }
theorem My:w5 EY:=w9 p7 ⟨b7H,trivial⟩
theorem MH:B8 EY Tryz.f13:=⟨rfl,rfl⟩
theorem Tr (x0:Int):exec EY 1000 [.code (d8 Tryz.prog 13)] (s7 Fh.ps ((x0,()))) =
  .f7 ((6:Int)<=(1000000000:Int)) (.f7 (r7 IntKind.i64 (rest x0 (6:Int)+(1:Int))) (.ret ((rest x0 (6:Int)+(1:Int),())))):=by kernel_rfl
theorem c00:Fh.Valid Tryz.prog 13:=by
  refine o7.n8 My rfl rfl Tryz.func13 (c:=d8 Tryz.prog 13) rfl rfl MH rfl ?_;rintro ⟨(n:Int),⟨⟩⟩ - -
  refine j6 (n:=1000) My MH ?_;refine i6 (Tr n) ?_;have:=Mo n;have:=ND (a:=n) (n:=6) (by omega);simp only [j5,Tree.holds,sL];exact ⟨by decide,λ _=>⟨by omega,λ _=>rfl⟩⟩
def xd (n:Int):f9:=((0,AF n,()),List.replicate n.toNat j7,[],[],())
def Gh:o7:={ ps:=[.v d9],rs:=[.box true none s5,d9],pre:=λ x=>LE.le (α:=Int) 1 x.1/\LE.le (α:=Int) x.1 6,fn:=λ x=>(some (xd x.1),0,()),out:=λ _=>() }
theorem YX {n:Int} (h:1<=n/\n<=6):CH n=(some (xd n),0,()):=if_pos (U4.2 h)
theorem b7O:Gh.Valid Tryz.prog 14:=by
  refine ⟨RD.ent,λ w S vs x L hS dY aV hK hJ fD ee=>?_,λ h=>by cases h⟩;obtain ⟨(n:Int),⟨⟩⟩:=x;have:=RD.run w S vs (n,()) L hS dY trivial hK hJ fD ee;rw [show Fi.fn (n,())=Gh.fn (n,()) from YX aV] at this;exact this
def Gs:o7:={ ps:=[.rw s5,.v vr],rs:=[d9],pre:=λ x=>Good x.1,fn:=λ x=>((R2 x.1 x.2.1).2,()),out:=λ x=>((R2 x.1 x.2.1).1,()) }
noncomputable def GM:Env:={ P:=Tryz.prog,tt:=tt,C5:=[(15,Fj),(26,Hk),(18,CS),(37,Gv),(25,OX)],res:=[Go.ResultVar.tmp 4],rs:=[Ty.int IntKind.i64],ps:=[PK.rw s5,PK.v vr],y8:=[],nt:=39 }
theorem Qe:w5 GM:=w9 p7 ⟨c0E,b5N,Sc,b70,b2c,trivial⟩
theorem PD:B8 GM Tryz.f51:=⟨rfl,rfl⟩
theorem Wj (ai:Int) (af:Int) (ab:List n6) (ae:List yY) (aa:List yY) (bL:Int) (aM:Int) (aI:Int) (aY:yY):exec GM 1000 [.code (d8 Tryz.prog 51)] (s7 Gs.ps ((((ai,af,()),ab,ae,aa,()),(bL,aM,aI,aY,()),()))) =
  cond (decide (bL=(1:Int))) (.f7 (List.length ab<=6) (.ret ((Prod.snd (uZ ((ai,af,()),ab,ae,aa,()) aM aY),Prod.fst (uZ ((ai,af,()),ab,ae,aa,()) aM aY),())))) (cond (decide (bL=(2:Int))) (.f7 (List.length ab<=6) (.ret ((Prod.snd (V1 ((ai,af,()),ab,ae,aa,()) aM),Prod.fst (V1 ((ai,af,()),ab,ae,aa,()) aM),())))) (cond (decide (bL=(3:Int))) (.f7 (Bp ((ai,af,()),ab,ae,aa,())) (.ret ((Prod.snd (F6 ((ai,af,()),ab,ae,aa,()) aM aI),Prod.fst (F6 ((ai,af,()),ab,ae,aa,()) aM aI),())))) (cond (decide (bL=(4:Int))) (.f7 (List.length ab<=6) (.ret ((Prod.snd (vC ((ai,af,()),ab,ae,aa,()) aM),Prod.fst (vC ((ai,af,()),ab,ae,aa,()) aM),())))) (cond (decide (bL=(5:Int))) (.f7 (yJ ((ai,af,()),ab,ae,aa,())) (.ret ((Prod.snd (S3 ((ai,af,()),ab,ae,aa,())),Prod.fst (S3 ((ai,af,()),ab,ae,aa,())),())))) (.ret (((1:Int),((ai,af,()),ab,ae,aa,()),()))))))):=by kernel_rfl
attribute [local irreducible] R2 uZ V1 F6 vC S3 in
theorem b74:Gs.Valid Tryz.prog 51:=by
  refine o7.n8 Qe rfl rfl Tryz.func51 (c:=d8 Tryz.prog 51) rfl rfl PD rfl ?_;rintro ⟨⟨⟨(v0:Int),(v1:Int),⟨⟩⟩,(al:List n6),(od:List yY),(wy:List yY),⟨⟩⟩,⟨(k:Int),(who:Int),(bA:Int),(t:yY),⟨⟩⟩,⟨⟩⟩ (hg:Good ((v0,v1,()),al,od,wy,())) -
  refine j6 (n:=1000) Qe PD ?_;refine i6 (Wj v0 v1 al od wy k who bA t) ?_;simp only [j5,Tree.holds,sL];have key:∀ r:f9×Int,R2 ((v0,v1,()),al,od,wy,()) (k,who,bA,t,())=r->(((r.2,r.1,()):Int×f9×Unit)=((R2 ((v0,v1,()),al,od,wy,()) (k,who,bA,t,())).2,(R2 ((v0,v1,()),al,od,wy,()) (k,who,bA,t,())).1,())):=by rintro r rfl; rfl
  have e0:=R2.eq_1 ((v0,v1,()),al,od,wy,()) (k,who,bA,t,());refine ⟨λ c=>⟨hg.move.K9,λ _=>key _ (e0.trans (if_pos c))⟩,λ c1=>⟨λ c=>⟨hg.move.K9,λ _=>key _ (e0.trans ((if_neg c1).trans (if_pos c)))⟩,λ c2=>⟨λ c=>⟨hg.move,λ _=>key _ (e0.trans ((if_neg c1).trans ((if_neg c2).trans (if_pos c))))⟩,λ c3=>⟨λ c=>⟨hg.move.K9,λ _=>key _ (e0.trans ((if_neg c1).trans ((if_neg c2).trans ((if_neg c3).trans (if_pos c)))))⟩,
    λ c4=>⟨λ c=>⟨hg.change,λ _=>key _ (e0.trans ((if_neg c1).trans ((if_neg c2).trans ((if_neg c3).trans ((if_neg c4).trans (if_pos c))))))⟩,λ c5=>key (_,_) (e0.trans ((if_neg c1).trans ((if_neg c2).trans ((if_neg c3).trans ((if_neg c4).trans (if_neg c5))))))⟩⟩⟩⟩⟩
end Go.Proofs.YtijlnmgondibnaaGreatDoor
namespace Go.Proofs.YtijlnmgondibnaaGreatDoor
open Go.Ex
set_option maxRecDepth 100000
theorem Pm {n i:Nat}:(List.replicate n j7).getD i j7=j7:=by
  rw [List.getD_eq_getElem?_getD,List.getElem?_replicate]
  split<;>rfl
theorem UG {n:Int} (h:1<=n/\n<=6):Ok 0 (λ _=>[]) (xd n):=by
  have hr:∀ i,(xd n).2.1.getD i j7=j7:=λ i=>Pm;have hl:(xd n).2.1.length=n.toNat:=List.length_replicate ..;refine ⟨S8 (k:=.u8) _,⟨λ i=>?_,Nat.zero_le _,λ i=>?_,λ i=>?_⟩,[],λ _=>[],[],?_⟩
  . rw [hr]; exact Nat.zero_le _
  . rw [hr]; exact λ s hs=>by cases hs
  . rw [hr]; exact Nat.zero_le _
  . refine ⟨by rw [hl]; omega,Nat.zero_le _,rfl,λ x hx=>(by cases hx),λ p=>List.nil_prefix,λ p=>Nat.zero_le _,λ s hs=>(by cases hs),λ p hp=>?_,λ p hp hv=>?_,λ p hp hv=>⟨rfl,List.prefix_rfl⟩,λ s hs=>(by cases hs)⟩
    . rw [hr]; exact ⟨rfl,λ q hq=>by cases hq⟩
    . rw [hr];exact ⟨⟨0,Nat.le_refl _,rfl,λ q hq=>(by cases hq),rfl,rfl,rfl⟩,rfl⟩
def CV:G5:=(0,0,0,[],())
def GC (k bA:Int):G5:=(3,k,bA,[],())
theorem Xk (w:f9) (k bA:Int):R2 w (GC k bA)=F6 w k bA:=by
  unfold R2 GC;rw [if_neg (show ¬ (3:Int)=1 by decide),if_neg (show ¬ (3:Int)=2 by decide),if_pos rfl]
theorem Ok.GD {c:Nat} {said:Nat->List C9} {w:f9} (h:Ok c said w) (k bA:Int):Ok (c+16) said (F6 w k bA).1:=by
  have:=(DJ h (GC k bA)).ok;rw [Xk] at this;exact this
def Ff (p:Int) (t:C9):G5:=(1,p,0,t,())
theorem VL (w:f9) (p:Int) (t:C9):R2 w (Ff p t)=uZ w p t:=by
  unfold R2 Ff;exact if_pos rfl
theorem Ok.c80 {c:Nat} {said:Nat->List C9} {w:f9} (h:Ok c said w) (p:Int) (t:C9):∃ said',Ok (c+16) said' (uZ w p t).1:=by
  have:=(DJ h (Ff p t)).ok;rw [VL] at this;exact ⟨_,this⟩
attribute [local irreducible] Go.Ex.exec
abbrev CE:yY:=[115,101,116,32]
abbrev spT:yY:=[32]
def Dl (i:Nat) (d:G5):G5:=if d.1=1 then (d.1,d.2.1,d.2.2.1,CE++C7 (Int.tmod i 10)++spT++C7 i,()) else d
abbrev vB:=f9×List (List C9)×List Int
def yf (n:Int) (s:vB) (d:G5):vB :=
  if (R2 s.1 d).2≠0\/d.2.1<0\/n<=d.2.1 then ((R2 s.1 d).1,s.2) else
  ((R2 s.1 d).1,if d.1=1 then s.2.1.set d.2.1.toNat (s.2.1.getD d.2.1.toNat []++[d.2.2.2.1]) else s.2.1,if d.1=4 then s.2.2++[d.2.1] else s.2.2)
def G2 (n:Int) (l:List G5):Nat->vB
  | 0=>(xd n,List.replicate n.toNat [],[])
  | i+1=>yf n (G2 n l i) (Dl i (l.getD i CV))
def HU:o7:={ ps:=[.v d9,.v (.d0 false vr)],rs:=[.box true none s5,.d0 true (.d0 true .str),.d0 true d9,.bool],pre:=λ x=>(LE.le (α:=Int) 1 x.1/\LE.le (α:=Int) x.1 6)/\List.length (α:=G5) x.2.1<=1048576,fn:=λ x=>(some (G2 x.1 x.2.1 (List.length (α:=G5) x.2.1)).1,(G2 x.1 x.2.1 (List.length (α:=G5) x.2.1)).2.1,(G2 x.1 x.2.1 (List.length (α:=G5) x.2.1)).2.2,true,()),out:=λ _=>() }
noncomputable def Bs:Env:={ P:=Tryz.prog,tt:=tt,C5:=[(14,Gh),(50,Ha),(51,Gs)],res:=[Go.ResultVar.tmp 4,Go.ResultVar.tmp 5,Go.ResultVar.tmp 6,Go.ResultVar.tmp 7],rs:=[Ty.box true none s5,Ty.d0 true (Ty.d0 true Ty.str),Ty.d0 true d9,Ty.bool],ps:=[PK.v d9,PK.v (Ty.d0 false vr)],y8:=[(7,[(0,none),(8,none),(10,some (Ty.d0 true (Ty.d0 true Ty.str))),(11,some Is),(28,none),(29,none),(30,none)])],nt:=91 }
theorem Kj:w5 Bs:=w9 p7 ⟨b7O,SQ,b74,trivial⟩
theorem KS:B8 Bs Tryz.f23:=⟨rfl,rfl⟩
theorem ZG (x0:Int) (x1:List (Int×Int×Int×yY×Unit)):exec Bs 1000 [.code (d8 Tryz.prog 23)] (s7 HU.ps ((x0,x1,()))) =
  .f7 ((1:Int)<=x0/\x0<=(6:Int)) (.f7 ((0:Int)<=x0/\x0<=x0/\x0<=(140737488355328:Int)/\x0*(↑(Ty.wb (Ty.d0 true Ty.str)):Int)<=(140737488355328:Int)) (.ctL (f8 (d8 Tryz.prog 23) 7) (St.mk [(0,AV.val d9 x0),(8,AV.ptr 1017 []),(10,AV.at_ 1000010 []),(11,AV.at_ 1000011 []),(28,AV.val (Ty.d0 false vr) x1),(29,AV.val d9 (↑(List.length x1):Int)),(30,AV.val d9 (0:Int))] [(1017,g8.var s5 (((0:Int),AF x0,()),List.replicate (Int.toNat x0) j7,[],[],())),(1000010,g8.own (Ty.d0 true (Ty.d0 true Ty.str)) (List.replicate (Int.toNat x0) [])),(1000011,g8.own Is [])]))):=by kernel_rfl
def a49 (v0:Int) (v28:List (Int×Int×Int×yY×Unit)) (wc:Int) (v30:Int) (dC:Int) (cM:Int) (dB:List n6) (cL:List yY) (ch:List yY) (cp:List (List yY)) (bs:List Int):St:=St.mk [(0,AV.val d9 v0),(8,AV.ptr 1017 []),(10,AV.at_ 1000010 []),(11,AV.at_ 1000011 []),(28,AV.val (Ty.d0 false vr) v28),(29,AV.val d9 wc),(30,AV.val d9 v30)] [(1017,g8.var s5 ((dC,cM,()),dB,cL,ch,())),(1000010,g8.own (Ty.d0 true (Ty.d0 true Ty.str)) cp),(1000011,g8.own Is bs)]
theorem b8g (v0:Int) (v28:List (Int×Int×Int×yY×Unit)) (wc:Int) (v30:Int) (dC:Int) (cM:Int) (dB:List n6) (cL:List yY) (ch:List yY) (cp:List (List yY)) (bs:List Int):exec Bs 1000 (.code (f8 (d8 Tryz.prog 23) 7).1::.inLoop (f8 (d8 Tryz.prog 23) 7).1::(f8 (d8 Tryz.prog 23) 7).2) (a49 v0 v28 wc v30 dC cM dB cL ch cp bs) =
  let q2:=(List.getD v28 (Int.toNat v30) ((0:Int),(0:Int),(0:Int),[],())); let q4:=(ByteArray.data (ByteArray.mk #[115,101,116,32])); let q6:=(30,AV.val d9 (v30+(1:Int))); let q7:=(1000010,g8.own (Ty.d0 true (Ty.d0 true Ty.str)) cp); let q8:=(List.set [(0:Int)] (Int.toNat (↑0:Int)) (Prod.fst (Prod.snd q2))); let q9:=(29,AV.val d9 wc); let yV:=((dC,cM,()),dB,cL,ch,()); let vq:=(r7 IntKind.i64 (v30+(1:Int))); let vp:=(0,AV.val d9 v0); let xz:=(Int.toNat (Prod.fst (Prod.snd q2))); let Cn:=(1000011,g8.own Is (bs++List.set [(0:Int)] (Int.toNat (↑0:Int)) (Prod.fst (Prod.snd q2)))); let Cm:=p9; let q3:=(28,AV.val (Ty.d0 false (Ty.pair d9 (Ty.pair d9 Cm))) v28); let q5:=(Ty.pair View (Ty.pair (Ty.d0 true (Ty.pair Ty.bool (Ty.pair (Ty.d0 true Cm) (Ty.pair P0 (Ty.pair (Ty.pair d9 (Ty.pair (Ty.d0 false Cm) Ty.unit)) (Ty.pair (Ty.pair d9 (Ty.pair (Ty.d0 false Cm) Ty.unit)) Ty.unit)))))) (Ty.pair (Ty.d0 true Ty.str) (Ty.pair (Ty.d0 true Ty.str) Ty.unit)))); let q1:=(1017,g8.var q5 (Prod.fst (R2 yV q2))); let Cl:=(ByteArray.data (ByteArray.mk #[32])); let ER:=(Array.toList q4++C7 (Int.tmod v30 (10:Int))++Array.toList Cl++C7 v30); let Lb:=(1000010,g8.own (Ty.d0 true (Ty.d0 true Ty.str)) (List.set cp xz (List.getD cp xz []++List.set [[]] (Int.toNat (↑0:Int)) ER))); let Ck:=(List.length bs+List.length q8); let Cj:=(Prod.snd (Prod.snd (Prod.snd q2))); let Ld:=(R2 yV (Prod.fst q2,Prod.fst (Prod.snd q2),Prod.fst (Prod.snd (Prod.snd q2)),Array.toList q4++C7 (Int.tmod v30 (10:Int))++Array.toList Cl++C7 v30,Prod.snd Cj)); let q0:=(1017,g8.var q5 (Prod.fst Ld)); let Lc:=(1000010,g8.own (Ty.d0 true (Ty.d0 true Ty.str)) (List.set cp xz (List.getD cp xz []++List.set [[]] (Int.toNat (↑0:Int)) (Prod.fst Cj)))); cond (decide (v30<wc)) (.f7 ((0:Int)<=v30/\v30<(↑(List.length v28):Int)) (cond (decide (Prod.fst q2=(1:Int))) (.f7 ((0:Int)<(10:Int)) (.f7 (True) (.f7 (List.length (Array.toList q4)+List.length (C7 (Int.tmod v30 (10:Int)))<=Go.maxLen) (.f7 (List.length (Array.toList q4++C7 (Int.tmod v30 (10:Int)))+List.length (Array.toList Cl)<=Go.maxLen) (.f7 (True) (.f7 (List.length (Array.toList q4++C7 (Int.tmod v30 (10:Int))++Array.toList Cl)+List.length (C7 v30)<=Go.maxLen) (.f7 (Good yV) (cond (decide (Prod.snd Ld≠(0:Int))) (.f7 vq (.ctL (f8 (d8 Tryz.prog 23) 7) (St.mk [vp,(8,AV.ptr 1017 []),(10,AV.at_ 1000010 []),(11,AV.at_ 1000011 []),q3,q9,q6] [q0,q7,(1000011,g8.own Is bs)]))) (cond (decide (Prod.fst (Prod.snd q2)<(0:Int))) (.f7 vq (.ctL (f8 (d8 Tryz.prog 23) 7) (St.mk [vp,(8,AV.ptr 1017 []),(10,AV.at_ 1000010 []),(11,AV.at_ 1000011 []),q3,q9,q6] [q0,q7,(1000011,g8.own Is bs)]))) (cond (decide (v0<=Prod.fst (Prod.snd q2))) (.f7 vq (.ctL (f8 (d8 Tryz.prog 23) 7) (St.mk [vp,(8,AV.ptr 1017 []),(10,AV.at_ 1000010 []),(11,AV.at_ 1000011 []),q3,q9,q6] [q0,q7,(1000011,g8.own Is bs)]))) (cond (decide (Prod.fst q2=(1:Int))) (.f7 ((0:Int)<=Prod.fst (Prod.snd q2)/\Prod.fst (Prod.snd q2)<(↑(List.length cp):Int)) (.f7 ((0:Int)<=Prod.fst (Prod.snd q2)/\Prod.fst (Prod.snd q2)<(↑(List.length cp):Int)) (.f7 ([]++[Step.idx (Prod.fst (Prod.snd q2))]=[]++[Step.idx (Prod.fst (Prod.snd q2))]/\List.length (List.getD cp xz [])+List.length (List.set [[]] (Int.toNat (↑0:Int)) ER)<=140737488355328/\(List.length (List.getD cp xz [])+List.length (List.set [[]] (Int.toNat (↑0:Int)) ER))*Ty.wb Ty.str<=140737488355328) (cond (decide (Prod.fst q2=(4:Int))) (.f7 (List.length bs+List.length q8<=140737488355328/\Ck*Ty.wb d9<=140737488355328) (.f7 vq (.ctL (f8 (d8 Tryz.prog 23) 7) (St.mk [vp,(8,AV.ptr 1017 []),(10,AV.at_ 1000010 []),(11,AV.at_ 1000011 []),q3,q9,q6] [q0,Lb,Cn])))) (.f7 vq (.ctL (f8 (d8 Tryz.prog 23) 7) (St.mk [vp,(8,AV.ptr 1017 []),(10,AV.at_ 1000010 []),(11,AV.at_ 1000011 []),q3,q9,q6] [q0,Lb,(1000011,g8.own Is bs)]))))))) (cond (decide (Prod.fst q2=(4:Int))) (.f7 (List.length bs+List.length q8<=140737488355328/\Ck*Ty.wb d9<=140737488355328) (.f7 vq (.ctL (f8 (d8 Tryz.prog 23) 7) (St.mk [vp,(8,AV.ptr 1017 []),(10,AV.at_ 1000010 []),(11,AV.at_ 1000011 []),q3,q9,q6] [q0,q7,Cn])))) (.f7 vq (.ctL (f8 (d8 Tryz.prog 23) 7) (St.mk [vp,(8,AV.ptr 1017 []),(10,AV.at_ 1000010 []),(11,AV.at_ 1000011 []),q3,q9,q6] [q0,q7,(1000011,g8.own Is bs)]))))))))))))))) (.f7 (Good yV) (cond (decide (Prod.snd (R2 yV q2)≠(0:Int))) (.f7 vq (.ctL (f8 (d8 Tryz.prog 23) 7) (St.mk [vp,(8,AV.ptr 1017 []),(10,AV.at_ 1000010 []),(11,AV.at_ 1000011 []),q3,q9,q6] [q1,q7,(1000011,g8.own Is bs)]))) (cond (decide (Prod.fst (Prod.snd q2)<(0:Int))) (.f7 vq (.ctL (f8 (d8 Tryz.prog 23) 7) (St.mk [vp,(8,AV.ptr 1017 []),(10,AV.at_ 1000010 []),(11,AV.at_ 1000011 []),q3,q9,q6] [q1,q7,(1000011,g8.own Is bs)]))) (cond (decide (v0<=Prod.fst (Prod.snd q2))) (.f7 vq (.ctL (f8 (d8 Tryz.prog 23) 7) (St.mk [vp,(8,AV.ptr 1017 []),(10,AV.at_ 1000010 []),(11,AV.at_ 1000011 []),q3,q9,q6] [q1,q7,(1000011,g8.own Is bs)]))) (cond (decide (Prod.fst q2=(1:Int))) (.f7 ((0:Int)<=Prod.fst (Prod.snd q2)/\Prod.fst (Prod.snd q2)<(↑(List.length cp):Int)) (.f7 ((0:Int)<=Prod.fst (Prod.snd q2)/\Prod.fst (Prod.snd q2)<(↑(List.length cp):Int)) (.f7 ([]++[Step.idx (Prod.fst (Prod.snd q2))]=[]++[Step.idx (Prod.fst (Prod.snd q2))]/\List.length (List.getD cp xz [])+List.length (List.set [[]] (Int.toNat (↑0:Int)) (Prod.fst Cj))<=140737488355328/\(List.length (List.getD cp xz [])+List.length (List.set [[]] (Int.toNat (↑0:Int)) (Prod.fst Cj)))*Ty.wb Ty.str<=140737488355328) (cond (decide (Prod.fst q2=(4:Int))) (.f7 (List.length bs+List.length q8<=140737488355328/\Ck*Ty.wb d9<=140737488355328) (.f7 vq (.ctL (f8 (d8 Tryz.prog 23) 7) (St.mk [vp,(8,AV.ptr 1017 []),(10,AV.at_ 1000010 []),(11,AV.at_ 1000011 []),q3,q9,q6] [q1,Lc,Cn])))) (.f7 vq (.ctL (f8 (d8 Tryz.prog 23) 7) (St.mk [vp,(8,AV.ptr 1017 []),(10,AV.at_ 1000010 []),(11,AV.at_ 1000011 []),q3,q9,q6] [q1,Lc,(1000011,g8.own Is bs)]))))))) (cond (decide (Prod.fst q2=(4:Int))) (.f7 (List.length bs+List.length q8<=140737488355328/\Ck*Ty.wb d9<=140737488355328) (.f7 vq (.ctL (f8 (d8 Tryz.prog 23) 7) (St.mk [vp,(8,AV.ptr 1017 []),(10,AV.at_ 1000010 []),(11,AV.at_ 1000011 []),q3,q9,q6] [q1,q7,Cn])))) (.f7 vq (.ctL (f8 (d8 Tryz.prog 23) 7) (St.mk [vp,(8,AV.ptr 1017 []),(10,AV.at_ 1000010 []),(11,AV.at_ 1000011 []),q3,q9,q6] [q1,q7,(1000011,g8.own Is bs)]))))))))))) (.ret ((some yV,cp,bs,true,()))):=by kernel_rfl
def I7:Nat->f9->f9×Bool
  | 0,w=>(w,decide ((w.2.2.2.1.length:Int)=0))
  | k+1,w=>if (w.2.2.2.1.length:Int)=0 then (w,true) else if (F6 w 0 1).2≠0 then ((F6 w 0 1).1,false) else I7 k (F6 w 0 1).1
structure Fit (most:Int) (w:f9):Prop where
  nn:0<=most/\most<=1000000
  ok:∃ c said,Ok c said w/\c<=100000000000
def Jd:o7:={ ps:=[.rw s5,.v d9],rs:=[.bool],pre:=λ x=>Fit x.2.1 x.1,fn:=λ x=>((I7 (Int.toNat x.2.1) x.1).2,()),out:=λ x=>((I7 (Int.toNat x.2.1) x.1).1,()) }
noncomputable def Bz:Env:={ P:=Tryz.prog,tt:=tt,C5:=[(17,Fl),(18,CS)],res:=[Go.ResultVar.tmp 4],rs:=[Ty.bool],ps:=[PK.rw s5,PK.v d9],y8:=[(2,[(0,none),(5,none),(6,none)])],nt:=18 }
theorem KD:w5 Bz:=w9 p7 ⟨ZU,Sc,trivial⟩
theorem KG:B8 Bz Tryz.f16:=⟨rfl,rfl⟩
theorem b8j (ai:Int) (af:Int) (ab:List n6) (ae:List yY) (aa:List yY) (x1:Int):exec Bz 1000 [.code (d8 Tryz.prog 16)] (s7 Jd.ps ((((ai,af,()),ab,ae,aa,()),x1,()))) =
  .ctL (f8 (d8 Tryz.prog 16) 2) (St.mk [(0,AV.ptr 2000000 []),(5,AV.val d9 x1),(6,AV.val d9 (0:Int))] [(2000000,g8.var s5 ((ai,af,()),ab,ae,aa,()))]):=by kernel_rfl
def KE (v5:Int) (v6:Int) (ar:Int) (an:Int) (aj:List n6) (ak:List yY) (ah:List yY):St:=St.mk [(0,AV.ptr 2000000 []),(5,AV.val d9 v5),(6,AV.val d9 v6)] [(2000000,g8.var s5 ((ar,an,()),aj,ak,ah,()))]
theorem b6Q (v5:Int) (v6:Int) (ar:Int) (an:Int) (aj:List n6) (ak:List yY) (ah:List yY):exec Bz 1000 (.code (f8 (d8 Tryz.prog 16) 2).1::.inLoop (f8 (d8 Tryz.prog 16) 2).1::(f8 (d8 Tryz.prog 16) 2).2) (KE v5 v6 ar an aj ak ah) =
  cond (decide (v6<v5)) (.f7 (True) (cond (decide ((↑(List.length ah):Int)=(0:Int))) (.ret ((true,((ar,an,()),aj,ak,ah,()),()))) (.f7 (Bp ((ar,an,()),aj,ak,ah,())) (cond (decide (Prod.snd (F6 ((ar,an,()),aj,ak,ah,()) (0:Int) (1:Int))≠(0:Int))) (.ret ((false,Prod.fst (F6 ((ar,an,()),aj,ak,ah,()) (0:Int) (1:Int)),()))) (.f7 (r7 IntKind.i64 (v6+(1:Int))) (.ctL (f8 (d8 Tryz.prog 16) 2) (St.mk [(0,AV.ptr 2000000 []),(5,AV.val d9 v5),(6,AV.val d9 (v6+(1:Int)))] [(2000000,g8.var s5 (Prod.fst (F6 ((ar,an,()),aj,ak,ah,()) (0:Int) (1:Int))))]))))))) (.f7 (True) (.ret ((decide ((↑(List.length ah):Int)=(0:Int)),((ar,an,()),aj,ak,ah,()),())))):=by kernel_rfl
attribute [local irreducible] F6 in
theorem b2a:Jd.Valid Tryz.prog 16:=by
  refine o7.n8 KD rfl rfl Tryz.func16 (c:=d8 Tryz.prog 16) rfl rfl KG rfl ?_;rintro ⟨⟨⟨(v0:Int),(v1:Int),⟨⟩⟩,(al:List n6),(od:List yY),(wy:List yY),⟨⟩⟩,(most:Int),⟨⟩⟩ (hf:Fit most ((v0,v1,()),al,od,wy,())) -
  refine j6 (n:=1000) KD KG ?_;refine i6 (b8j v0 v1 al od wy most) ?_;obtain ⟨c0,said,aL,eN⟩:=hf.ok;have hm:=hf.nn;obtain ⟨w0,qz⟩:∃ w:f9,w=((v0,v1,()),al,od,wy,()):=⟨_,rfl⟩;rw [<- qz] at aL;have key:∀ (w:f9) (i:Nat),I7 most.toNat w0=I7 (most.toNat - i) w->∀ r:f9×Bool,I7 (most.toNat - i) w=r->(((r.2,r.1,()):Bool×f9×Unit)=((I7 most.toNat w0).2,(I7 most.toNat w0).1,())):=by
    rintro w i e r rfl; rw [e]
  suffices go:Go.Ex.Reach Bz Tryz.f16 ((I7 most.toNat w0).2,()) ((I7 most.toNat w0).1,()) (.code (f8 (d8 Tryz.prog 16) 2).1::.inLoop (f8 (d8 Tryz.prog 16) 2).1::(f8 (d8 Tryz.prog 16) 2).2) (KE most ((0:Nat):Int) w0.1.1 w0.1.2.1 w0.2.1 w0.2.2.1 w0.2.2.2.1) by
    subst qz; exact go
  refine Reach.J8 KD KG (λ i:Nat×f9=>KE most (i.1:Int) i.2.1.1 i.2.1.2.1 i.2.2.1 i.2.2.2.1 i.2.2.2.2.1) (λ i=>i.1<=most.toNat/\I7 most.toNat w0=I7 (most.toNat - i.1) i.2/\Ok (c0+16*i.1) said i.2)
    (λ i=>most.toNat - i.1) 1000 (λ _=>⟨r8 rfl,r8 rfl⟩) ?_ (0,w0) ⟨Nat.zero_le _,rfl,aL⟩
  rintro ⟨i,w⟩ ⟨k1,k2,k3⟩ - ih;have k1:i<=most.toNat:=k1;have k2:I7 most.toNat w0=I7 (most.toNat - i) w:=k2;have k3:Ok (c0+16*i) said w:=k3;have ih1:i<most.toNat->I7 most.toNat w0=I7 (most.toNat - (i+1)) (F6 w 0 1).1->_:=λ h e=>ih (i+1,(F6 w 0 1).1) ⟨by show i+1<=most.toNat; omega,e,by rw [show c0+16*(i+1)=c0+16*i+16 by omega]; exact k3.GD 0 1⟩ (by show most.toNat - (i+1)<most.toNat - i; omega);refine i6 (b6Q ..) ?_;have e1:((i:Nat):Int)+1=((i+1:Nat):Int):=by omega
  obtain ⟨⟨u0,u1,⟨⟩⟩,ual,uod,uwy,⟨⟩⟩:=w;simp only [j5,Tree.holds,e1,sL];have e2:i<most.toNat->I7 (most.toNat - i) ((u0,u1,()),ual,uod,uwy,())=if (uwy.length:Int)=0 then (((u0,u1,()),ual,uod,uwy,()),true) else if (F6 ((u0,u1,()),ual,uod,uwy,()) 0 1).2≠0 then ((F6 ((u0,u1,()),ual,uod,uwy,()) 0 1).1,false) else I7 (most.toNat - (i+1)) (F6 ((u0,u1,()),ual,uod,uwy,()) 0 1).1:=λ h=>by
    rw [show most.toNat - i=(most.toNat - (i+1))+1 by omega,I7]
  refine ⟨λ c=>⟨λ d=>?_,λ d=>⟨(k3.Aq (by omega)).move,λ _=>⟨λ e=>?_,λ e=>⟨G0.2 ⟨by omega,by omega⟩,λ _=>?_⟩⟩⟩⟩,λ c=>?_⟩
  . exact key _ i k2 (_,_) ((e2 (by omega)).trans (if_pos d))
  . exact key _ i k2 (_,_) ((e2 (by omega)).trans ((if_neg d).trans (if_pos e)))
  . exact ih1 (by omega) (k2.trans ((e2 (by omega)).trans ((if_neg d).trans (if_neg (by simpa using e)))))
  . obtain rfl:i=most.toNat:=by omega
    exact key _ _ k2 (_,_) (by rw [Nat.sub_self]; rfl)
def Gb:o7:={ ps:=[.v (.d0 false d9),.v d9],rs:=[d9],pre:=λ _=>True,fn:=λ x=>(idxOf (λ y=>decide ((show Int from x.2.1)=y)) x.1,()),out:=λ _=>() }
noncomputable def CK:Env:={ P:=Tryz.prog,tt:=tt,C5:=[],res:=[Go.ResultVar.tmp 4],rs:=[Ty.int IntKind.i64],ps:=[PK.v (Ty.d0 false d9),PK.v d9],y8:=[(2,[(0,none),(1,none),(7,none),(8,none)])],nt:=19 }
theorem Jf:w5 CK:=w9 p7 trivial
theorem IS:B8 CK Tryz.f69:=⟨rfl,rfl⟩
theorem Us (x0:List Int) (x1:Int):exec CK 1000 [.code (d8 Tryz.prog 69)] (s7 Gb.ps ((x0,x1,()))) =
  .ctL (f8 (d8 Tryz.prog 69) 2) (St.mk [(0,AV.val (Ty.d0 false d9) x0),(1,AV.val d9 x1),(7,AV.val d9 (↑(List.length x0):Int)),(8,AV.val d9 (0:Int))] []):=by kernel_rfl
def OD (v0:List Int) (v1:Int) (v7:Int) (v8:Int):St:=St.mk [(0,AV.val (Ty.d0 false d9) v0),(1,AV.val d9 v1),(7,AV.val d9 v7),(8,AV.val d9 v8)] []
theorem Wt (v0:List Int) (v1:Int) (v7:Int) (v8:Int):exec CK 1000 (.code (f8 (d8 Tryz.prog 69) 2).1::.inLoop (f8 (d8 Tryz.prog 69) 2).1::(f8 (d8 Tryz.prog 69) 2).2) (OD v0 v1 v7 v8) =
  cond (decide (v8<v7)) (.f7 ((0:Int)<=v8/\v8<(↑(List.length v0):Int)) (cond (decide (v1=List.getD v0 (Int.toNat v8) (0:Int))) (.ret ((v8,()))) (.f7 (r7 IntKind.i64 (v8+(1:Int))) (.ctL (f8 (d8 Tryz.prog 69) 2) (St.mk [(0,AV.val (Ty.d0 false d9) v0),(1,AV.val d9 v1),(7,AV.val d9 v7),(8,AV.val d9 (v8+(1:Int)))] []))))) (.ret (((-1:Int),()))):=by kernel_rfl
theorem b7W:Gb.Valid Tryz.prog 69:=by
  refine o7.n8 Jf rfl rfl Tryz.func69 (c:=d8 Tryz.prog 69) rfl rfl IS rfl ?_;rintro ⟨(l:List (Int)),(x:Int),⟨⟩⟩ - ⟨⟨hl,-⟩,-⟩;have hl:l.length<=9223372036854775807:=hl;refine j6 (n:=1000) Jf IS ?_;refine i6 (Us l x) ?_;refine Reach.J8 Jf IS (λ i:Nat=>OD l x (l.length:Int) (i:Int) ) (λ i=>i<=l.length/\idxOf (λ y=>decide (x=y)) l=Z8 (λ y=>decide (x=y)) (l.drop i) i)
    (λ i=>l.length - i) 1000 (λ _=>⟨r8 rfl,r8 rfl⟩) ?_ 0 ⟨by omega,rfl⟩
  rintro i ⟨k1,k2⟩ - ih;refine i6 (Wt ..) ?_;simp only [j5,Tree.holds,sL];refine ⟨λ h=>?_,λ h=>?_⟩
  . rw [Jl (show i<l.length by omega) 0,Z8] at k2;have key:∀ b:Bool,(b=true↔x=l.getD i 0)->(b=true->(((i:Int),()):Int×Unit)=(idxOf (λ y=>decide (x=y)) l,()))/\(b=false->idxOf (λ y=>decide (x=y)) l=Z8 (λ y=>decide (x=y)) (l.drop (i+1)) (i+1)):=λ b hb=>by
      refine ⟨λ c=>?_,λ c=>?_⟩
      . rw [k2,if_pos (decide_eq_true (hb.1 c))]
      . rw [k2,if_neg (λ h9=>by rw [hb.2 (of_decide_eq_true h9)] at c; cases c)]
    refine ⟨by omega,λ _=>⟨λ c=>?_,λ c=>⟨by omega,λ _=>ih (i+1) ⟨by omega,?_⟩ (by omega)⟩⟩⟩
    . exact (key true ⟨λ _=>c,λ _=>rfl⟩).1 rfl
    . exact (key false ⟨λ h9=>(by cases h9),λ h9=>(c h9).elim⟩).2 rfl
  . rw [List.drop_eq_nil_of_le (by omega)] at k2;show (((-1:Int),()):Int×Unit)=(idxOf (λ y=>decide (x=y)) l,());rw [k2]; rfl
def Hl:o7:={ ps:=[.v (.d0 false d9),.v d9],rs:=[.bool],pre:=λ _=>True,fn:=λ x=>(decide ((show Int from x.2.1)∈(show List (Int) from x.1)),()),out:=λ _=>() }
noncomputable def GX:Env:={ P:=Tryz.prog,tt:=tt,C5:=[(69,Gb)],res:=[Go.ResultVar.tmp 4],rs:=[Ty.bool],ps:=[PK.v (Ty.d0 false d9),PK.v d9],y8:=[],nt:=9 }
theorem PZ:w5 GX:=w9 p7 ⟨b7W,trivial⟩
theorem Qq:B8 GX Tryz.f52:=⟨rfl,rfl⟩
theorem WB (x0:List Int) (x1:Int):exec GX 1000 [.code (d8 Tryz.prog 52)] (s7 Hl.ps ((x0,x1,()))) =
  .f7 (True) (.ret ((decide ((0:Int)<=idxOf (λ y=>decide (x1=y)) x0),()))):=by kernel_rfl
theorem b5J:Hl.Valid Tryz.prog 52:=by
  refine o7.n8 PZ rfl rfl Tryz.func52 (c:=d8 Tryz.prog 52) rfl rfl Qq rfl ?_;rintro ⟨(l:List (Int)),(x:Int),⟨⟩⟩ - -
  refine j6 (n:=1000) PZ Qq ?_;refine i6 (WB l x) ?_;refine ⟨trivial,λ _=>?_⟩;show ((decide (0<=idxOf (λ y=>decide (x=y)) l),()):Bool×Unit)=(decide (x∈l),());rw [Ic];have:l.any (λ y=>decide (x=y))=true↔x∈l:=by
    rw [List.any_eq_true];exact ⟨λ⟨y,h1,h2⟩=>by rw [of_decide_eq_true h2]; exact h1,λ h=>⟨x,h,decide_eq_true rfl⟩⟩
  cases e:l.any (λ y=>decide (x=y)) with
  | true=>rw [decide_eq_true (this.1 e)]
  | false=>rw [decide_eq_false (λ h=>by rw [this.2 h] at e; cases e)]
def O8 (w:f9) (Q9:List Int):Nat->List Int
  | 0=>[]
  | p+1=>if R5 w.1.2.1 p=true/\¬ (p:Int)∈Q9 then O8 w Q9 p++[(p:Int)] else O8 w Q9 p
theorem Jp (w:f9) (Q9:List Int):∀ p,(O8 w Q9 p).length<=p
  | 0=>Nat.le_refl _
  | p+1=>by
    have:=Jp w Q9 p;rw [O8]
    split
    . rw [List.length_append]; simp only [List.length_singleton]; omega
    . omega
def Ga:o7:={ ps:=[.rd F3,.v d9,.v (.d0 false d9)],rs:=[.d0 true d9],pre:=λ x=>LE.le (α:=Int) 0 x.2.1/\LE.le (α:=Int) x.2.1 6,fn:=λ x=>(O8 x.1 x.2.2.1 (Int.toNat x.2.1),()),out:=λ _=>() }
noncomputable def Ba:Env:={ P:=Tryz.prog,tt:=tt,C5:=[(29,He),(52,Hl)],res:=[Go.ResultVar.tmp 6],rs:=[Ty.d0 true d9],ps:=[PK.rd F3,PK.v d9,PK.v (Ty.d0 false d9)],y8:=[(3,[(0,none),(2,none),(7,some Is),(9,none),(10,none)])],nt:=32 }
theorem a72:w5 Ba:=w9 p7 ⟨b5o,b5J,trivial⟩
theorem Jw:B8 Ba Tryz.f24:=⟨rfl,rfl⟩
theorem Wl (ai:Int) (af:Int) (ab:List n6) (ae:List yY) (aa:List yY) (x1:Int) (x2:List Int):exec Ba 1000 [.code (d8 Tryz.prog 24)] (s7 Ga.ps ((((ai,af,()),ab,ae,aa,()),x1,x2,()))) =
  .ctL (f8 (d8 Tryz.prog 24) 3) (St.mk [(0,AV.K2 F3 ((ai,af,()),ab,ae,aa,())),(2,AV.val (Ty.d0 false d9) x2),(7,AV.at_ 1000007 []),(9,AV.val d9 x1),(10,AV.val d9 (0:Int))] [(1000007,g8.own Is [])]):=by kernel_rfl
def JE (bI:Int) (ba:Int) (bz:List n6) (bp:List yY) (aZ:List yY) (v2:List Int) (v9:Int) (v10:Int) (cd:List Int):St:=St.mk [(0,AV.K2 F3 ((bI,ba,()),bz,bp,aZ,())),(2,AV.val (Ty.d0 false d9) v2),(7,AV.at_ 1000007 []),(9,AV.val d9 v9),(10,AV.val d9 v10)] [(1000007,g8.own Is cd)]
theorem XY (bI:Int) (ba:Int) (bz:List n6) (bp:List yY) (aZ:List yY) (v2:List Int) (v9:Int) (v10:Int) (cd:List Int):exec Ba 1000 (.code (f8 (d8 Tryz.prog 24) 3).1::.inLoop (f8 (d8 Tryz.prog 24) 3).1::(f8 (d8 Tryz.prog 24) 3).2) (JE bI ba bz bp aZ v2 v9 v10 cd) =
  cond (decide (v10<v9)) (.f7 (True) (.f7 ((0:Int)<=v10) (cond (decide (R0 IntKind.u8 (ba / (2:Int)^min (Int.toNat v10) (IntKind.bits IntKind.u8)) (1:Int)=(1:Int))) (.f7 (True) (cond (!decide (v10∈v2)) (.f7 (List.length cd+List.length (List.set [(0:Int)] (Int.toNat (↑0:Int)) v10)<=140737488355328/\(List.length cd+List.length (List.set [(0:Int)] (Int.toNat (↑0:Int)) v10))*Ty.wb d9<=140737488355328) (.f7 (r7 IntKind.i64 (v10+(1:Int))) (.ctL (f8 (d8 Tryz.prog 24) 3) (St.mk [(0,AV.K2 F3 ((bI,ba,()),bz,bp,aZ,())),(2,AV.val (Ty.d0 false d9) v2),(7,AV.at_ 1000007 []),(9,AV.val d9 v9),(10,AV.val d9 (v10+(1:Int)))] [(1000007,g8.own Is (cd++List.set [(0:Int)] (Int.toNat (↑0:Int)) v10))])))) (.f7 (r7 IntKind.i64 (v10+(1:Int))) (.ctL (f8 (d8 Tryz.prog 24) 3) (St.mk [(0,AV.K2 F3 ((bI,ba,()),bz,bp,aZ,())),(2,AV.val (Ty.d0 false d9) v2),(7,AV.at_ 1000007 []),(9,AV.val d9 v9),(10,AV.val d9 (v10+(1:Int)))] [(1000007,g8.own Is cd)]))))) (.f7 (r7 IntKind.i64 (v10+(1:Int))) (.ctL (f8 (d8 Tryz.prog 24) 3) (St.mk [(0,AV.K2 F3 ((bI,ba,()),bz,bp,aZ,())),(2,AV.val (Ty.d0 false d9) v2),(7,AV.at_ 1000007 []),(9,AV.val d9 v9),(10,AV.val d9 (v10+(1:Int)))] [(1000007,g8.own Is cd)])))))) (.ret ((cd,()))):=by kernel_rfl
theorem b7X:Ga.Valid Tryz.prog 24:=by
  refine o7.n8 a72 rfl rfl Tryz.func24 (c:=d8 Tryz.prog 24) rfl rfl Jw rfl ?_;rintro ⟨⟨⟨(v0:Int),(v1:Int),⟨⟩⟩,(al:List n6),(od:List yY),(wy:List yY),⟨⟩⟩,(n:Int),(Q9:List Int),⟨⟩⟩ ⟨(h0:0<=n),(h6:n<=6)⟩ -
  refine j6 (n:=1000) a72 Jw ?_;refine i6 (Wl v0 v1 al od wy n Q9) ?_;obtain ⟨w,hw⟩:∃ w:f9,w=((v0,v1,()),al,od,wy,()):=⟨_,rfl⟩;show Go.Ex.Reach Ba Tryz.f24 (O8 ((v0,v1,()),al,od,wy,()) Q9 n.toNat,()) () (.code (f8 (d8 Tryz.prog 24) 3).1::.inLoop (f8 (d8 Tryz.prog 24) 3).1::(f8 (d8 Tryz.prog 24) 3).2) (JE v0 v1 al od wy Q9 n ((0:Nat):Int) (O8 ((v0,v1,()),al,od,wy,()) Q9 0));rw [<- hw];refine Reach.J8 a72 Jw (λ p:Nat=>JE v0 v1 al od wy Q9 n (p:Int) (O8 w Q9 p)) (λ p=>p<=n.toNat) (λ p=>n.toNat - p) 1000 (λ _=>⟨r8 rfl,r8 rfl⟩) ?_ 0 (Nat.zero_le _);rintro p k1 - ih;have k1:p<=n.toNat:=k1;refine i6 (XY ..) ?_;have e1:((p:Nat):Int)+1=((p+1:Nat):Int):=by omega
  have jd:Ty.wb d9=8:=rfl;have hl:=Jp w Q9 p;have ih1:p<n.toNat->_:=λ h=>ih (p+1) (by show p+1<=n.toNat; omega) (by show n.toNat - (p+1)<n.toNat - p; omega);have hm:R5 w.1.2.1 p=true↔R0 .u8 (v1 / 2^min p IntKind.u8.bits) 1=1:=by rw [hw]; exact decide_eq_true_iff
  simp only [j5,Tree.holds,e1,jd,sL];refine ⟨λ c=>⟨by omega,λ _=>⟨λ d=>⟨λ e=>⟨by omega,λ _=>⟨G0.2 ⟨by omega,by omega⟩,λ _=>?_⟩⟩,λ e=>⟨G0.2 ⟨by omega,by omega⟩,λ _=>?_⟩⟩,λ d=>⟨G0.2 ⟨by omega,by omega⟩,λ _=>?_⟩⟩⟩,λ c=>?_⟩
  . have:=ih1 (by omega);rw [show O8 w Q9 (p+1)=O8 w Q9 p++[(p:Int)] from if_pos ⟨hm.2 d,by simpa using e⟩] at this;exact this
  . have:=ih1 (by omega);rw [show O8 w Q9 (p+1)=O8 w Q9 p from if_neg (λ h=>h.2 (by simpa using e))] at this;exact this
  . have:=ih1 (by omega);rw [show O8 w Q9 (p+1)=O8 w Q9 p from if_neg (λ h=>d (hm.1 h.1))] at this;exact this
  . obtain rfl:p=n.toNat:=by omega
    rfl
theorem QY {w:f9} {d:G5} (he:(R2 w d).2=0) (hd:d.1=1\/d.1=4):0<=d.2.1/\d.2.1<(w.2.1.length:Int):=by
  have hk:¬ known w d.2.1≠0:=by
    unfold R2 at he;rcases hd with hd|hd
    . rw [if_pos hd,uZ] at he;by_cases a:K7 w d.2.1≠0
      . rw [if_pos a] at he; exact absurd he a
      . unfold K7 at a;split at a
        . rename_i h; exact absurd h a
        . rename_i h; exact h
    . rw [if_neg (by omega),if_neg (by omega),if_neg (by omega),if_pos hd,vC] at he;split at he
      . rename_i h; exact absurd he h
      . rename_i h; exact h
  exact Eh.1 hk
def xQ (s:vB) (p:Nat):List C9:=s.2.1.getD p []
structure Hs (n:Int) (i:Nat) (s:vB):Prop where
  ok:Ok (16*i) (xQ s) s.1
  len:s.1.2.1.length=n.toNat
  said:s.2.1.length=n.toNat
  K9:s.2.2.length<=i
  each:∀ p,(xQ s p).length<=i
  Q9:∀ p:Nat,p<n.toNat->(s.1.2.1.getD p j7).1=decide ((p:Int)∈s.2.2)
theorem YH {n:Int} (hn:1<=n/\n<=6) {i:Nat} {s:vB} (h:Hs n i s) (d:G5):Hs n (i+1) (yf n s d):=by
  have hd:=DJ h.ok d;have oq:16*i+16=16*(i+1):=by omega
  have hlen:=h.len;rw [yf];by_cases c:(R2 s.1 d).2≠0\/d.2.1<0\/n<=d.2.1
  . rw [if_pos c];have h1:¬ (d.1=1/\(R2 s.1 d).2=0):=λ e=>by
      have:=QY e.2 (.inl e.1);rcases c with c|c|c
      . exact c e.2
      . omega
      . omega
    have h4:¬ (d.1=4/\(R2 s.1 d).2=0):=λ e=>by
      have:=QY e.2 (.inr e.1);rcases c with c|c|c
      . exact c e.2
      . omega
      . omega
    refine ⟨?_,hd.len.trans h.len,h.said,Nat.le_succ_of_le h.K9,λ p=>Nat.le_succ_of_le (h.each p),λ p hp=>?_⟩
    . have:=hd.ok;rw [wD,if_neg h1,oq] at this;exact this
    . rw [hd.fal p (by omega),h.Q9 p hp,decide_eq_false (λ e:d.1=4/\_/\_=>h4 ⟨e.1,e.2.1⟩),Bool.or_false]
  . rw [if_neg c];have he:(R2 s.1 d).2=0:=Decidable.not_not.1 (λ e=>c (.inl e));have hw:0<=d.2.1/\d.2.1<n:=⟨Int.not_lt.1 (λ e=>c (.inr (.inl e))),Int.not_le.1 (λ e=>c (.inr (.inr e)))⟩;obtain ⟨q,hq⟩:∃ q:Nat,d.2.1=q:=⟨d.2.1.toNat,by omega⟩;have rS:q<s.2.1.length:=by rw [h.said]; omega
    have dV:∀ x:List C9,xQ (((R2 s.1 d).1,s.2.1.set q x,s.2.2):vB)=vJ (xQ s) q x:=λ x=>by
      funext p
      show (s.2.1.set q x).getD p []=_;unfold vJ;rw [List.getD_eq_getElem?_getD,List.getElem?_set];by_cases e:p=q
      . subst e; rw [if_pos rfl,if_pos rfl,if_pos rS]; rfl
      . rw [if_neg (Ne.symm e),if_neg e];show _=s.2.1.getD p [];rw [List.getD_eq_getElem?_getD]
    rw [hq];refine ⟨?_,hd.len.trans h.len,?_,?_,λ p=>?_,λ p hp=>?_⟩
    . have:=hd.ok;rw [oq] at this;by_cases e:d.1=1
      . rw [wD,if_pos ⟨e,he⟩,hq] at this;rw [if_pos e];have h2:=dV (s.2.1.getD q []++[d.2.2.2.1]);show Ok _ (xQ (((R2 s.1 d).1,s.2.1.set q (s.2.1.getD q []++[d.2.2.2.1]),s.2.2):vB)) _;rw [h2];exact this
      . rw [wD,if_neg (λ c=>e c.1)] at this;rw [if_neg e];exact this
    . show (if d.1=1 then _ else _:List (List C9)).length=_
      split
      . rw [List.length_set]; exact h.said
      . exact h.said
    . show (if d.1=4 then _ else _:List Int).length<=_;have:=h.K9
      split
      . rw [List.length_append]; simp only [List.length_singleton]; omega
      . omega
    . show ((if d.1=1 then s.2.1.set q (s.2.1.getD q []++[d.2.2.2.1]) else s.2.1).getD p []).length<=_;have h3:=h.each p;have h4:=h.each q
      split
      . have h2:=congrFun (dV (s.2.1.getD q []++[d.2.2.2.1])) p;have h2:(s.2.1.set q (s.2.1.getD q []++[d.2.2.2.1])).getD p []=vJ (xQ s) q (s.2.1.getD q []++[d.2.2.2.1]) p:=h2;rw [h2];unfold vJ
        split
        . rw [List.length_append]; simp only [List.length_singleton];have h4:(s.2.1.getD q []).length<=i:=h4;omega
        . omega
      . have h3:(s.2.1.getD p []).length<=i:=h3;omega
    . show ((R2 s.1 d).1.2.1.getD p j7).1=decide ((p:Int)∈(if d.1=4 then s.2.2++[(q:Int)] else s.2.2));rw [hd.fal p (by omega),h.Q9 p hp];by_cases e:d.1=4
      . rw [if_pos e];by_cases e2:q=p
        . subst e2;rw [decide_eq_true (p:=d.1=4/\(R2 s.1 d).2=0/\d.2.1=(q:Int)) ⟨e,he,hq⟩,Bool.or_true,decide_eq_true (List.mem_append_right _ (List.mem_singleton.2 rfl))]
        . rw [decide_eq_false (λ c:d.1=4/\_/\_=>e2 (by have:=c.2.2; omega)),Bool.or_false];apply decide_eq_decide.2;rw [List.mem_append,List.mem_singleton];constructor
          . exact .inl
          . rintro (h|h)
            . exact h
            . exact absurd h (by omega)
      . rw [if_neg e,decide_eq_false (λ c:d.1=4/\_/\_=>e c.1),Bool.or_false]
theorem DF {n:Int} (hn:1<=n/\n<=6) (l:List G5):∀ i,Hs n i (G2 n l i)
  | 0=>by
    have hl:(xd n).2.1.length=n.toNat:=List.length_replicate ..;have hs:xQ (G2 n l 0)=λ _=>[]:=by
      funext p
      show (List.replicate n.toNat ([]:List C9)).getD p []=[];rw [List.getD_eq_getElem?_getD,List.getElem?_replicate]
      split<;>rfl
    refine ⟨by rw [hs]; exact UG hn,hl,List.length_replicate ..,Nat.le_refl _,λ p=>(by rw [hs]; exact Nat.le_refl _),λ p hp=>?_⟩;show ((List.replicate n.toNat j7).getD p j7).1=_;rw [Pm]; rfl
  | i+1=>YH hn (DF hn l i) _
theorem Qx {n:Int} {s:vB} {d:G5} (h:(R2 s.1 d).2≠0\/d.2.1<0\/n<=d.2.1):yf n s d=((R2 s.1 d).1,s.2):=by rw [yf]; exact if_pos h
theorem Pa {n:Int} {s:vB} {d:G5} (h1:(R2 s.1 d).2=0) (h2:¬ d.2.1<0) (h3:¬ n<=d.2.1):yf n s d=((R2 s.1 d).1,if d.1=1 then s.2.1.set d.2.1.toNat (s.2.1.getD d.2.1.toNat []++[d.2.2.2.1]) else s.2.1,if d.1=4 then s.2.2++[d.2.1] else s.2.2):=by
  rw [yf]; exact if_neg (λ h=>h.elim (λ e=>e h1) (λ h=>h.elim h2 h3))
attribute [local irreducible] R2 in
set_option maxHeartbeats 4000000 in
theorem b35:HU.Valid Tryz.prog 23:=by
  refine o7.n8 Kj rfl rfl Tryz.func23 (c:=d8 Tryz.prog 23) rfl rfl KS rfl ?_;rintro ⟨(n:Int),(l:List G5),⟨⟩⟩ ⟨(hn:1<=n/\n<=6),(hl:l.length<=1048576)⟩ -
  refine j6 (n:=1000) Kj KS ?_;refine i6 (ZG n l) ?_;have jd:Ty.wb (.d0 true .str)=24:=rfl;simp only [j5,Tree.holds,jd,sL];refine ⟨hn,λ _=>⟨⟨by omega,by omega,by omega,by omega⟩,λ _=>?_⟩⟩;have hW:=DF hn l;show Go.Ex.Reach Bs Tryz.f23 (some (G2 n l l.length).1,(G2 n l l.length).2.1,(G2 n l l.length).2.2,true,()) () (.code (f8 (d8 Tryz.prog 23) 7).1::.inLoop (f8 (d8 Tryz.prog 23) 7).1::(f8 (d8 Tryz.prog 23) 7).2) (a49 n l (l.length:Int) ((0:Nat):Int) (G2 n l 0).1.1.1 (G2 n l 0).1.1.2.1 (G2 n l 0).1.2.1 (G2 n l 0).1.2.2.1 (G2 n l 0).1.2.2.2.1 (G2 n l 0).2.1 (G2 n l 0).2.2);refine Reach.J8 Kj KS (λ i:Nat=>a49 n l (l.length:Int) (i:Int) (G2 n l i).1.1.1 (G2 n l i).1.1.2.1 (G2 n l i).1.2.1 (G2 n l i).1.2.2.1 (G2 n l i).1.2.2.2.1 (G2 n l i).2.1 (G2 n l i).2.2) (λ i=>i<=l.length) (λ i=>l.length - i) 1000 (λ _=>⟨r8 rfl,r8 rfl⟩) ?_ 0 (Nat.zero_le _);rintro i k1 - ih;have k1:i<=l.length:=k1;have hS:=hW i;have ih1:∀ s':vB,i<l.length->s'=yf n (G2 n l i) (Dl i (l.getD i CV))->_:=λ s' h e=>by
    have:=ih (i+1) (by show i+1<=l.length; omega) (by show l.length - (i+1)<l.length - i; omega);rw [show G2 n l (i+1)=s' from e.symm] at this;exact this
  generalize hs:G2 n l i=s at hS ih1 ⊢;have hg:=(hS.ok.Aq (by omega));have hle:s.2.1.length=n.toNat:=hS.said;have fy:s.2.2.length<=i:=hS.K9;have pI:∀ p,(s.2.1.getD p []).length<=i:=hS.each;refine i6 (b8g ..) ?_;have e1:((i:Nat):Int)+1=((i+1:Nat):Int):=by omega
  have kq:Ty.wb .str=16:=rfl;have rB:Ty.wb (.int .i64)=8:=rfl;have jm:maxLen=9223372036854775807:=by decide
  have fg:(C7 (Int.tmod (i:Int) 10)).length<=20:=Ci (by have:=Int.tmod_nonneg (a:=(i:Int)) 10 (by omega); omega) (by have:=Int.tmod_lt_of_pos (i:Int) (show (0:Int)<10 by decide); omega);have lF:(C7 (i:Int)).length<=20:=Ci (by omega) (by omega);obtain ⟨d,hd⟩:∃ d,d=l.getD i CV:=⟨_,rfl⟩;rw [<- hd] at ih1;simp only [CV] at hd;simp only [j5,Tree.holds,e1,kq,rB,sL];rw [<- hd];clear hd;obtain ⟨dk,dw,dh,dt,⟨⟩⟩:=d;obtain ⟨w,sd,fl⟩:=s;have dv:-9223372036854775808<=((i+1:Nat):Int)/\((i+1:Nat):Int)<=9223372036854775807:=⟨by omega,by omega⟩;have pH:=pI dw.toNat;simp only at hle fy pH;dsimp only at hg ⊢;refine ⟨λ c=>⟨by omega,λ _=>⟨λ c1=>?_,λ c1=>?_⟩⟩,λ c=>?_⟩
  . have kb:Dl i (dk,dw,dh,dt,())=(dk,dw,dh,CE++C7 (Int.tmod i 10)++spT++C7 i,()):=if_pos c1;have ih1:=λ s' h e=>ih1 s' h (by rw [kb]; exact e);have wy:=Qx (n:=n) (s:=(w,sd,fl)) (d:=(dk,dw,dh,CE++C7 (Int.tmod i 10)++spT++C7 i,()));have wn:=Pa (n:=n) (s:=(w,sd,fl)) (d:=(dk,dw,dh,CE++C7 (Int.tmod i 10)++spT++C7 i,()));refine ⟨by decide,λ _=>⟨?_,λ _=>⟨?_,λ _=>⟨?_,λ _=>⟨hg,λ _=>?_⟩⟩⟩⟩⟩
    . rw [jm]; omega
    . simp only [List.length_append,List.length_cons,List.length_nil,jm]; omega
    . simp only [List.length_append,List.length_cons,List.length_nil,jm]; omega
    refine ⟨λ e=>⟨dv,λ _=>?_⟩,λ e=>⟨λ b=>⟨dv,λ _=>?_⟩,λ b=>⟨λ b2=>⟨dv,λ _=>?_⟩,λ b2=>⟨λ k1=>⟨by omega,λ _=>⟨by omega,λ _=>⟨⟨by omega,by omega⟩,λ _=>⟨λ k4=>by omega,λ k4=>⟨dv,λ _=>?_⟩⟩⟩⟩⟩,λ k1=>absurd c1 k1⟩⟩⟩⟩
    . exact ih1 (_,_,_) (by omega) (wy (.inl e)).symm
    . exact ih1 (_,_,_) (by omega) (wy (.inr (.inl b))).symm
    . exact ih1 (_,_,_) (by omega) (wy (.inr (.inr b2))).symm
    . exact ih1 (_,_,_) (by omega) (by
        rw [wn (by simpa using e) b b2];simp only;rw [if_pos c1,if_neg k4]; rfl)
  . have kb:Dl i (dk,dw,dh,dt,())=(dk,dw,dh,dt,()):=if_neg c1;have ih1:=λ s' h e=>ih1 s' h (by rw [kb]; exact e);have wy:=Qx (n:=n) (s:=(w,sd,fl)) (d:=(dk,dw,dh,dt,()));have wn:=Pa (n:=n) (s:=(w,sd,fl)) (d:=(dk,dw,dh,dt,()));refine ⟨hg,λ _=>?_⟩;refine ⟨λ e=>⟨dv,λ _=>?_⟩,λ e=>⟨λ b=>⟨dv,λ _=>?_⟩,λ b=>⟨λ b2=>⟨dv,λ _=>?_⟩,λ b2=>⟨λ k1=>absurd k1 c1,λ k1=>⟨λ k4=>⟨⟨by omega,by omega⟩,λ _=>⟨dv,λ _=>?_⟩⟩,λ k4=>⟨dv,λ _=>?_⟩⟩⟩⟩⟩⟩
    . exact ih1 (_,_,_) (by omega) (wy (.inl e)).symm
    . exact ih1 (_,_,_) (by omega) (wy (.inr (.inl b))).symm
    . exact ih1 (_,_,_) (by omega) (wy (.inr (.inr b2))).symm
    . exact ih1 (_,_,_) (by omega) (by
        rw [wn (by simpa using e) b b2];simp only;rw [if_neg c1,if_pos k4]; rfl)
    . exact ih1 (_,_,_) (by omega) (by
        rw [wn (by simpa using e) b b2];simp only;rw [if_neg c1,if_neg k4])
  . obtain rfl:i=l.length:=by omega
    rw [hs]; rfl
def Gu:o7:={ ps:=[.v (.d0 false p9),.v (.d0 false p9)],rs:=[.bool],pre:=λ _=>True,fn:=λ x=>(decide ((show List (s9) from x.1)=(show List (s9) from x.2.1)),()),out:=λ _=>() }
noncomputable def CJ:Env:={ P:=Tryz.prog,tt:=tt,C5:=[],res:=[Go.ResultVar.tmp 4],rs:=[Ty.bool],ps:=[PK.v K6,PK.v K6],y8:=[(4,[(0,none),(1,none),(12,none),(13,none)])],nt:=26 }
theorem a91:w5 CJ:=w9 p7 trivial
theorem IQ:B8 CJ Tryz.f21:=⟨rfl,rfl⟩
theorem Uj (x0:List (Int×yY×Unit)) (x1:List (Int×yY×Unit)):exec CJ 1000 [.code (d8 Tryz.prog 21)] (s7 Gu.ps ((x0,x1,()))) =
  cond (decide ((↑(List.length x0):Int)≠(↑(List.length x1):Int))) (.ret ((false,()))) (.ctL (f8 (d8 Tryz.prog 21) 4) (St.mk [(0,AV.val K6 x0),(1,AV.val K6 x1),(12,AV.val d9 (↑(List.length x0):Int)),(13,AV.val d9 (0:Int))] [])):=by kernel_rfl
def Ot (v0:List (Int×yY×Unit)) (v1:List (Int×yY×Unit)) (v12:Int) (uJ:Int):St:=St.mk [(0,AV.val K6 v0),(1,AV.val K6 v1),(12,AV.val d9 v12),(13,AV.val d9 uJ)] []
theorem WG (v0:List (Int×yY×Unit)) (v1:List (Int×yY×Unit)) (v12:Int) (uJ:Int):exec CJ 1000 (.code (f8 (d8 Tryz.prog 21) 4).1::.inLoop (f8 (d8 Tryz.prog 21) 4).1::(f8 (d8 Tryz.prog 21) 4).2) (Ot v0 v1 v12 uJ) =
  cond (decide (uJ<v12)) (.f7 ((0:Int)<=uJ/\uJ<(↑(List.length v0):Int)) (.f7 ((0:Int)<=uJ/\uJ<(↑(List.length v1):Int)) (cond (!Z3 p9 (List.getD v0 (Int.toNat uJ) ((0:Int),[],())) (List.getD v1 (Int.toNat uJ) ((0:Int),[],()))) (.ret ((false,()))) (.f7 (r7 IntKind.i64 (uJ+(1:Int))) (.ctL (f8 (d8 Tryz.prog 21) 4) (St.mk [(0,AV.val K6 v0),(1,AV.val K6 v1),(12,AV.val d9 v12),(13,AV.val d9 (uJ+(1:Int)))] [])))))) (.ret ((true,()))):=by kernel_rfl
theorem b71:Gu.Valid Tryz.prog 21:=by
  refine o7.n8 a91 rfl rfl Tryz.func21 (c:=d8 Tryz.prog 21) rfl rfl IQ rfl ?_;rintro ⟨(l:List (s9)),(m:List (s9)),⟨⟩⟩ - ⟨⟨hl,-⟩,-⟩;have hl:l.length<=9223372036854775807:=hl;refine j6 (n:=1000) a91 IQ ?_;refine i6 (Uj l m) ?_;have fin:∀ {b:Bool},(b=true↔l=m)->((b,()):Bool×Unit)=(decide (l=m),()):=λ {b} h=>by
    cases b with
    | true=>rw [decide_eq_true (h.1 rfl)]
    | false=>rw [decide_eq_false (λ e=>by cases h.2 e)]
  simp only [j5,Tree.holds,sL];refine ⟨λ c=>fin ⟨λ h=>(by cases h),λ h=>absurd (congrArg (λ q:List (s9)=>(q.length:Int)) h) c⟩,λ c=>?_⟩;refine Reach.J8 a91 IQ (λ i:Nat=>Ot l m (l.length:Int) (i:Int)) (λ i=>i<=l.length/\∀ j,j<i->l.getD j (0,[],())=m.getD j (0,[],()))
    (λ i=>l.length - i) 1000 (λ _=>⟨r8 rfl,r8 rfl⟩) ?_ 0 ⟨Nat.zero_le _,λ j hj=>by omega⟩
  rintro i ⟨k1,k2⟩ - ih;refine i6 (WG ..) ?_;have c:l.length=m.length:=by omega
  simp only [j5,Tree.holds,sL];refine ⟨λ d1=>⟨by omega,λ _=>⟨by omega,λ _=>⟨λ d2=>fin ⟨λ h=>(by cases h),λ h=>absurd (congrArg (λ q:List (s9)=>q.getD i (0,[],())) h) (XS d2)⟩,λ d2=>⟨by omega,λ _=>ih (i+1) ⟨by omega,λ j hj=>?_⟩ (by omega)⟩⟩⟩⟩,λ d1=>fin ⟨λ _=>eq_of_getD c (λ j hj=>k2 j (by omega)),λ _=>rfl⟩⟩;rcases Nat.lt_or_ge j i with h|h
  . exact k2 j h
  . obtain rfl:j=i:=by omega
    exact OK.1 d2
noncomputable def U1:{ f:Int->List G5->Nat->vB // f=G2 }:=Classical.choice ⟨⟨G2,rfl⟩⟩
noncomputable def xY:{ f:Nat->f9->f9×Bool // f=I7 }:=Classical.choice ⟨⟨I7,rfl⟩⟩
def Tn (g:Int->List G5->Nat->vB):o7:={ ps:=[.v d9,.v (.d0 false vr)],rs:=[.box true none s5,.d0 true (.d0 true .str),.d0 true d9,.bool],pre:=λ x=>(LE.le (α:=Int) 1 x.1/\LE.le (α:=Int) x.1 6)/\List.length (α:=G5) x.2.1<=1048576,fn:=λ x=>(some (g x.1 x.2.1 (List.length (α:=G5) x.2.1)).1,(g x.1 x.2.1 (List.length (α:=G5) x.2.1)).2.1,(g x.1 x.2.1 (List.length (α:=G5) x.2.1)).2.2,true,()),out:=λ _=>() }
noncomputable def AP:o7:={ ps:=[.v d9,.v (.d0 false vr)],rs:=[.box true none s5,.d0 true (.d0 true .str),.d0 true d9,.bool],pre:=λ x=>(LE.le (α:=Int) 1 x.1/\LE.le (α:=Int) x.1 6)/\List.length (α:=G5) x.2.1<=1048576,fn:=λ x=>(some (U1.1 x.1 x.2.1 (List.length (α:=G5) x.2.1)).1,(U1.1 x.1 x.2.1 (List.length (α:=G5) x.2.1)).2.1,(U1.1 x.1 x.2.1 (List.length (α:=G5) x.2.1)).2.2,true,()),out:=λ _=>() }
theorem SC:AP.Valid Tryz.prog 23:=by
  have e:AP=HU:=(show AP=Tn U1.1 from rfl).trans (by rw [U1.2]; rfl);rw [e]; exact b35
def Uz (g:Nat->f9->f9×Bool):o7:={ ps:=[.rw s5,.v d9],rs:=[.bool],pre:=λ x=>Fit x.2.1 x.1,fn:=λ x=>((g (Int.toNat x.2.1) x.1).2,()),out:=λ x=>((g (Int.toNat x.2.1) x.1).1,()) }
noncomputable def Dv:o7:={ ps:=[.rw s5,.v d9],rs:=[.bool],pre:=λ x=>Fit x.2.1 x.1,fn:=λ x=>((xY.1 (Int.toNat x.2.1) x.1).2,()),out:=λ x=>((xY.1 (Int.toNat x.2.1) x.1).1,()) }
theorem b4b:Dv.Valid Tryz.prog 16:=by
  have e:Dv=Jd:=(show Dv=Uz xY.1 from rfl).trans (by rw [xY.2]; rfl);rw [e]; exact b2a
abbrev X0:List G5:=List.set [((0:Int),(0:Int),(0:Int),([]:yY),())] (Int.toNat ((0:Nat):Int)) (1,1,0,[],())
def HR:o7:={ ps:=[],rs:=[.bool],pre:=λ _=>True,fn:=λ _=>(true,()),out:=λ _=>() }
noncomputable def Br:Env:={ P:=Tryz.prog,tt:=tt,C5:=[(23,AP),(16,Dv),(19,Cv),(21,Gu)],res:=[Go.ResultVar.tmp 0],rs:=[Ty.bool],ps:=[],y8:=[(5,[(1,none),(2,some (Ty.d0 true (Ty.d0 true Ty.str))),(30,none)])],nt:=54 }
theorem Kh:w5 Br:=w9 p7 ⟨SC,b4b,RC,b71,trivial⟩
theorem KR:B8 Br Tryz.f12:=⟨rfl,rfl⟩
theorem ZF:exec Br 1000 [.code (d8 Tryz.prog 12)] (s7 HR.ps (())) =
  .f7 (((1:Int)<=(3:Int)/\(3:Int)<=(6:Int))/\List.length X0<=1048576) (.f7 ((0:Int)<=(1:Int)/\(1:Int)<(↑(List.length (Prod.fst (Prod.snd (Subtype.val U1 (3:Int) X0 (List.length X0))))):Int)) (cond (decide ((↑(List.length (List.getD (Prod.fst (Prod.snd (Subtype.val U1 (3:Int) X0 (List.length X0)))) (Int.toNat (1:Int)) [])):Int)≠(1:Int))) (.ret ((false,()))) (.f7 (Fit (50:Int) (Prod.fst (Subtype.val U1 (3:Int) X0 (List.length X0)))) (cond (!Prod.snd (Subtype.val xY (Int.toNat (50:Int)) (Prod.fst (Subtype.val U1 (3:Int) X0 (List.length X0))))) (.ret ((false,()))) (.ctL (f8 (d8 Tryz.prog 12) 5) (St.mk [(1,AV.ptr 1011 []),(2,AV.at_ 1000002 []),(30,AV.val d9 (0:Int))] [(1011,g8.var s5 (Prod.fst (Subtype.val xY (Int.toNat (50:Int)) (Prod.fst (Subtype.val U1 (3:Int) X0 (List.length X0)))))),(1000002,g8.own (Ty.d0 true (Ty.d0 true Ty.str)) (Prod.fst (Prod.snd (Subtype.val U1 (3:Int) X0 (List.length X0)))))])))))):=by kernel_rfl
def Ki (v30:Int) (cf:Int) (bN:Int) (bW:List n6) (bM:List yY) (bu:List yY) (eE:List (List yY)):St:=St.mk [(1,AV.ptr 1011 []),(2,AV.at_ 1000002 []),(30,AV.val d9 v30)] [(1011,g8.var s5 ((cf,bN,()),bW,bM,bu,())),(1000002,g8.own (Ty.d0 true (Ty.d0 true Ty.str)) eE)]
theorem b8h (v30:Int) (cf:Int) (bN:Int) (bW:List n6) (bM:List yY) (bu:List yY) (eE:List (List yY)):exec Br 1000 (.code (f8 (d8 Tryz.prog 12) 5).1::.inLoop (f8 (d8 Tryz.prog 12) 5).1::(f8 (d8 Tryz.prog 12) 5).2) (Ki v30 cf bN bW bM bu eE) =
  cond (decide (v30<(3:Int))) (.f7 (List.length bW<=6/\List.length (Z7 ((cf,bN,()),bW,bM,bu,()) v30)<=5864062014805) (cond (decide (Prod.fst (Prod.snd (vk ((cf,bN,()),bW,bM,bu,()) v30))≠(0:Int))) (.ret ((false,()))) (.f7 ((0:Int)<=(1:Int)/\(1:Int)<(↑(List.length eE):Int)) (.f7 ((0:Int)<=(0:Int)/\(0:Int)<(↑(List.length (List.getD eE (Int.toNat (1:Int)) [])):Int)) (.f7 (True) (cond (!decide (Prod.fst (vk ((cf,bN,()),bW,bM,bu,()) v30)=List.set [((0:Int),[],())] (Int.toNat (↑0:Int)) ((1:Int),List.getD (List.getD eE (Int.toNat (1:Int)) []) (Int.toNat (0:Int)) [],()))) (.ret ((false,()))) (.f7 (r7 IntKind.i64 (v30+(1:Int))) (.ctL (f8 (d8 Tryz.prog 12) 5) (St.mk [(1,AV.ptr 1011 []),(2,AV.at_ 1000002 []),(30,AV.val d9 (v30+(1:Int)))] [(1011,g8.var s5 ((cf,bN,()),bW,bM,bu,())),(1000002,g8.own (Ty.d0 true (Ty.d0 true Ty.str)) eE)]))))))))) (.ret ((true,()))):=by kernel_rfl
def xL:G5:=(1,1,0,[],())
theorem TU:(G2 3 [xL] 1).2.1.length=3/\((G2 3 [xL] 1).2.1.getD 1 []).length=1/\(I7 50 (G2 3 [xL] 1).1).2=true:=by decide +kernel
theorem TV:(List.range 3).all (λ p=>decide (vk (I7 50 (G2 3 [xL] 1).1).1 (p:Int)=([(1,((G2 3 [xL] 1).2.1.getD 1 []).getD 0 [],())],0,())))=true:=by decide +kernel
theorem OJ {said:Nat->List C9}:∀ (k:Nat) {c:Nat} {w:f9},Ok c said w->Ok (c+16*k) said (I7 k w).1
  | 0,_,_,h=>h
  | k+1,c,w,h=>by
    rw [I7]
    split
    . exact ⟨h.mem,h.sz.mono (by omega),h.inv⟩
    split
    . have:=h.GD 0 1;exact ⟨this.mem,this.sz.mono (by omega),this.inv⟩
    . have:=OJ k (h.GD 0 1);rw [show c+16*(k+1)=c+16+16*k by omega];exact this
attribute [local irreducible] G2 I7 vk in
theorem b36:HR.Valid Tryz.prog 12:=by
  refine o7.n8 Kh rfl rfl Tryz.func12 (c:=d8 Tryz.prog 12) rfl rfl KR rfl ?_;rintro ⟨⟩ - -
  refine j6 (n:=1000) Kh KR ?_;refine i6 (ZF ) ?_;have hw:U1.1 3 X0 (List.length X0)=G2 3 [xL] 1:=by rw [U1.2]; rfl
  obtain ⟨s,hs⟩:∃ s,s=G2 3 [xL] 1:=⟨_,rfl⟩;obtain ⟨ha,hb,hc⟩:=TU;have hd:=TV;have aL:=(DF (n:=3) (by decide) [xL] 1).ok;rw [hw];rw [<- hs] at ha hb hc hd aL ⊢;obtain ⟨u,hu⟩:∃ u,u=(I7 50 s.1).1:=⟨_,rfl⟩;have td:xY.1 (Int.toNat 50) s.1=I7 50 s.1:=by rw [xY.2]; rfl
  have kG:=OJ 50 aL;rw [td];rw [<- hu] at kG hd;rw [<- hu];have mG:(s.2.1.length:Int)=3:=by omega
  have cU:((s.2.1.getD (Int.toNat 1) []).length:Int)=1:=by show ((s.2.1.getD 1 []).length:Int)=1; omega
  simp only [j5,Tree.holds,mG,cU,hc,sL];refine ⟨⟨by omega,by decide⟩,λ _=>⟨by omega,λ _=>⟨λ c=>absurd rfl c,λ _=>⟨⟨by decide,⟨_,_,aL,by decide⟩⟩,λ _=>⟨λ c=>absurd c (by decide),?_⟩⟩⟩⟩⟩;suffices go:Go.Ex.Reach Br Tryz.f12 (true,()) () (.code (f8 (d8 Tryz.prog 12) 5).1::.inLoop (f8 (d8 Tryz.prog 12) 5).1::(f8 (d8 Tryz.prog 12) 5).2) (Ki ((0:Nat):Int) u.1.1 u.1.2.1 u.2.1 u.2.2.1 u.2.2.2.1 s.2.1) by exact go
  refine Reach.J8 Kh KR (λ p:Nat=>Ki (p:Int) u.1.1 u.1.2.1 u.2.1 u.2.2.1 u.2.2.2.1 s.2.1) (λ p=>p<=3) (λ p=>3 - p) 1000 (λ _=>⟨r8 rfl,r8 rfl⟩) ?_ 0 (Nat.zero_le _);rintro p k1 - ih;have k1:p<=3:=k1;refine i6 (b8h ..) ?_;have e1:((p:Nat):Int)+1=((p+1:Nat):Int):=by omega
  have ih1:p<3->_:=λ h=>ih (p+1) (by show p+1<=3; omega) (by show 3 - (p+1)<3 - p; omega);have hv:p<3->vk ((u.1.1,u.1.2.1,()),u.2.1,u.2.2.1,u.2.2.2.1,()) (p:Int)=([(1,(s.2.1.getD 1 []).getD 0 [],())],0,()):=λ h=>of_decide_eq_true (List.all_eq_true.1 hd p (List.mem_range.2 h));simp only [j5,Tree.holds,e1,sL];refine ⟨λ c=>⟨⟨kG.K9,Nat.le_trans (kG.sz.log p) (by omega)⟩,λ _=>⟨λ d=>?_,λ _=>⟨by omega,λ _=>⟨by omega,λ _=>⟨λ e=>?_,λ _=>⟨G0.2 ⟨by omega,by omega⟩,λ _=>ih1 (by omega)⟩⟩⟩⟩⟩⟩,λ c=>rfl⟩
  . rw [hv (by omega)] at d; exact absurd rfl d
  . rw [hv (by omega)] at e; exact absurd rfl e
theorem Io {w:f9} {Q9:List Int}:∀ {k:Nat} {x:Int},x∈O8 w Q9 k->∃ j:Nat,x=j/\j<k/\R5 w.1.2.1 j=true/\¬ (j:Int)∈Q9
  | 0,x,h=>by cases h
  | k+1,x,h=>by
    rw [O8] at h;split at h
    . rename_i c;rcases List.mem_append.1 h with h|h
      . obtain ⟨j,h1,h2,h3⟩:=Io h;exact ⟨j,h1,by omega,h3⟩
      . rw [List.mem_singleton] at h;exact ⟨k,h,by omega,c.1,c.2⟩
    . obtain ⟨j,h1,h2,h3⟩:=Io h;exact ⟨j,h1,by omega,h3⟩
theorem VN {w:f9} {Q9:List Int} {k i:Nat} (hi:i<(O8 w Q9 k).length):∃ j:Nat,(O8 w Q9 k).getD i 0=j/\j<k/\R5 w.1.2.1 j=true/\¬ (j:Int)∈Q9 :=
  Io (by rw [List.getD_eq_getElem?_getD,List.getElem?_eq_getElem hi]; exact List.getElem_mem _)
theorem PU {α:Type} {f:α->Nat} (h:∀ x,1<=f x):∀ l:List α,l.length<=X3 f l
  | []=>Nat.zero_le _
  | x::l=>by have h1:=h x; have h2:=PU h l; simp only [X3,List.length_cons]; omega
theorem XQ {n:Int} {l:List G5} (hp:zl [d9,.d0 false vr] (n,l,())<=1048576):l.length<=1048576:=by
  have h2:=PU (f:=Ty.U0 vr) (λ x=>by show 1<=1+_; omega) l;have h1:Ty.U0 d9 n+((X3 (Ty.U0 vr) l+1)+0)<=1048576:=hp;omega
theorem VU {w:f9} {p:Nat} (h:p<w.2.1.length):vk w p=(Z7 w p,0,()):=by
  unfold vk;exact if_neg (λ c=>Eh.2 ⟨by omega,by omega⟩ c)
end Go.Proofs.YtijlnmgondibnaaGreatDoor
namespace Go.Proofs.YtijlnmgondibnaaGreatDoor
open Go.Ex
set_option maxRecDepth 100000
structure VOk (w:f9):Prop where
  I4:R3 w.1=0
  mem:∀ i:Nat,i<8->R5 w.1.2.1 i=true->i<w.2.1.length
theorem YE {v:vA} (h:(0<=v.1/\v.1<=16777215)/\v.2.1≠0/\v.2.1<64):R3 v=0:=by
  unfold R3; rw [if_neg (by omega)]
theorem VOk.new {n:Int} (h:1<=n/\n<=6):VOk (xd n):=by
  have key:∀ k:Fin 7,1<=k.val->R3 (0,AF ((k.val:Nat):Int),())=0/\∀ i:Fin 8,R5 (AF ((k.val:Nat):Int)) i.val=true->i.val<k.val:=by decide +kernel
  obtain ⟨h1,h2⟩:=key ⟨n.toNat,by omega⟩ (by show 1<=n.toNat; omega);have e:((n.toNat:Nat):Int)=n:=by omega
  simp only [e] at h1 h2;refine ⟨h1,λ i hi hm=>?_⟩;have:=h2 ⟨i,hi⟩ hm;rw [show (xd n).2.1.length=n.toNat from List.length_replicate ..];exact this
theorem TZ {x:Int} (h:r7 .u8 x):bOr .u8 x 0=x:=by
  have key:∀ n:Fin 256,bOr .u8 ((n.val:Nat):Int) 0=((n.val:Nat):Int):=by decide +kernel
  have h:=u8_in.1 h;have:=key ⟨x.toNat,by omega⟩
  rwa [show ((x.toNat:Nat):Int)=x by omega] at this
theorem Vs {x:Int} (h:r7 .u8 x):R0 .u8 x 0=0/\R0 .u8 0 x=0:=by
  have key:∀ n:Fin 256,R0 .u8 ((n.val:Nat):Int) 0=0/\R0 .u8 0 ((n.val:Nat):Int)=0:=by decide +kernel
  have h:=u8_in.1 h;have:=key ⟨x.toNat,by omega⟩
  rwa [show ((x.toNat:Nat):Int)=x by omega] at this
theorem Yo {x:Int} (h:r7 .u8 x) (h6:bit x 6=false) (h7:bit x 7=false):x<64:=by
  have key:∀ n:Fin 256,bit ((n.val:Nat):Int) 6=false->bit ((n.val:Nat):Int) 7=false->((n.val:Nat):Int)<64:=by decide +kernel
  have h:=u8_in.1 h;have:=key ⟨x.toNat,by omega⟩;rw [show ((x.toNat:Nat):Int)=x by omega] at this;exact this h6 h7
section
variable {c:Nat} {said:Nat->List C9} {w:f9}
theorem b7Y (h:Ok c said w) (hv:VOk w) (hn:¬ (Q6 w).2.1≠0):(∃ p:Nat,p<w.2.1.length/\s4 w p=true)/\VOk (E8 w):=by
  have hf:=h.K9;obtain ⟨g1,g2⟩:=Im h.mem (show w.2.1.length<=8 by omega);obtain ⟨e1,e2,e3⟩:=Py hn;have bn:r7 .u8 w.1.2.1:=u8_in.2 h.mem;have gM:half (Q5 .u8 w.1.2.1 (D0 w w.2.1.length)) w.1.2.1=true:=by
    unfold Q6 Q7 at hn;split at hn
    . rename_i c; exact absurd c hn
    split at hn
    . exact absurd (by decide) hn
    split at hn
    . exact absurd (by decide) hn
    split at hn
    . exact absurd (by decide) hn
    split at hn
    . exact absurd (by decide) hn
    . rename_i c; simpa using c
  have bG:Q5 .u8 w.1.2.1 (D0 w w.2.1.length)≠0:=by
    intro e0;rw [e0] at gM;unfold half at gM;rw [(Vs bn).2] at gM;have h1:=of_decide_eq_true gM;have h2:=(Nu w.1.2.1).1;have h3:vv 0=0:=by decide
    omega
  have fc:(E8 w).1=(w.1.1+1,bOr .u8 (Q5 .u8 w.1.2.1 (D0 w w.2.1.length)) 0,()):=e1;rw [TZ zS] at fc;have hlen:(E8 w).2.1.length=w.2.1.length:=List.length_mapIdx ..;have jB:∀ i,bit (Q5 .u8 w.1.2.1 (D0 w w.2.1.length)) i=(bit w.1.2.1 i && !bit (D0 w w.2.1.length) i):=λ i=>RP u8s bn g1 i;have kr:∀ i,i<8->bit w.1.2.1 i=true->i<w.2.1.length:=λ i hi hb=>hv.mem i hi (by rw [zO h.mem hi]; exact hb);constructor
  . by_cases hex:∃ p:Nat,p<w.2.1.length/\s4 w p=true
    . exact hex
    . exfalso;apply bG;refine (YI (u8_in.1 zS).1).2 (λ i=>?_);by_cases hi:i<8
      . rw [jB i];cases hb:bit w.1.2.1 i with
        | false=>rfl
        | true =>
          have jX:=kr i hi hb;have ha:s4 w i=false:=by
            cases ha:s4 w i with
            | false=>rfl
            | true=>exact absurd ⟨i,jX,ha⟩ hex
          rw [g2 i hi,decide_eq_true jX,zO h.mem hi,hb,ha]; rfl
      . exact NH u8s zS (by show 8<=i; omega)
  . refine ⟨?_,λ i hi hm=>?_⟩
    . rw [fc];refine YE ⟨by show 0<=w.1.1+1/\w.1.1+1<=16777215; omega,bG,Yo zS ?_ ?_⟩
      . rw [jB];cases hb:bit w.1.2.1 6 with
        | false=>rfl
        | true=>have:=kr 6 (by decide) hb; omega
      . rw [jB];cases hb:bit w.1.2.1 7 with
        | false=>rfl
        | true=>have:=kr 7 (by decide) hb; omega
    . rw [hlen];rw [fc] at hm;rw [zO (u8_in.1 zS) hi,jB,Bool.and_eq_true] at hm;exact kr i hi hm.1
theorem Xl (w:f9) (d:G5):(R2 w d).1.1=w.1\/(¬ (Q6 w).2.1≠0/\(R2 w d).1=E8 w):=by
  unfold R2
  split
  . exact .inl (QS _ _ _).view
  split
  . exact .inl (Su _ _).view
  split
  . exact .inl (Rp _ _ _).view
  split
  . left; unfold vC; split<;>rfl
  split
  . by_cases c:(Q6 w).2.1≠0
    . rw [JJ c]; exact .inl rfl
    . rw [KV c]; exact .inr ⟨c,rfl⟩
  . exact .inl rfl
theorem VOk.R2 (h:Ok c said w) (hv:VOk w) (d:G5):VOk (R2 w d).1:=by
  have hl:=(DJ h d).len;rcases Xl w d with e|⟨c,e⟩
  . exact ⟨by rw [e]; exact hv.I4,λ i hi hm=>by rw [hl]; rw [e] at hm; exact hv.mem i hi hm⟩
  . rw [e]; exact (b7Y h hv c).2
end
end Go.Proofs.YtijlnmgondibnaaGreatDoor
namespace Go.Proofs.YtijlnmgondibnaaGreatDoor
open Go.Ex
set_option maxRecDepth 100000
attribute [local irreducible] Go.Ex.exec
structure c8Z (n:Int) (w u:f9) (fl:List Int) (B:List C4):Prop where
  num:u.1.1=w.1.1+1
  len:u.2.1.length=n.toNat
  some_:O8 u fl n.toNat≠[]
  log:∀ j:Nat,j<n.toNat->R5 u.1.2.1 j=true->¬ (j:Int)∈fl->Z7 u j=B
  grow:∀ j:Nat,j<n.toNat->R5 u.1.2.1 j=true->¬ (j:Int)∈fl->(Z7 w j).length<=B.length
def Gt:o7:={ ps:=[.v (.d0 false .str),.v (.d0 false .str)],rs:=[.bool],pre:=λ _=>True,fn:=λ x=>(decide ((show List yY from x.1)=(show List yY from x.2.1)),()),out:=λ _=>() }
noncomputable def CI:Env:={ P:=Tryz.prog,tt:=tt,C5:=[],res:=[Go.ResultVar.tmp 4],rs:=[Ty.bool],ps:=[PK.v (Ty.d0 false Ty.str),PK.v (Ty.d0 false Ty.str)],y8:=[(4,[(0,none),(1,none),(12,none),(13,none)])],nt:=26 }
theorem Je:w5 CI:=w9 p7 trivial
theorem IP:B8 CI Tryz.f22:=⟨rfl,rfl⟩
theorem Ui (x0:List yY) (x1:List yY):exec CI 1000 [.code (d8 Tryz.prog 22)] (s7 Gt.ps ((x0,x1,()))) =
  cond (decide ((↑(List.length x0):Int)≠(↑(List.length x1):Int))) (.ret ((false,()))) (.ctL (f8 (d8 Tryz.prog 22) 4) (St.mk [(0,AV.val (Ty.d0 false Ty.str) x0),(1,AV.val (Ty.d0 false Ty.str) x1),(12,AV.val d9 (↑(List.length x0):Int)),(13,AV.val d9 (0:Int))] [])):=by kernel_rfl
def OH (v0:List yY) (v1:List yY) (v12:Int) (uJ:Int):St:=St.mk [(0,AV.val (Ty.d0 false Ty.str) v0),(1,AV.val (Ty.d0 false Ty.str) v1),(12,AV.val d9 v12),(13,AV.val d9 uJ)] []
theorem WE (v0:List yY) (v1:List yY) (v12:Int) (uJ:Int):exec CI 1000 (.code (f8 (d8 Tryz.prog 22) 4).1::.inLoop (f8 (d8 Tryz.prog 22) 4).1::(f8 (d8 Tryz.prog 22) 4).2) (OH v0 v1 v12 uJ) =
  cond (decide (uJ<v12)) (.f7 ((0:Int)<=uJ/\uJ<(↑(List.length v0):Int)) (.f7 ((0:Int)<=uJ/\uJ<(↑(List.length v1):Int)) (cond (decide (List.getD v0 (Int.toNat uJ) []≠List.getD v1 (Int.toNat uJ) [])) (.ret ((false,()))) (.f7 (r7 IntKind.i64 (uJ+(1:Int))) (.ctL (f8 (d8 Tryz.prog 22) 4) (St.mk [(0,AV.val (Ty.d0 false Ty.str) v0),(1,AV.val (Ty.d0 false Ty.str) v1),(12,AV.val d9 v12),(13,AV.val d9 (uJ+(1:Int)))] [])))))) (.ret ((true,()))):=by kernel_rfl
theorem b72:Gt.Valid Tryz.prog 22:=by
  refine o7.n8 Je rfl rfl Tryz.func22 (c:=d8 Tryz.prog 22) rfl rfl IP rfl ?_;rintro ⟨(l:List yY),(m:List yY),⟨⟩⟩ - ⟨⟨hl,-⟩,-⟩;have hl:l.length<=9223372036854775807:=hl;refine j6 (n:=1000) Je IP ?_;refine i6 (Ui l m) ?_;have fin:∀ {b:Bool},(b=true↔l=m)->((b,()):Bool×Unit)=(decide (l=m),()):=λ {b} h=>by
    cases b with
    | true=>rw [decide_eq_true (h.1 rfl)]
    | false=>rw [decide_eq_false (λ e=>by cases h.2 e)]
  simp only [j5,Tree.holds,sL];refine ⟨λ c=>fin ⟨λ h=>(by cases h),λ h=>absurd (congrArg (λ q:List yY=>(q.length:Int)) h) c⟩,λ c=>?_⟩;refine Reach.J8 Je IP (λ i:Nat=>OH l m (l.length:Int) (i:Int)) (λ i=>i<=l.length/\∀ j,j<i->l.getD j []=m.getD j [])
    (λ i=>l.length - i) 1000 (λ _=>⟨r8 rfl,r8 rfl⟩) ?_ 0 ⟨Nat.zero_le _,λ j hj=>by omega⟩
  rintro i ⟨k1,k2⟩ - ih;refine i6 (WE ..) ?_;have c:l.length=m.length:=by omega
  simp only [j5,Tree.holds,sL];refine ⟨λ d1=>⟨by omega,λ _=>⟨by omega,λ _=>⟨λ d2=>fin ⟨λ h=>(by cases h),λ h=>absurd (congrArg (λ q:List yY=>q.getD i []) h) (d2)⟩,λ d2=>⟨by omega,λ _=>ih (i+1) ⟨by omega,λ j hj=>?_⟩ (by omega)⟩⟩⟩⟩,λ d1=>fin ⟨λ _=>eq_of_getD c (λ j hj=>k2 j (by omega)),λ _=>rfl⟩⟩;rcases Nat.lt_or_ge j i with h|h
  . exact k2 j h
  . obtain rfl:j=i:=by omega
    exact Decidable.not_not.1 d2
theorem WH {w:f9} {p:Nat} (h:p<w.2.1.length):wP w p=((M4 w p).2.1,0,()):=by
  unfold wP;exact if_neg (λ c=>Eh.2 ⟨by omega,by omega⟩ c)
abbrev TO:Ty:=.arr 6 (.d0 false .str)
def LU:o7:={ ps:=[.rd F3,.v d9],rs:=[.d0 false .str,d9],new:=true,pre:=Ge.pre,fn:=λ x=>wP x.1 x.2.1,out:=λ _=>() }
theorem b5x:LU.Valid Tryz.prog 20:=b7S.share (rs':=[.d0 false .str,d9]) rfl rfl rfl
theorem KX {α:Type}:∀ (l:List (List α)) (i:Nat),((l.take i).map List.length).sum<=l.flatten.length
  | [],i=>by simp
  | a::l,0=>by simp
  | a::l,i+1=>by have:=KX l i; simp only [List.take_succ_cons,List.map_cons,List.sum_cons,List.flatten_cons,List.length_append]; omega
theorem QV {α:Type} {l:List α} {i:Nat} (h:i<l.length) (d:α):l.take (i+1)=l.take i++[l.getD i d]:=by
  rw [List.take_add_one,List.getElem?_eq_getElem h,List.getD_eq_getElem?_getD,List.getElem?_eq_getElem h]; rfl
theorem Nf:Ty.wb .str=16:=rfl
def Ho:o7:={ ps:=[.T1,.v d9],rs:=[.d0 true .str],pre:=λ x=>LE.le (α:=Int) 0 x.2.1/\LE.le (α:=Int) x.2.1 1048576,fn:=λ _=>([],()),out:=λ _=>() }
noncomputable def GQ:Env:={ P:=Tryz.prog,tt:=tt,C5:=[],res:=[Go.ResultVar.tmp 4],rs:=[Ty.d0 true Ty.str],ps:=[PK.T1,PK.v d9],y8:=[],nt:=27 }
theorem Qi:w5 GQ:=w9 p7 trivial
theorem PH:B8 GQ Tryz.f56:=⟨rfl,rfl⟩
theorem Wo (x1:Int):exec GQ 1000 [.code (d8 Tryz.prog 56)] (s7 Ho.ps (((),x1,()))) =
  cond (decide (x1<(0:Int))) (.stuck "op") (.f7 (r7 IntKind.i64 ((0:Int) - (0:Int))) (.f7 (r7 IntKind.i64 (x1 - ((0:Int) - (0:Int)))) (cond (decide ((0:Int)<x1 - ((0:Int) - (0:Int)))) (.f7 ((0:Int)=(0:Int)/\(0:Int)=(0:Int)) (.f7 ((0:Int)<=x1 - ((0:Int) - (0:Int))/\x1 - ((0:Int) - (0:Int))<=(140737488355328:Int)/\(x1 - ((0:Int) - (0:Int)))*(↑(Ty.wb Ty.str):Int)<=(140737488355328:Int)) (.f7 ((0:Int)<=(0:Int)/\(0:Int)<=(0:Int)/\(0:Int)<=(↑(List.length (List.replicate (Int.toNat (x1 - ((0:Int) - (0:Int)))) noB)):Int)) (.ret ((n7 (0:Int) (0:Int) (List.replicate (Int.toNat (x1 - ((0:Int) - (0:Int)))) noB),())))))) (.ret (([],())))))):=by kernel_rfl
theorem b5B:Ho.Valid Tryz.prog 56:=by
  refine o7.n8 Qi rfl rfl Tryz.func56 (c:=d8 Tryz.prog 56) rfl rfl PH rfl ?_;rintro ⟨⟨⟩,(n:Int),⟨⟩⟩ ⟨(h0:0<=n),(h1:n<=1048576)⟩ -
  refine j6 (n:=1000) Qi PH ?_;refine i6 (Wo n) ?_;simp only [j5,Tree.holds,Nf,sL];refine ⟨λ h=>by omega,λ _=>⟨by omega,λ _=>⟨by omega,λ _=>⟨λ _=>⟨by omega,λ _=>⟨by omega,λ _=>?_⟩⟩,λ _=>rfl⟩⟩⟩⟩;rfl
def Gq:o7:={ ps:=[.v (.d0 false (.d0 false .str))],rs:=[.d0 true .str],pre:=λ x=>(List.flatten (α:=yY) x.1).length<=1048576,fn:=λ x=>(List.flatten (α:=yY) x.1,()),out:=λ _=>() }
noncomputable def As:Env:={ P:=Tryz.prog,tt:=tt,C5:=[(56,Ho)],res:=[Go.ResultVar.tmp 2],rs:=[Ty.d0 true Ty.str],ps:=[PK.v (Ty.d0 false (Ty.d0 false Ty.str))],y8:=[(3,[(0,none),(3,none),(9,none),(10,none),(11,none)]),(11,[(6,some (Ty.d0 true Ty.str)),(25,none),(26,none),(27,none)])],nt:=36 }
theorem DO:w5 As:=w9 p7 ⟨b5B,trivial⟩
theorem DP:B8 As Tryz.f28:=⟨rfl,rfl⟩
theorem Uh (x0:List (List yY)):exec As 1000 [.code (d8 Tryz.prog 28)] (s7 Gq.ps ((x0,()))) =
  .ctL (f8 (d8 Tryz.prog 28) 3) (St.mk [(0,AV.val (Ty.d0 false (Ty.d0 false Ty.str)) x0),(3,AV.val d9 (0:Int)),(9,AV.val (Ty.d0 false (Ty.d0 false Ty.str)) x0),(10,AV.val d9 (↑(List.length x0):Int)),(11,AV.val d9 (0:Int))] []):=by kernel_rfl
def OG (v0:List (List yY)) (v3:Int) (v9:List (List yY)) (v10:Int) (v11:Int):St:=St.mk [(0,AV.val (Ty.d0 false (Ty.d0 false Ty.str)) v0),(3,AV.val d9 v3),(9,AV.val (Ty.d0 false (Ty.d0 false Ty.str)) v9),(10,AV.val d9 v10),(11,AV.val d9 v11)] []
theorem WA (v0:List (List yY)) (v3:Int) (v9:List (List yY)) (v10:Int) (v11:Int):exec As 1000 (.code (f8 (d8 Tryz.prog 28) 3).1::.inLoop (f8 (d8 Tryz.prog 28) 3).1::(f8 (d8 Tryz.prog 28) 3).2) (OG v0 v3 v9 v10 v11) =
  cond (decide (v11<v10)) (.f7 ((0:Int)<=v11/\v11<(↑(List.length v9):Int)) (.f7 (r7 IntKind.i64 (v3+(↑(List.length (List.getD v9 (Int.toNat v11) [])):Int))) (cond (decide (v3+(↑(List.length (List.getD v9 (Int.toNat v11) [])):Int)<(0:Int))) (.stuck "op") (.f7 (r7 IntKind.i64 (v11+(1:Int))) (.ctL (f8 (d8 Tryz.prog 28) 3) (St.mk [(0,AV.val (Ty.d0 false (Ty.d0 false Ty.str)) v0),(3,AV.val d9 (v3+(↑(List.length (List.getD v9 (Int.toNat v11) [])):Int))),(9,AV.val (Ty.d0 false (Ty.d0 false Ty.str)) v9),(10,AV.val d9 v10),(11,AV.val d9 (v11+(1:Int)))] [])))))) (.f7 ((0:Int)<=v3/\v3<=(1048576:Int)) (.ctL (f8 (d8 Tryz.prog 28) 11) (St.mk [(6,AV.at_ 1000006 []),(25,AV.val (Ty.d0 false (Ty.d0 false Ty.str)) v0),(26,AV.val d9 (↑(List.length v0):Int)),(27,AV.val d9 (0:Int))] [(1000006,g8.own (Ty.d0 true Ty.str) [])]))):=by kernel_rfl
def PY (xy:List (List yY)) (Af:Int) (we:Int) (bq:List yY):St:=St.mk [(6,AV.at_ 1000006 []),(25,AV.val (Ty.d0 false (Ty.d0 false Ty.str)) xy),(26,AV.val d9 Af),(27,AV.val d9 we)] [(1000006,g8.own (Ty.d0 true Ty.str) bq)]
theorem XV (xy:List (List yY)) (Af:Int) (we:Int) (bq:List yY):exec As 1000 (.code (f8 (d8 Tryz.prog 28) 11).1::.inLoop (f8 (d8 Tryz.prog 28) 11).1::(f8 (d8 Tryz.prog 28) 11).2) (PY xy Af we bq) =
  cond (decide (we<Af)) (.f7 ((0:Int)<=we/\we<(↑(List.length xy):Int)) (.f7 (List.length bq+List.length (List.getD xy (Int.toNat we) [])<=140737488355328/\(List.length bq+List.length (List.getD xy (Int.toNat we) []))*Ty.wb Ty.str<=140737488355328) (.f7 (r7 IntKind.i64 (we+(1:Int))) (.ctL (f8 (d8 Tryz.prog 28) 11) (St.mk [(6,AV.at_ 1000006 []),(25,AV.val (Ty.d0 false (Ty.d0 false Ty.str)) xy),(26,AV.val d9 Af),(27,AV.val d9 (we+(1:Int)))] [(1000006,g8.own (Ty.d0 true Ty.str) (bq++List.getD xy (Int.toNat we) []))]))))) (.ret ((bq,()))):=by kernel_rfl
theorem b75:Gq.Valid Tryz.prog 28:=by
  refine o7.n8 DO rfl rfl Tryz.func28 (c:=d8 Tryz.prog 28) rfl rfl DP rfl ?_;rintro ⟨(l:List (List yY)),⟨⟩⟩ hp ⟨⟨hl,-⟩,-⟩;have hl:l.length<=9223372036854775807:=hl;have hp:l.flatten.length<=1048576:=hp;refine j6 (n:=1000) DO DP ?_;refine i6 (Uh l) ?_;refine Reach.J8 DO DP (λ i:Nat=>OG l (((l.take i).map List.length).sum:Nat) l (l.length:Int) (i:Int)) (λ i=>i<=l.length)
    (λ i=>l.length - i) 1000 (λ _=>⟨r8 rfl,r8 rfl⟩) ?_ 0 (Nat.zero_le _)
  rintro i k1 - ih;have k1:i<=l.length:=k1;refine i6 (WA ..) ?_;have hs:=KX l i;simp only [j5,Tree.holds,sL];refine ⟨λ c=>⟨by omega,λ _=>?_⟩,λ c=>?_⟩
  . have tk:=QV (show i<l.length by omega) ([]:List yY);have gR:=KX l (i+1);have e1:((l.take (i+1)).map List.length).sum=((l.take i).map List.length).sum+(l.getD i []).length:=by rw [tk]; simp
    rw [e1] at gR;have:=ih (i+1) (by show i+1<=l.length; omega) (by omega);rw [e1] at this;exact ⟨by omega,λ _=>⟨λ h=>by omega,λ _=>⟨by omega,λ _=>this⟩⟩⟩
  . refine ⟨by omega,λ _=>?_⟩;refine Reach.J8 DO DP (λ i:Nat=>PY l (l.length:Int) (i:Int) (l.take i).flatten) (λ i=>i<=l.length)
      (λ i=>l.length - i) 1000 (λ _=>⟨r8 rfl,r8 rfl⟩) ?_ 0 (Nat.zero_le _)
    rintro i k1 - ih;have k1:i<=l.length:=k1;refine i6 (XV ..) ?_;simp only [j5,Tree.holds,Nf,sL];refine ⟨λ c=>?_,λ c=>?_⟩
    . have tk:=QV (show i<l.length by omega) ([]:List yY);have e1:(l.take (i+1)).flatten=(l.take i).flatten++l.getD i []:=by rw [tk]; simp
      have hb:((l.take i).flatten++l.getD i []).length<=l.flatten.length:=by
        rw [<- e1]
        conv=>rhs; rw [<- List.take_append_drop (i+1) l,List.flatten_append,List.length_append]
        omega
      rw [List.length_append] at hb;have:=ih (i+1) (by show i+1<=l.length; omega) (by omega);rw [e1] at this;exact ⟨by omega,λ _=>⟨by omega,λ _=>⟨by omega,λ _=>this⟩⟩⟩
    . rw [List.take_of_length_le (by omega)];rfl
def RQ:o7:=Mh [d9,.d0 false vr]
noncomputable def xi:Env:={ P:=Tryz.prog,tt:=tt,C5:=[(12,HR),(13,Fh),(23,AP),(24,Ga),(19,Cv),(20,LU),(22,Gt),(28,Gq)],res:=[Go.ResultVar.tmp 4],rs:=[Ty.bool],ps:=[PK.v d9,PK.v (Ty.d0 false vr)],y8:=[(8,[(0,none),(5,none),(6,some (Ty.d0 true (Ty.d0 true Ty.str))),(37,some Is),(38,none),(39,none)]),(14,[(0,none),(5,none),(6,some (Ty.d0 true (Ty.d0 true Ty.str))),(10,none),(12,none),(13,none),(14,none),(15,none),(37,some Is),(38,none),(39,none),(55,some (Ty.d0 true p9)),(56,none),(57,none)]),(21,[(0,none),(5,none),(6,some (Ty.d0 true (Ty.d0 true Ty.str))),(10,none),(12,none),(13,none),(14,none),(15,some TO),(37,some Is),(38,none),(39,none),(82,none),(83,none)])],nt:=132 }
theorem Bx:w5 xi:=w9 p7 ⟨b36,c00,SC,b7X,RC,b5x,b72,b75,trivial⟩
theorem BA:B8 xi Tryz.f6:=⟨rfl,rfl⟩
theorem Wi (x0:Int) (x1:List (Int×Int×Int×yY×Unit)):exec xi 1000 [.code (d8 Tryz.prog 6)] (s7 RQ.ps ((x0,x1,()))) =
  .f7 (True) (.f7 (True) (.f7 (((1:Int)<=K9 x0/\K9 x0<=(6:Int))/\List.length x1<=1048576) (.f7 ((0:Int)<=K9 x0/\K9 x0<=(6:Int)) (.ctL (f8 (d8 Tryz.prog 6) 8) (St.mk [(0,AV.val d9 (K9 x0)),(5,AV.ptr 1027 []),(6,AV.at_ 1000006 []),(37,AV.at_ 1000037 []),(38,AV.val d9 (↑(List.length (O8 (Prod.fst (Subtype.val U1 (K9 x0) x1 (List.length x1))) (Prod.snd (Prod.snd (Subtype.val U1 (K9 x0) x1 (List.length x1)))) (Int.toNat (K9 x0)))):Int)),(39,AV.val d9 (0:Int))] [(1027,g8.var s5 (Prod.fst (Subtype.val U1 (K9 x0) x1 (List.length x1)))),(1000006,g8.own (Ty.d0 true (Ty.d0 true Ty.str)) (Prod.fst (Prod.snd (Subtype.val U1 (K9 x0) x1 (List.length x1))))),(1000037,g8.own Is (O8 (Prod.fst (Subtype.val U1 (K9 x0) x1 (List.length x1))) (Prod.snd (Prod.snd (Subtype.val U1 (K9 x0) x1 (List.length x1)))) (Int.toNat (K9 x0))))]))))):=by kernel_rfl
def JD (v0:Int) (vd:Int) (uM:Int) (aN:Int) (aC:Int) (aK:List n6) (aB:List yY) (az:List yY) (bq:List (List yY)) (bE:List Int):St:=St.mk [(0,AV.val d9 v0),(5,AV.ptr 1027 []),(6,AV.at_ 1000006 []),(37,AV.at_ 1000037 []),(38,AV.val d9 vd),(39,AV.val d9 uM)] [(1027,g8.var s5 ((aN,aC,()),aK,aB,az,())),(1000006,g8.own (Ty.d0 true (Ty.d0 true Ty.str)) bq),(1000037,g8.own Is bE)]
theorem XW (v0:Int) (vd:Int) (uM:Int) (aN:Int) (aC:Int) (aK:List n6) (aB:List yY) (az:List yY) (bq:List (List yY)) (bE:List Int):exec xi 1000 (.code (f8 (d8 Tryz.prog 6) 8).1::.inLoop (f8 (d8 Tryz.prog 6) 8).1::(f8 (d8 Tryz.prog 6) 8).2) (JD v0 vd uM aN aC aK aB az bq bE) =
  cond (decide (uM<vd)) (.f7 ((0:Int)<=uM/\uM<(↑(List.length bE):Int)) (.f7 (List.length aK<=6/\List.length (Z7 ((aN,aC,()),aK,aB,az,()) (List.getD bE (Int.toNat uM) (0:Int)))<=5864062014805) (.f7 (List.length aK<=6/\List.length (Prod.fst (Prod.snd (M4 ((aN,aC,()),aK,aB,az,()) (List.getD bE (Int.toNat uM) (0:Int)))))<=1048576) (.ctL (f8 (d8 Tryz.prog 6) 14) (St.mk [(0,AV.val d9 v0),(5,AV.ptr 1027 []),(6,AV.at_ 1000006 []),(10,AV.val d9 (List.getD bE (Int.toNat uM) (0:Int))),(12,AV.val d9 (Prod.fst (Prod.snd (vk ((aN,aC,()),aK,aB,az,()) (List.getD bE (Int.toNat uM) (0:Int)))))),(13,AV.val (Ty.d0 false Ty.str) (Prod.fst (wP ((aN,aC,()),aK,aB,az,()) (List.getD bE (Int.toNat uM) (0:Int))))),(14,AV.val d9 (Prod.fst (Prod.snd (wP ((aN,aC,()),aK,aB,az,()) (List.getD bE (Int.toNat uM) (0:Int)))))),(15,AV.ptr 15 []),(37,AV.at_ 1000037 []),(38,AV.val d9 vd),(39,AV.val d9 uM),(55,AV.at_ 1000055 []),(56,AV.val d9 (↑(List.length (Prod.fst (vk ((aN,aC,()),aK,aB,az,()) (List.getD bE (Int.toNat uM) (0:Int))))):Int)),(57,AV.val d9 (0:Int))] [(15,g8.var (Ty.arr 6 (Ty.d0 true Ty.str)) [[],[],[],[],[],[]]),(1027,g8.var s5 ((aN,aC,()),aK,aB,az,())),(1000006,g8.own (Ty.d0 true (Ty.d0 true Ty.str)) bq),(1000037,g8.own Is bE),(1000055,g8.own (Ty.d0 true p9) (Prod.fst (vk ((aN,aC,()),aK,aB,az,()) (List.getD bE (Int.toNat uM) (0:Int)))))]))))) (.ret ((true,()))):=by kernel_rfl
def JR (v0:Int) (v10:Int) (v12:Int) (uJ:List yY) (wg:Int) (vd:Int) (uM:Int) (Ae:Int) (uN:Int) (uQ:List (List yY)) (aN:Int) (aC:Int) (aK:List n6) (aB:List yY) (az:List yY) (bq:List (List yY)) (bE:List Int) (bV:List (Int×yY×Unit)):St:=St.mk [(0,AV.val d9 v0),(5,AV.ptr 1027 []),(6,AV.at_ 1000006 []),(10,AV.val d9 v10),(12,AV.val d9 v12),(13,AV.val (Ty.d0 false Ty.str) uJ),(14,AV.val d9 wg),(15,AV.ptr 15 []),(37,AV.at_ 1000037 []),(38,AV.val d9 vd),(39,AV.val d9 uM),(55,AV.at_ 1000055 []),(56,AV.val d9 Ae),(57,AV.val d9 uN)] [(15,g8.var (Ty.arr 6 (Ty.d0 true Ty.str)) uQ),(1027,g8.var s5 ((aN,aC,()),aK,aB,az,())),(1000006,g8.own (Ty.d0 true (Ty.d0 true Ty.str)) bq),(1000037,g8.own Is bE),(1000055,g8.own (Ty.d0 true p9) bV)]
theorem Zz (v0:Int) (v10:Int) (v12:Int) (uJ:List yY) (wg:Int) (vd:Int) (uM:Int) (Ae:Int) (uN:Int) (uQ:List (List yY)) (aN:Int) (aC:Int) (aK:List n6) (aB:List yY) (az:List yY) (bq:List (List yY)) (bE:List Int) (bV:List (Int×yY×Unit)):exec xi 1000 (.code (f8 (d8 Tryz.prog 6) 14).1::.inLoop (f8 (d8 Tryz.prog 6) 14).1::(f8 (d8 Tryz.prog 6) 14).2) (JR v0 v10 v12 uJ wg vd uM Ae uN uQ aN aC aK aB az bq bE bV) =
  cond (decide (uN<Ae)) (.f7 ((0:Int)<=uN/\uN<(↑(List.length bV):Int)) (cond (decide (Prod.fst (List.getD bV (Int.toNat uN) ((0:Int),[],()))<(0:Int))) (.ret ((false,()))) (cond (decide (v0<=Prod.fst (List.getD bV (Int.toNat uN) ((0:Int),[],())))) (.ret ((false,()))) (.f7 ((0:Int)<=Prod.fst (List.getD bV (Int.toNat uN) ((0:Int),[],()))/\Prod.fst (List.getD bV (Int.toNat uN) ((0:Int),[],()))<(↑6:Int)) (.f7 ((0:Int)<=Prod.fst (List.getD bV (Int.toNat uN) ((0:Int),[],()))/\Prod.fst (List.getD bV (Int.toNat uN) ((0:Int),[],()))<(↑6:Int)) (.f7 ([]++[Step.idx (Prod.fst (List.getD bV (Int.toNat uN) ((0:Int),[],())))]=[]++[Step.idx (Prod.fst (List.getD bV (Int.toNat uN) ((0:Int),[],())))]/\List.length (List.getD uQ (Int.toNat (Prod.fst (List.getD bV (Int.toNat uN) ((0:Int),[],())))) [])+List.length (List.set [[]] (Int.toNat (↑0:Int)) (Prod.fst (Prod.snd (List.getD bV (Int.toNat uN) ((0:Int),[],())))))<=140737488355328/\(List.length (List.getD uQ (Int.toNat (Prod.fst (List.getD bV (Int.toNat uN) ((0:Int),[],())))) [])+List.length (List.set [[]] (Int.toNat (↑0:Int)) (Prod.fst (Prod.snd (List.getD bV (Int.toNat uN) ((0:Int),[],()))))))*Ty.wb Ty.str<=140737488355328) (.f7 (r7 IntKind.i64 (uN+(1:Int))) (.ctL (f8 (d8 Tryz.prog 6) 14) (St.mk [(0,AV.val d9 v0),(5,AV.ptr 1027 []),(6,AV.at_ 1000006 []),(10,AV.val d9 v10),(12,AV.val d9 v12),(13,AV.val (Ty.d0 false Ty.str) uJ),(14,AV.val d9 wg),(15,AV.ptr 15 []),(37,AV.at_ 1000037 []),(38,AV.val d9 vd),(39,AV.val d9 uM),(55,AV.at_ 1000055 []),(56,AV.val d9 Ae),(57,AV.val d9 (uN+(1:Int)))] [(15,g8.var (Ty.arr 6 (Ty.d0 true Ty.str)) (List.set uQ (Int.toNat (Prod.fst (List.getD bV (Int.toNat uN) ((0:Int),[],())))) (List.getD uQ (Int.toNat (Prod.fst (List.getD bV (Int.toNat uN) ((0:Int),[],())))) []++List.set [[]] (Int.toNat (↑0:Int)) (Prod.fst (Prod.snd (List.getD bV (Int.toNat uN) ((0:Int),[],()))))))),(1027,g8.var s5 ((aN,aC,()),aK,aB,az,())),(1000006,g8.own (Ty.d0 true (Ty.d0 true Ty.str)) bq),(1000037,g8.own Is bE),(1000055,g8.own (Ty.d0 true p9) bV)]))))))))) (.ctL (f8 (d8 Tryz.prog 6) 21) (St.mk [(0,AV.val d9 v0),(5,AV.ptr 1027 []),(6,AV.at_ 1000006 []),(10,AV.val d9 v10),(12,AV.val d9 v12),(13,AV.val (Ty.d0 false Ty.str) uJ),(14,AV.val d9 wg),(15,AV.ptr 15 []),(37,AV.at_ 1000037 []),(38,AV.val d9 vd),(39,AV.val d9 uM),(82,AV.val d9 v0),(83,AV.val d9 (0:Int))] [(15,g8.var (Ty.arr 6 (Ty.d0 false Ty.str)) uQ),(1027,g8.var s5 ((aN,aC,()),aK,aB,az,())),(1000006,g8.own (Ty.d0 true (Ty.d0 true Ty.str)) bq),(1000037,g8.own Is bE)])):=by kernel_rfl
def JS (v0:Int) (v10:Int) (v12:Int) (uJ:List yY) (wg:Int) (vd:Int) (uM:Int) (Ad:Int) (uO:Int) (uQ:List (List yY)) (aN:Int) (aC:Int) (aK:List n6) (aB:List yY) (az:List yY) (bq:List (List yY)) (bE:List Int):St:=St.mk [(0,AV.val d9 v0),(5,AV.ptr 1027 []),(6,AV.at_ 1000006 []),(10,AV.val d9 v10),(12,AV.val d9 v12),(13,AV.val (Ty.d0 false Ty.str) uJ),(14,AV.val d9 wg),(15,AV.ptr 15 []),(37,AV.at_ 1000037 []),(38,AV.val d9 vd),(39,AV.val d9 uM),(82,AV.val d9 Ad),(83,AV.val d9 uO)] [(15,g8.var (Ty.arr 6 (Ty.d0 false Ty.str)) uQ),(1027,g8.var s5 ((aN,aC,()),aK,aB,az,())),(1000006,g8.own (Ty.d0 true (Ty.d0 true Ty.str)) bq),(1000037,g8.own Is bE)]
theorem ZA (v0:Int) (v10:Int) (v12:Int) (uJ:List yY) (wg:Int) (vd:Int) (uM:Int) (Ad:Int) (uO:Int) (uQ:List (List yY)) (aN:Int) (aC:Int) (aK:List n6) (aB:List yY) (az:List yY) (bq:List (List yY)) (bE:List Int):exec xi 1000 (.code (f8 (d8 Tryz.prog 6) 21).1::.inLoop (f8 (d8 Tryz.prog 6) 21).1::(f8 (d8 Tryz.prog 6) 21).2) (JS v0 v10 v12 uJ wg vd uM Ad uO uQ aN aC aK aB az bq bE) =
  cond (decide (uO<Ad)) (.f7 ((0:Int)<=uO/\uO<(↑6:Int)) (cond (decide (v12≠(0:Int))) (.ret ((false,()))) (cond (decide (wg≠(0:Int))) (.ret ((false,()))) (.f7 ((0:Int)<=uO/\uO<(↑(List.length bq):Int)) (cond (decide ((↑(List.length (List.getD bq (Int.toNat uO) [])):Int)<(↑(List.length (List.getD uQ (Int.toNat uO) [])):Int))) (.ret ((false,()))) (.f7 ((0:Int)<=uO/\uO<(↑6:Int)) (.f7 ((0:Int)<=uO/\uO<(↑(List.length bq):Int)) (.f7 ((0:Int)<=(0:Int)/\(0:Int)<=(↑(List.length (List.getD uQ (Int.toNat uO) [])):Int)/\(↑(List.length (List.getD uQ (Int.toNat uO) [])):Int)<=(↑(List.length (List.getD bq (Int.toNat uO) [])):Int)) (.f7 (True) (cond (!decide (List.getD uQ (Int.toNat uO) []=n7 (0:Int) (↑(List.length (List.getD uQ (Int.toNat uO) [])):Int) (List.getD bq (Int.toNat uO) []))) (.ret ((false,()))) (.f7 (r7 IntKind.i64 (uO+(1:Int))) (.ctL (f8 (d8 Tryz.prog 6) 21) (St.mk [(0,AV.val d9 v0),(5,AV.ptr 1027 []),(6,AV.at_ 1000006 []),(10,AV.val d9 v10),(12,AV.val d9 v12),(13,AV.val (Ty.d0 false Ty.str) uJ),(14,AV.val d9 wg),(15,AV.ptr 15 []),(37,AV.at_ 1000037 []),(38,AV.val d9 vd),(39,AV.val d9 uM),(82,AV.val d9 Ad),(83,AV.val d9 (uO+(1:Int)))] [(15,g8.var (Ty.arr 6 (Ty.d0 false Ty.str)) uQ),(1027,g8.var s5 ((aN,aC,()),aK,aB,az,())),(1000006,g8.own (Ty.d0 true (Ty.d0 true Ty.str)) bq),(1000037,g8.own Is bE)]))))))))))))) (.f7 ((0:Int)<=v10/\v10<(↑6:Int)) (.f7 (List.length (List.flatten (List.set (List.set [[],[]] (Int.toNat (↑0:Int)) (List.getD uQ (Int.toNat v10) [])) (Int.toNat (↑1:Int)) uJ))<=1048576) (.f7 ((0:Int)<=v10/\v10<(↑(List.length bq):Int)) (.f7 (True) (cond (!decide (List.flatten (List.set (List.set [[],[]] (Int.toNat (↑0:Int)) (List.getD uQ (Int.toNat v10) [])) (Int.toNat (↑1:Int)) uJ)=List.getD bq (Int.toNat v10) [])) (.ret ((false,()))) (.f7 (r7 IntKind.i64 (uM+(1:Int))) (.ctL (f8 (d8 Tryz.prog 6) 8) (St.mk [(0,AV.val d9 v0),(5,AV.ptr 1027 []),(6,AV.at_ 1000006 []),(37,AV.at_ 1000037 []),(38,AV.val d9 vd),(39,AV.val d9 (uM+(1:Int)))] [(1027,g8.var s5 ((aN,aC,()),aK,aB,az,())),(1000006,g8.own (Ty.d0 true (Ty.d0 true Ty.str)) bq),(1000037,g8.own Is bE)])))))))):=by kernel_rfl
def vo (l:List C4):List (List C9):=(List.range 6).map λ q=>X6 q l
theorem zZ {l:List C4} {q:Nat} (h:q<6):(vo l).getD q []=X6 q l:=by
  unfold vo;rw [List.getD_eq_getElem?_getD,List.getElem?_map,List.getElem?_range h]; rfl
theorem BP (l:List C4):(vo l).length=6:=by unfold vo; rw [List.length_map,List.length_range]
theorem b9H {l:List C4} {s:C4} {f:Nat} (hf:s.1=f) (h6:f<6):(vo l).set f ((vo l).getD f []++[s.2.1])=vo (l++[s]):=by
  refine Ps (d:=[]) (by rw [List.length_set,BP,BP]) (λ q hq=>?_);rw [List.length_set,BP] at hq;rw [U5,zZ h6,zZ hq,zZ hq,zI];by_cases e:f=q
  . subst e;rw [if_pos ⟨rfl,by rw [BP]; exact h6⟩];have:X6 f [s]=[s.2.1]:=by rw [X6,if_pos hf]; rfl
    rw [this]
  . rw [if_neg (λ h=>e h.1)];have:X6 q [s]=[]:=by rw [X6,if_neg (by omega)]; rfl
    rw [this,List.append_nil]
theorem c0f {c:Nat} {said:Nat->List C9} {w:f9} (h:Ok c said w) {j:Nat} (hj:j<w.2.1.length) (hv:R5 w.1.2.1 j=true) :
    (∀ s∈Z7 w j,0<=s.1/\s.1<(w.2.1.length:Int))/\(∀ q:Nat,q<w.2.1.length->X6 q (Z7 w j) <+: said q)/\X6 j (Z7 w j)++(M4 w j).2.1=said j:=by
  obtain ⟨B,S,Q,hI⟩:=h.inv;obtain ⟨⟨m,hm⟩,dV⟩:=hI.mem j hj hv;have jr:Z7 w j=B++(Q.take m).map a31:=hm.log;have dK:(M4 w j).2.1=(S j).drop (B9 j (Q.take m)).length:=by
    have:=hm.from_;show (w.2.1.getD j j7).2.2.1.2.1=_;rw [this]
  rw [jr,dK];refine ⟨λ s hs=>?_,λ q hq=>?_,?_⟩
  . rcases List.mem_append.1 hs with hs|hs
    . exact hI.Fe s hs
    . obtain ⟨y,hy,rfl⟩:=List.mem_map.1 hs;have:=hI.inQ y (List.mem_of_mem_take hy);show 0<=((y.1:Nat):Int)/\((y.1:Nat):Int)<_;omega
  . rw [zI,zJ];have aV:=(xu (p:=q) (Q:=Q) (i:=m)).trans (hI.xH q);cases qJ:R5 w.1.2.1 q with
    | true =>
      rw [(hI.mem q hq qJ).2];exact (List.prefix_append_right_inj _).2 aV
    | false =>
      obtain ⟨e1,e2⟩:=hI.out q hq qJ;rw [e1] at aV;rw [List.prefix_nil.1 aV,List.append_nil];exact e2
  . rw [zI,zJ,dV,List.append_assoc];congr 1;have aV:=(xu (p:=j) (Q:=Q) (i:=m)).trans (hI.xH j)
    conv=>rhs; rw [<- List.take_append_drop (B9 j (Q.take m)).length (S j)]
    rw [<- List.prefix_iff_eq_take.1 aV]
theorem Nt {p:Nat}:∀ {l:List C4},(X6 p l).length<=l.length
  | []=>Nat.le_refl _
  | x::l=>by
    have:=Nt (p:=p) (l:=l);rw [X6]; split<;>simp only [List.length_cons]<;>omega
attribute [local irreducible] G2 vk wP O8 vo X6 in
theorem a9E:RQ.Valid Tryz.prog 6:=by
  refine o7.n8 Bx rfl rfl Tryz.func6 (c:=d8 Tryz.prog 6) rfl rfl BA rfl ?_;rintro ⟨(n0:Int),(l:List G5),⟨⟩⟩ hs -
  have hl:l.length<=1048576:=XQ hs;refine j6 (n:=1000) Bx BA ?_;refine i6 (Wi n0 l) ?_;have hn:=Mo n0;obtain ⟨n,mv⟩:∃ n,n=K9 n0:=⟨_,rfl⟩;rw [<- mv] at hn ⊢;have hW:=DF hn l l.length;rw [U1.2];generalize G2 n l l.length=s at hW ⊢;obtain ⟨w,sd,fl⟩:=s;have hlen:=hW.len;have aL:=hW.ok;have rN:=hW.said;have pI:=hW.each;simp only at hlen aL rN;have kx:∀ q:Nat,xQ ((w,sd,fl):vB) q=sd.getD q []:=λ q=>rfl;simp only [j5,Tree.holds,sL];refine ⟨⟨hn,hl⟩,λ _=>⟨⟨by omega,hn.2⟩,λ _=>?_⟩⟩;have hh:∀ i,i<(O8 w fl n.toNat).length->∃ j:Nat,(O8 w fl n.toNat).getD i 0=j/\j<n.toNat/\R5 w.1.2.1 j=true/\¬ (j:Int)∈fl:=λ i hi=>VN hi;have sN:=Jp w fl n.toNat;obtain ⟨h,jy⟩:∃ h,h=O8 w fl n.toNat:=⟨_,rfl⟩;rw [<- jy] at hh sN ⊢;suffices go:Go.Ex.Reach xi Tryz.f6 (true,()) () (.code (f8 (d8 Tryz.prog 6) 8).1::.inLoop (f8 (d8 Tryz.prog 6) 8).1::(f8 (d8 Tryz.prog 6) 8).2) (JD n (h.length:Int) ((0:Nat):Int) w.1.1 w.1.2.1 w.2.1 w.2.2.1 w.2.2.2.1 sd h) by exact go
  refine Reach.J8 Bx BA (λ i:Nat=>JD n (h.length:Int) (i:Int) w.1.1 w.1.2.1 w.2.1 w.2.2.1 w.2.2.2.1 sd h) (λ i=>i<=h.length) (λ i=>h.length - i) 1000 (λ _=>⟨r8 rfl,r8 rfl⟩) ?_ 0 (Nat.zero_le _);rintro i k1 - ih;have k1:i<=h.length:=k1;refine i6 (XW ..) ?_;have e1:((i:Nat):Int)+1=((i+1:Nat):Int):=by omega
  by_cases hi:¬ i<h.length
  . obtain rfl:i=h.length:=by omega
    simp only [j5,Tree.holds,sL];exact ⟨λ c=>absurd c (by omega),λ _=>rfl⟩
  have hi:=Decidable.not_not.1 hi;obtain ⟨p,mh,fN,rX,-⟩:=hh i hi;obtain ⟨f1,f2,f3⟩:=c0f aL (show p<w.2.1.length by omega) rX;have lp:vk ((w.1.1,w.1.2.1,()),w.2.1,w.2.2.1,w.2.2.2.1,()) (p:Int)=(Z7 w p,0,()):=VU (w:=w) (by omega);have ap:wP ((w.1.1,w.1.2.1,()),w.2.1,w.2.2.1,w.2.2.2.1,()) (p:Int)=((M4 w p).2.1,0,()):=WH (w:=w) (by omega);have sr:(Z7 w (p:Int)).length<=16*l.length:=aL.sz.log p;have bf:(M4 w (p:Int)).2.1.length<=1048576:=Nat.le_trans (aL.sz.late p) (by omega);simp only [j5,Tree.holds,mh,lp,ap,sL];refine ⟨λ _=>⟨by omega,λ _=>⟨⟨aL.K9,by show (Z7 w (p:Int)).length<=_; omega⟩,λ _=>⟨⟨aL.K9,bf⟩,λ _=>?_⟩⟩⟩,λ c=>absurd (by omega) c⟩;obtain ⟨g,mR⟩:∃ g,g=Z7 w (p:Int):=⟨_,rfl⟩;obtain ⟨t,rK⟩:∃ t,t=(M4 w (p:Int)).2.1:=⟨_,rfl⟩;rw [<- mR] at f1 f2 f3 sr ⊢;rw [<- rK] at f3 ⊢;have t0:vo (g.take 0)=[[],[],[],[],[],[]]:=by rw [List.take_zero,vo.eq_1]; simp only [X6.eq_1]; rfl
  suffices go:Go.Ex.Reach xi Tryz.f6 (true,()) () (.code (f8 (d8 Tryz.prog 6) 14).1::.inLoop (f8 (d8 Tryz.prog 6) 14).1::(f8 (d8 Tryz.prog 6) 14).2) (JR n (p:Int) 0 t 0 (h.length:Int) (i:Int) (g.length:Int) ((0:Nat):Int) (vo (g.take 0)) w.1.1 w.1.2.1 w.2.1 w.2.2.1 w.2.2.2.1 sd h g) by
    rw [t0] at go; exact go
  refine Reach.J8 Bx BA (λ k:Nat=>JR n (p:Int) 0 t 0 (h.length:Int) (i:Int) (g.length:Int) (k:Int) (vo (g.take k)) w.1.1 w.1.2.1 w.2.1 w.2.2.1 w.2.2.2.1 sd h g) (λ k=>k<=g.length) (λ k=>g.length - k) 1000 (λ _=>⟨r8 rfl,r8 rfl⟩) ?_ 0 (Nat.zero_le _);rintro k m1 - ih2;have m1:k<=g.length:=m1;refine i6 (Zz ..) ?_;have e2:((k:Nat):Int)+1=((k+1:Nat):Int):=by omega
  have kq:Ty.wb .str=16:=rfl;by_cases hk:k<g.length
  . obtain ⟨x,hx⟩:∃ x,x=g.getD k (0,[],()):=⟨_,rfl⟩;have eG:x∈g:=by rw [hx,List.getD_eq_getElem?_getD,List.getElem?_eq_getElem hk]; exact List.getElem_mem _
    obtain ⟨x1,x2⟩:=f1 x eG;obtain ⟨q,hq⟩:∃ q:Nat,x.1=q:=⟨x.1.toNat,by omega⟩;have nJ:q<6:=by omega
    have bK:=b9H (l:=g.take k) hq nJ;rw [hx,<- Es hk] at bK;have iP:((vo (g.take k)).getD q []).length<=g.length:=by
      rw [zZ nJ];exact Nat.le_trans Nt (by rw [List.length_take]; omega)
    rw [<- hx] at bK;have ih3:=ih2 (k+1) (by show k+1<=g.length; omega) (by show g.length - (k+1)<g.length - k; omega);rw [<- bK] at ih3;simp only [j5,Tree.holds,e2,<- hx,hq,kq,sL];refine ⟨λ _=>⟨by omega,λ _=>⟨λ c=>absurd c (by omega),λ _=>⟨λ c=>absurd c (by omega),λ _=>⟨by omega,λ _=>⟨by omega,λ _=>⟨⟨by omega,by omega⟩,λ _=>⟨⟨by omega,by omega⟩,λ _=>ih3⟩⟩⟩⟩⟩⟩⟩,λ c=>absurd (by omega) c⟩
  obtain rfl:k=g.length:=by omega
  rw [List.take_length];simp only [j5,Tree.holds,sL];refine ⟨λ c=>absurd c (by omega),λ _=>?_⟩;clear ih2;have uB:=BP g;suffices go:Go.Ex.Reach xi Tryz.f6 (true,()) () (.code (f8 (d8 Tryz.prog 6) 21).1::.inLoop (f8 (d8 Tryz.prog 6) 21).1::(f8 (d8 Tryz.prog 6) 21).2) (JS n (p:Int) 0 t 0 (h.length:Int) (i:Int) n ((0:Nat):Int) (vo g) w.1.1 w.1.2.1 w.2.1 w.2.2.1 w.2.2.2.1 sd h) by exact go
  refine Reach.J8 Bx BA (λ q:Nat=>JS n (p:Int) 0 t 0 (h.length:Int) (i:Int) n (q:Int) (vo g) w.1.1 w.1.2.1 w.2.1 w.2.2.1 w.2.2.2.1 sd h) (λ q=>q<=n.toNat) (λ q=>n.toNat - q) 1000 (λ _=>⟨r8 rfl,r8 rfl⟩) ?_ 0 (Nat.zero_le _);rintro q m2 - ih2;have m2:q<=n.toNat:=m2;refine i6 (ZA ..) ?_;have e3:((q:Nat):Int)+1=((q+1:Nat):Int):=by omega
  by_cases hq:q<n.toNat
  . have nJ:q<6:=by omega
    have tg:=zZ (l:=g) nJ;have aV:=f2 q (by omega);rw [kx] at aV;have hle:=aV.length_le;have gX:n7 0 ((X6 q g).length:Int) (sd.getD q [])=X6 q g:=by rw [VG]; exact (List.prefix_iff_eq_take.1 aV).symm
    simp only [j5,Tree.holds,e3,tg,gX,sL];refine ⟨λ _=>⟨by omega,λ _=>⟨λ c=>absurd rfl c,λ _=>⟨λ c=>absurd rfl c,λ _=>⟨by omega,λ _=>⟨λ c=>absurd c (by omega),λ _=>⟨by omega,λ _=>⟨by omega,λ _=>⟨by omega,λ _=>⟨λ c=>absurd trivial c,⟨⟨by omega,by omega⟩,λ _=>ih2 (q+1) (by show q+1<=n.toNat; omega) (by show n.toNat - (q+1)<n.toNat - q; omega)⟩⟩⟩⟩⟩⟩⟩⟩⟩⟩,λ c=>absurd (by omega) c⟩
  . obtain rfl:q=n.toNat:=by omega
    have rW:p<6:=by omega
    have tg:=zZ (l:=g) rW;have fy:List.flatten (List.set (List.set [[],[]] 0 (X6 p g)) 1 t)=sd.getD p []:=by
      rw [<- kx,<- f3];show X6 p g++(t++[])=_;rw [List.append_nil]
    have cJ:=pI p;rw [kx] at cJ;simp only [j5,Tree.holds,e1,tg,fy,sL];refine ⟨λ c=>absurd c (by omega),λ _=>⟨by omega,λ _=>⟨(by have h9:(List.flatten (List.set (List.set [[],[]] 0 (X6 p g)) 1 t)).length<=1048576:=(by rw [fy]; omega); exact h9),λ _=>⟨by omega,λ _=>⟨λ c=>absurd fy c,λ _=>⟨⟨by omega,by omega⟩,λ _=>ih (i+1) (by show i+1<=h.length; omega) (by show h.length - (i+1)<h.length - i; omega)⟩⟩⟩⟩⟩⟩
end Go.Proofs.YtijlnmgondibnaaGreatDoor
