import Derived.Test.YtijlnmgondibnaaGreatDoorJ2
import Derived.Test.YtijlnmgondibnaaGreatDoorJ1
set_option linter.unusedVariables false
set_option linter.unusedSimpArgs false
set_option linter.unusedSectionVars false
namespace Go.Proofs.YtijlnmgondibnaaGreatDoor
open Go.Ex
set_option maxRecDepth 100000
theorem Ow {b:Int} {l:List C8} (h1:0<=b/\b<=16777215) (h2:l.length<=16) (h3:l.any D8=false):H6 (b,l,())=0:=by
  unfold H6;rw [if_neg (by rw [wU.2 h1]; decide),if_neg (by show ¬ (16:Int)<(l.length:Int); omega),if_neg (by rw [h3]; decide)]
theorem Nj {l:List C8} {k:Nat} (h:l.any D8=false):(l.drop k).any D8=false:=by
  rw [List.any_eq_false] at h ⊢;exact λ x hx=>h x (List.mem_of_mem_drop hx)
theorem Ud {k:Nat} {l:List C8} (h:H6 ((k:Int),l,())=0) (hl:1<=l.length) (hb:k+l.length<=16777215) :
    Q4 ((k:Int),l,()) ((k:Int)+1)=((((k+1:Nat):Int),l.drop 1,()),0,())/\H6 (((k+1:Nat):Int),l.drop 1,())=0:=by
  have aM:=xd h;have ha:ahd (k:Int) ((k:Int)+1)=1:=by unfold ahd; rw [if_neg (by omega)]; omega
  constructor
  . unfold Q4;rw [if_neg (by rw [h]; decide),if_neg (by show ¬ (k:Int)+(l.length:Int)<(k:Int)+1; omega)];simp only;rw [ha];rfl
  . exact Ow ⟨by omega,by omega⟩ (by rw [List.length_drop]; have:=aM.2.1; simp only at this; omega) (Nj aM.2.2)
section
variable {said:Nat->List C8} {B:List C9} {S:Nat->List C8} {Q:List U4} {w:f8}
structure Ae (B:List C9) (S:Nat->List C8) (Q:List U4) (p m:Nat) (x:n7):Prop where
  log:x.2.1=B++(Q.take m).map vI
  from_:x.2.2.1=(((B8 p (Q.take m)).length:Int),(S p).drop (B8 p (Q.take m)).length,())
  ok:H6 x.2.2.1=0
theorem Zp {p m q:Nat} {x:n7} {s:C8} (h:Ae B S Q p m x) (hQ:Q[m]?=some (q,s)) (hq:q<=5) (bc:∀ p,B8 p Q <+: S p) (ch:∀ p,(S p).length<=16777215) :
    Ae B S Q p (m+1) (vx p x (I4 q (B8 q (Q.take m)).length s))/\(vx p x (I4 q (B8 q (Q.take m)).length s)).2.2.2=x.2.2.2/\(vx p x (I4 q (B8 q (Q.take m)).length s)).1=x.1:=by
  have hm:m<Q.length:=by
    by_cases hm:m<Q.length
    . exact hm
    . rw [List.getElem?_eq_none (by omega)] at hQ; cases hQ
  have eF:Q.take (m+1)=Q.take m++[(q,s)]:=by
    rw [List.take_add_one,hQ]; rfl
  have pI:∀ p,(B8 p (Q.take (m+1))).length<=(S p).length:=λ p=>((yr (p:=p) (Q:=Q) (i:=m+1)).trans (bc p)).length_le;have hk:(B8 q (Q.take m)).length<=16777300:=by
    have h1:=((yr (p:=q) (Q:=Q) (i:=m)).trans (bc q)).length_le;have:=ch q;omega
  have hw:who (I4 q (B8 q (Q.take m)).length s)=q:=Wg hq;have hn:nth (I4 q (B8 q (Q.take m)).length s)=(B8 q (Q.take m)).length:=OE hk;have ht:wu (I4 q (B8 q (Q.take m)).length s)=s:=XN;have my:x.2.1++[((q:Int),s,())]=B++(Q.take (m+1)).map vI:=by
    rw [h.log,eF,List.map_append,List.append_assoc]; rfl
  by_cases e:q=p
  . subst e;have hc:=pI q;rw [eF,xH] at hc;have h1:B8 q [(q,s)]=[s]:=by simp [B8]
    rw [h1,List.length_append] at hc;simp only [List.length_singleton] at hc;have aM:=h.ok;rw [h.from_] at aM;obtain ⟨g1,g2⟩:=Ud aM (by rw [List.length_drop]; omega) (by rw [List.length_drop]; have:=ch q; omega);have hl:Q4 x.2.2.1 (nth (I4 q (B8 q (Q.take m)).length s)+1)=(((((B8 q (Q.take m)).length+1:Nat):Int),((S q).drop (B8 q (Q.take m)).length).drop 1,()),0,()):=by
      rw [h.from_,hn]; exact g1
    rw [Jk hw (by rw [hl]),hl,hw,ht];refine ⟨⟨my,?_,g2⟩,rfl,rfl⟩;show (((((B8 q (Q.take m)).length+1:Nat):Int),((S q).drop (B8 q (Q.take m)).length).drop 1,()):FrD)=_;rw [eF,xH,h1,List.length_append,List.drop_drop]; rfl
  . rw [Df (λ c=>e (by have:=c.1; rw [hw] at this; exact_mod_cast this)),hw,ht];refine ⟨⟨my,?_,h.ok⟩,rfl,rfl⟩;have h1:B8 p [(q,s)]=[]:=by simp [B8,e]
    rw [eF,xH,h1,List.append_nil];exact h.from_
theorem Pf {p m:Nat} {x:n7} {l:List C8} (h:Ae B S Q p m x) (hl:∀ i,i<l.length->(N6 Q)[m+i]?=l[i]?) (hq:∀ y∈Q,y.1<=5) (bc:∀ p,B8 p Q <+: S p) (ch:∀ p,(S p).length<=16777215) :
    ∀ {i},i<=l.length->Ae B S Q p (m+i) (J6 p x l i)/\(J6 p x l i).2.2.2=x.2.2.2/\(J6 p x l i).1=x.1
  | 0,_=>⟨h,rfl,rfl⟩
  | i+1,hi=>by
    obtain ⟨g1,g2,g3⟩:=Pf h hl hq bc ch (show i<=l.length by omega);have h1:=hl i (by omega);rw [PN,List.getElem?_eq_getElem (show i<l.length by omega)] at h1;cases hQ:Q[m+i]? with
    | none=>rw [hQ] at h1; cases h1
    | some y =>
      obtain ⟨q,s⟩:=y;rw [hQ] at h1;have h2:I4 q (B8 q (Q.take (m+i))).length s=l[i]:=by simpa using h1
      have hy:=hq (q,s) (List.mem_of_getElem? hQ);obtain ⟨k1,k2,k3⟩:=Zp (p:=p) g1 hQ hy bc ch;rw [J6,show l.getD i []=I4 q (B8 q (Q.take (m+i))).length s by rw [h2,List.getD_eq_getElem?_getD,List.getElem?_eq_getElem (show i<l.length by omega)]; rfl];exact ⟨k1,k2.trans g2,k3.trans g3⟩
theorem Inv.le5 (h:Inv said B S Q w):∀ y∈Q,y.1<=5:=λ y hy=>by have:=h.inQ y hy; have:=h.L9; omega
theorem Inv.take (h:Inv said B S Q w) {n:y8} {p:Nat} (hp:n.2.2.1=p) (cf:p<w.2.1.length) (hv:V1 w.1.2.1 p=true) (hm:w.2.2.1[n.2.2.2.2.1.toNat]?=some n.2.2.2.2.2.2.1) :
    Inv said B S Q (uX w n):=by
  by_cases he:(P9 w n).2.2.1≠0
  . rw [uX,if_pos he]; exact h
  rw [uX,if_neg he,hp];have ll:P9 w n=D0 (w.2.1.getD p j5).2.2.2.1 (n.2.2.2.2.1,n.2.2.2.2.2.2.1,()):=by rw [P9,hp]; rfl
  rw [ll] at he ⊢;have kQ:=Decidable.not_not.1 he;obtain ⟨⟨m,hM⟩,eH⟩:=h.mem p cf hv;rw [h.ord] at hm;obtain ⟨a1,a2,a3,a4,a5,a6⟩:=yC kQ;have fI:=Ph (F:=λ i=>(N6 Q)[i]?) kQ hM.wait hm;obtain ⟨r,hr⟩:∃ r,r=D0 (w.2.1.getD p j5).2.2.2.1 (n.2.2.2.2.1,n.2.2.2.2.2.2.1,()):=⟨_,rfl⟩;rw [<- hr] at kQ a1 a2 a3 a5 a6 fI ⊢;have jN:=hM.next;have fI:∀ i,i<r.2.1.length->(N6 Q)[m+i]?=r.2.1[i]?:=λ i hi=>by
    have:=fI i hi;rw [jN] at this;exact this
  have hH:Ae B S Q p m (Ai (N4 w (p:Int)) r.1):=⟨hM.log,hM.from_,hM.ok⟩;obtain ⟨k1,k2,k3⟩:=Pf hH fI h.le5 h.yL h.short (Nat.le_refl _);refine h.D5 (p:=p) (λ _=>?_) (λ _ _=>⟨m+r.2.1.length,?_⟩)
  . rw [k2];exact h.rcv p cf
  . refine ⟨?_,?_,?_,k1.log,k1.from_,k1.ok⟩
    . rcases Nat.eq_zero_or_pos r.2.1.length with h0|h0
      . rw [h0]; exact hM.le
      . have h1:=fI (r.2.1.length - 1) (by omega);rw [List.getElem?_eq_getElem (show r.2.1.length - 1<r.2.1.length by omega)] at h1;have h2:m+(r.2.1.length - 1)<(N6 Q).length:=by
          by_cases h2:m+(r.2.1.length - 1)<(N6 Q).length
          . exact h2
          . rw [List.getElem?_eq_none (by omega)] at h1; cases h1
        rw [WR] at h2;omega
    . rw [k2];show r.1.1=_;rw [a5,jN]; omega
    . rw [k2];intro x hx;rcases a2 x hx with rfl|hx
      . exact hm
      . exact hM.wait x hx
theorem Inv.Ut (h:Inv said B S Q w) {n:y8} (h0:0<=n.2.2.2.2.1) (hm:xr S w.2.2.1 n) (ha:s5 w n.2.2.1=true):∃ Q',Inv said B S Q' (F6 w n):=by
  by_cases hk:known w n.2.1≠0
  . exact ⟨Q,by rw [QV hk]; exact h⟩
  by_cases c1:n.1=1
  . rw [RL hk c1]; exact h.order hk (hm.1 c1)
  by_cases c3:n.1=3
  . refine ⟨Q,?_⟩;rw [RJ hk c3]; exact h.FV (h.asks h0 4)
  by_cases c2:n.1=2
  . refine ⟨Q,?_⟩;rw [RO hk c2];obtain ⟨p,hp,cf,hv,-⟩:=BB.1 ha;exact h.take hp cf hv (hm.2 c2)
  . exact ⟨Q,by rw [RN c1 c3 c2]; exact h⟩
theorem NZ {s:C8} (h:(w6 s).2.1=0):0<=(w6 s).1.2.2.2.2.1/\(w6 s).1.2.2.2.2.1<=16777215:=(Jf (Uf h).1).seq
theorem Inv.SJ (h:Inv said B S Q w) {bA:Int} {s:C8} (hs:yT S w.2.2.1 w.1.1 s):∃ Q',Inv said B S Q' (wC w bA s):=by
  by_cases c:bA=1/\(w6 s).2.1=0/\(w6 s).1.2.2.2.1=w.1.1/\s5 w (w6 s).1.2.2.1=true
  . rw [Qm c];exact h.Ut (NZ c.2.1).1 ((hs c.2.1).2 c.2.2.1) c.2.2.2
  . exact ⟨Q,by rw [Pk c]; exact h⟩
theorem Inv.move (h:Inv said B S Q w) (k bA:Int):∃ Q',Inv said B S Q' (F5 w k bA).1:=by
  by_cases c1:I2 bA 1 3=false
  . exact ⟨Q,by rw [Pj c1]; exact h⟩
  by_cases c2:I2 k 0 ((w.2.2.2.1.length:Int) - 1)=false
  . exact ⟨Q,by rw [Ql c1 c2]; exact h⟩
  have hk:=U1.1 (Bool.not_eq_false _▸c2:I2 k 0 ((w.2.2.2.1.length:Int) - 1)=true);by_cases c3:bA=3
  . by_cases c4:(w.2.2.2.1.length:Int)=60
    . exact ⟨Q,by rw [Qk c1 c2 c3 c4]; exact h⟩
    . refine ⟨Q,?_⟩;rw [Qj c1 c2 c3 c4];exact h.copy (by omega) c4
  . rw [HN c1 c2 c3];refine (h.drop k).SJ ?_;refine h.msg _ ?_;rw [List.getD_eq_getElem?_getD,List.getElem?_eq_getElem (by omega)]; exact List.getElem_mem _
end
end Go.Proofs.YtijlnmgondibnaaGreatDoor
namespace Go.Proofs.YtijlnmgondibnaaGreatDoor
open Go.Ex
set_option maxRecDepth 100000
theorem HL {x:Int} (h:0<=x/\x<=255) {p:Nat} (hp:p<8):V1 x p=bit x p:=by
  have key:∀ n:Fin 256,∀ i:Fin 8,V1 ((n.val:Nat):Int) i.val=bit ((n.val:Nat):Int) i.val:=by decide +kernel
  have:=key ⟨x.toNat,by omega⟩ ⟨p,hp⟩;simpa [show ((x.toNat:Nat):Int)=x by omega] using this
theorem UN {k i:Nat} (hk:k<8) (hi:i<8):bit (IntKind.wrap .u8 (1*2^min ((k:Nat):Int).toNat IntKind.u8.bits)) i=decide (i=k):=by
  have key:∀ k:Fin 8,∀ i:Fin 8,bit (IntKind.wrap .u8 (1*2^min ((k.val:Nat):Int).toNat IntKind.u8.bits)) i.val=decide (i.val=k.val):=by decide +kernel
  exact key ⟨k,hk⟩ ⟨i,hi⟩
theorem Pb (i:Nat):bit 0 i=false:=by
  show (0:Nat).testBit i=false;simp
theorem Oy {w:f8} (hv:0<=w.1.2.1/\w.1.2.1<=255):∀ {k:Nat},k<=8->r9 .u8 (E5 w k)/\∀ i,i<8->bit (E5 w k) i=(decide (i<k) && V1 w.1.2.1 i && !s5 w i)
  | 0,_=>⟨u8_in.2 ⟨Int.le_refl 0,by show (0:Int)<=255; decide⟩,λ i _=>by
      show bit 0 i=_;rw [Pb]; simp⟩
  | k+1,hk=>by
    obtain ⟨h1,h2⟩:=Oy hv (show k<=8 by omega);rw [E5,Ox];by_cases a:s5 w k=true
    . rw [if_pos a];refine ⟨h1,λ i hi=>?_⟩;rw [h2 i hi];by_cases e:i=k
      . subst e;rw [a]; simp
      . rw [show decide (i<k+1)=decide (i<k) by by_cases c:i<k<;>simp [c]<;>omega]
    . rw [if_neg a];refine ⟨Fz,λ i hi=>?_⟩;rw [Lp u8s h1 Lj,LM u8s (u8_in.2 hv) (R9 _ _),UN (by omega) hi,h2 i hi,<- HL hv hi];by_cases e:i=k
      . subst e;have a':s5 w i=false:=by simpa using a
        rw [a']; simp
      . rw [show decide (i<k+1)=decide (i<k) by by_cases c:i<k<;>simp [c]<;>omega];simp [e]
theorem WD {v:vr} {g:Int} (h:¬ (Q8 v g 0).2.1≠0):(Q8 v g 0).1=(v.1+1,bOr .u8 (V9 .u8 v.2.1 g) 0,())/\v.1<16777215/\0<=v.1:=by
  unfold Q8 at h ⊢;by_cases c1:W0 v≠0
  . rw [if_pos c1] at h; exact absurd c1 h
  rw [if_neg c1] at h ⊢;split at h
  . exact absurd (by decide) h
  rename_i c2;rw [if_neg c2];split at h
  . exact absurd (by decide) h
  rename_i c3;rw [if_neg c3];split at h
  . exact absurd (by decide) h
  rename_i c4;rw [if_neg c4];split at h
  . exact absurd (by decide) h
  rename_i c5;rw [if_neg c5];refine ⟨rfl,?_⟩;unfold W0 at c1;split at c1
  . exact absurd (by decide) c1
  . rename_i c6;omega
theorem members {w:f8} (hf:w.2.1.length<=6) (hv:0<=w.1.2.1/\w.1.2.1<=255) (hn:¬ (T9 w).2.1≠0) :
    (H3 w).1.1=w.1.1+1/\(0<=(H3 w).1.2.1/\(H3 w).1.2.1<=255)/\∀ p,p<w.2.1.length->V1 (H3 w).1.2.1 p=s5 w p:=by
  obtain ⟨h1,h2⟩:=WD hn;have he:(H3 w).1=(w.1.1+1,bOr .u8 (V9 .u8 w.1.2.1 (E5 w w.2.1.length)) 0,()):=h1;obtain ⟨g1,g2⟩:=Oy hv (show w.2.1.length<=8 by omega);rw [he];refine ⟨rfl,u8_in.1 Fz,λ p hp=>?_⟩;have z0:r9 .u8 (0:Int):=u8_in.2 ⟨by decide,by decide⟩;show V1 (bOr .u8 (V9 .u8 w.1.2.1 (E5 w w.2.1.length)) 0) p=s5 w p;rw [HL (u8_in.1 Fz) (by omega),Lp u8s Xp z0,Yt u8s (u8_in.2 hv) g1,g2 p (by omega),Pb,<- HL hv (by omega),decide_eq_true hp];cases hm:V1 w.1.2.1 p with
  | true=>simp
  | false =>
    have:s5 w p=false:=by
      cases ha:s5 w p with
      | false=>rfl
      | true=>have:=(yw.1 ha).2.1; rw [hm] at this; cases this
    rw [this]; rfl
theorem IZ {w:f8}:∀ {k:Nat},I0 w k=[]\/∃ i,i<k/\s5 w i=true/\I0 w k=(w.2.1.getD i j5).2.1
  | 0=>.inl rfl
  | k+1=>by
    rw [I0]
    split
    . rename_i h; exact .inr ⟨k,by omega,h.1,rfl⟩
    . rcases IZ (w:=w) (k:=k) with h|⟨i,h1,h2,h3⟩
      . exact .inl h
      . exact .inr ⟨i,by omega,h2,h3⟩
theorem Rd {f:Nat->n7->n7} {l:List n7} {p:Nat} (hp:p<l.length):(l.mapIdx f).getD p j5=f p (l.getD p j5):=by
  rw [List.getD_eq_getElem?_getD,List.getElem?_mapIdx,List.getD_eq_getElem?_getD,List.getElem?_eq_getElem hp]; rfl
theorem Wn {α:Type} {l:List α} {c:Nat}:l.drop (min c l.length)=l.drop c:=by
  by_cases h:c<=l.length
  . rw [Nat.min_eq_left h]
  . rw [Nat.min_eq_right (by omega),List.drop_length,List.drop_eq_nil_of_le (by omega)]
section
variable {said:Nat->List C8} {B:List C9} {S:Nat->List C8} {Q:List U4} {w:f8}
theorem Inv.long (h:Inv said B S Q w) {p0:Nat} (lu:p0<w.2.1.length) (nQ:s5 w p0=true) :
    ∃ m,m<=Q.length/\I0 w w.2.1.length=B++(Q.take m).map vI/\∀ p,p<w.2.1.length->s5 w p=true->∀ j,Cv said B S Q p (w.2.1.getD p j5) j->j<=m:=by
  rcases IZ (w:=w) (k:=w.2.1.length) with hL|⟨i,hi,te,hL⟩
  . have hz:∀ p,p<w.2.1.length->s5 w p=true->(w.2.1.getD p j5).2.1=[]:=λ p hp fc=>by
      have:=Di fc hp;rw [hL] at this;exact List.eq_nil_of_length_eq_zero (by simpa using this)
    obtain ⟨⟨j,hj⟩,-⟩:=h.mem p0 lu (yw.1 nQ).2.1;have h0:=hj.log;rw [hz p0 lu nQ] at h0;have hB:B=[]:=(List.append_eq_nil_iff.1 h0.symm).1;refine ⟨0,Nat.zero_le _,by rw [hL,hB]; rfl,λ p hp fc j hj=>?_⟩;have h0:=hj.log;rw [hz p hp fc] at h0;have h1:=(List.append_eq_nil_iff.1 h0.symm).2;have h2:=congrArg List.length h1;rw [List.length_map,List.length_take] at h2;have:=hj.le;simp only [List.length_nil] at h2;omega
  . obtain ⟨⟨m,hm⟩,-⟩:=h.mem i hi (yw.1 te).2.1;refine ⟨m,hm.le,by rw [hL,hm.log],λ p hp fc j hj=>?_⟩;have:=Di fc hp;rw [hL,hm.log,hj.log,List.length_append,List.length_append,List.length_map,List.length_map,List.length_take,List.length_take] at this;have h1:=hj.le;have h2:=hm.le;omega
theorem Inv.change (h:Inv said B S Q w) (hv:0<=w.1.2.1/\w.1.2.1<=255) (hn:¬ (T9 w).2.1≠0) :
    ∃ B' S',Inv said B' S' [] (H3 w)/\(∀ p,p<w.2.1.length->s5 w p=true->(H3 w).2.1.getD p j5=((w.2.1.getD p j5).1,B',(0,S' p,()),(0,[],()),(0,[],()),())) /\
      (∀ p,p<w.2.1.length->(w.2.1.getD p j5).2.1 <+: ((H3 w).2.1.getD p j5).2.1):=by
  obtain ⟨eY,lk,lK⟩:=members h.L9 hv hn;have hlen:(H3 w).2.1.length=w.2.1.length:=List.length_mapIdx ..;have cD:∀ p:Nat,p<w.2.1.length->(H3 w).2.1.getD p j5=uH w (I0 w w.2.1.length) p (w.2.1.getD p j5):=λ p hp=>Rd hp;have gK:∀ p:Nat,p<w.2.1.length->s5 w p=false->(H3 w).2.1.getD p j5=((w.2.1.getD p j5).1,(w.2.1.getD p j5).2.1,(w.2.1.getD p j5).2.2.1,(w.2.1.getD p j5).2.2.2.1,(0,[],()),()):=λ p hp ha=>by
    rw [cD p hp,uH,if_neg (by rw [ha]; decide)]
  have mv:∀ S',∀ s∈w.2.2.2.1,yT S' [] (w.1.1+1) s:=λ S' s hs e=>by
    have:=(h.msg s hs e).1;exact ⟨by omega,λ e2=>absurd e2 (by omega)⟩
  by_cases hex:∃ p0:Nat,p0<w.2.1.length/\s5 w p0=true
  . obtain ⟨p0,lu,nQ⟩:=hex;obtain ⟨m,um,hL,ju⟩:=h.long lu nQ;rw [hL] at cD;obtain ⟨S',iK⟩:∃ S':Nat->List C8,S'=λ p=>if p<w.2.1.length/\s5 w p=true then (S p).drop (B8 p (Q.take m)).length else []:=⟨_,rfl⟩
    have gk:∀ p:Nat,p<w.2.1.length->s5 w p=true->S' p=(S p).drop (B8 p (Q.take m)).length:=λ p hp ha=>by rw [iK]; exact if_pos ⟨hp,ha⟩
    have eP:∀ p:Nat,s5 w p=false->S' p=[]:=λ p ha=>by rw [iK]; exact if_neg (λ c=>by rw [c.2] at ha; cases ha)
    have jc:∀ p:Nat,p<w.2.1.length->s5 w p=true->(H3 w).2.1.getD p j5=((w.2.1.getD p j5).1,B++(Q.take m).map vI,(0,S' p,()),(0,[],()),(0,[],()),()):=λ p hp ha=>by
      obtain ⟨⟨j,hj⟩,-⟩:=h.mem p hp (yw.1 ha).2.1;have ju:=ju p hp ha j hj;rw [cD p hp,uH,if_pos ha,Wn,hj.from_];simp only;have hd:(B++(Q.take m).map vI).drop (w.2.1.getD p j5).2.1.length=((Q.take m).drop j).map vI:=by
        rw [hj.log,List.length_append,List.length_map,List.length_take,Nat.min_eq_left hj.le,<- List.drop_drop,List.drop_left,List.map_drop]
      rw [hd,Qc,Db,List.drop_drop,gk p hp ha];have ft:B8 p (Q.take m)=B8 p (Q.take j)++B8 p ((Q.take m).drop j):=by
        rw [<- xH];congr 1;rw [show Q.take j=(Q.take m).take j by rw [List.take_take,Nat.min_eq_left ju],List.take_append_drop]
      rw [ft,List.length_append]
    refine ⟨B++(Q.take m).map vI,S',?_,jc,λ p hp=>?_⟩
    . refine ⟨by rw [hlen]; exact h.L9,h.way,rfl,λ x hx=>(by cases hx),λ p=>List.nil_prefix,λ p=>?_,λ s hs=>?_,λ p hp=>?_,λ p hp hm=>?_,λ p hp hm=>?_,λ s hs=>?_⟩
      . rw [iK];dsimp only
        split
        . rw [List.length_drop]; have:=h.short p; omega
        . exact Nat.zero_le _
      . rw [eY]; exact mv S' s hs
      . rw [hlen] at hp;cases ha:s5 w p with
        | true=>rw [jc p hp ha]; exact ⟨rfl,λ q hq=>by cases hq⟩
        | false=>rw [gK p hp ha]; exact ⟨rfl,λ q hq=>by cases hq⟩
      . rw [hlen] at hp;rw [lK p hp] at hm;rw [jc p hp hm];obtain ⟨⟨j,hj⟩,eH⟩:=h.mem p hp (yw.1 hm).2.1;have aM:=hj.ok;rw [hj.from_] at aM;have me:=xd aM;have ju:=ju p hp hm j hj;have bU:S' p=((S p).drop (B8 p (Q.take j)).length).drop ((B8 p (Q.take m)).length - (B8 p (Q.take j)).length):=by
          rw [gk p hp hm,List.drop_drop];congr 1;have:(B8 p (Q.take j)).length<=(B8 p (Q.take m)).length:=by
            have:=(yr (p:=p) (Q:=Q.take m) (i:=j)).length_le;rw [List.take_take,Nat.min_eq_left ju] at this;exact this
          omega
        refine ⟨⟨0,Nat.zero_le _,rfl,λ q hq=>(by cases hq),by simp,by simp [B8],?_⟩,?_⟩
        . refine Ow ⟨by decide,by decide⟩ ?_ ?_
          . rw [bU,List.length_drop]; have:=me.2.1; simp only at this; omega
          . rw [bU]; exact Nj me.2.2
        . rw [eH,GZ,Db,gk p hp hm,List.append_assoc];congr 1;have bc:=(yr (p:=p) (Q:=Q) (i:=m)).trans (h.yL p)
          conv=>lhs; rw [<- List.take_append_drop (B8 p (Q.take m)).length (S p)]
          rw [<- List.prefix_iff_eq_take.1 bc]
      . rw [hlen] at hp;rw [lK p hp] at hm;refine ⟨eP p hm,?_⟩;rw [GZ,Db];have bc:=(yr (p:=p) (Q:=Q) (i:=m)).trans (h.yL p);cases gZ:V1 w.1.2.1 p with
        | true =>
          rw [(h.mem p hp gZ).2];exact (List.prefix_append_right_inj _).2 bc
        | false =>
          obtain ⟨e1,e2⟩:=h.out p hp gZ;rw [e1] at bc;rw [List.prefix_nil.1 bc,List.append_nil];exact e2
      . rw [hlen];rcases List.mem_append.1 hs with hs|hs
        . exact h.Ky s hs
        . obtain ⟨y,hy,rfl⟩:=List.mem_map.1 hs;have:=h.inQ y (List.mem_of_mem_take hy);show 0<=((y.1:Nat):Int)/\((y.1:Nat):Int)<_;omega
    . cases ha:s5 w p with
      | true =>
        rw [jc p hp ha];obtain ⟨⟨j,hj⟩,-⟩:=h.mem p hp (yw.1 ha).2.1;have ju:=ju p hp ha j hj;rw [hj.log];refine (List.prefix_append_right_inj _).2 (List.IsPrefix.map vI ?_);rw [show Q.take j=(Q.take m).take j by rw [List.take_take,Nat.min_eq_left ju]];exact List.take_prefix ..
      | false=>rw [gK p hp ha]; exact List.prefix_rfl
  . have bF:∀ p:Nat,p<w.2.1.length->s5 w p=false:=λ p hp=>by
      cases ha:s5 w p with
      | false=>rfl
      | true=>exact absurd ⟨p,hp,ha⟩ hex
    refine ⟨[],λ _=>[],?_,λ p hp ha=>(by rw [bF p hp] at ha; cases ha),λ p hp=>by rw [gK p hp (bF p hp)]; exact List.prefix_rfl⟩;refine ⟨by rw [hlen]; exact h.L9,h.way,rfl,λ x hx=>(by cases hx),λ p=>List.nil_prefix,λ p=>Nat.zero_le _,λ s hs=>?_,λ p hp=>?_,λ p hp hm=>?_,λ p hp hm=>⟨rfl,List.nil_prefix⟩,λ s hs=>(by cases hs)⟩
    . rw [eY]; exact mv _ s hs
    . rw [hlen] at hp;rw [gK p hp (bF p hp)]; exact ⟨rfl,λ q hq=>by cases hq⟩
    . rw [hlen] at hp;rw [lK p hp,bF p hp] at hm; cases hm
end
end Go.Proofs.YtijlnmgondibnaaGreatDoor
namespace Go.Proofs.YtijlnmgondibnaaGreatDoor
open Go.Ex
set_option maxRecDepth 100000
attribute [local irreducible] Go.Ex.exec
section
variable {H:Array Go.Obj} {S:Nat->Prop} {O:List Nat} {cs:List Value}
theorem Oa {α β:Type} {R:List Nat->List Value->α->Prop} {R':List Nat->List Value->β->Prop} {sz:Nat} {f:α->β} (hr:∀ O cs x,R O cs x->R' O cs (f x)):∀ {l:List α} {O:List Nat} {cs:List Value},i8 R sz O cs l->i8 R' sz O cs (l.map f)
  | [],_,_,h=>h
  | _::_,_,_,⟨O1,O2,e,h1,h2⟩=>⟨O1,O2,e,hr _ _ _ h1,Oa hr h2⟩
theorem TN {l:List n7} (h:g8 H S (.d0 true wA) O cs l):g8 H S (.d0 true X5) O cs (l.map toM):=by
  have e:(l.map toM).length=l.length:=List.length_map ..;rcases h with ⟨a,b,c⟩|⟨b,off,cap,O',h1,h2,h3,h4,h5,h6⟩
  . exact .inl ⟨a,b,by rw [c]; rfl⟩
  . refine .inr ⟨b,off,cap,O',?_,?_,h3,?_,?_,h6⟩
    . rw [h1]; exact congrArg (λ n:Nat=>[Value.slice (some ⟨b,off,none⟩) n cap]) e.symm
    . exact Nat.le_trans (Nat.le_of_eq e) h2
    . exact Nat.le_trans (Nat.le_of_eq (congrArg (λ n:Nat=>off+n*X5.size) e)) h4
    . have:=Oa (R':=g8 H S X5) (f:=toM) (λ _ _ _ h=>h) h5;have e2:d9 H b off (List.length (l.map toM)*X5.size)=d9 H b off (List.length l*wA.size):=congrArg (λ n:Nat=>d9 H b off (n*X5.size)) e;show i8 (g8 H S X5) X5.size O' (d9 H b off (List.length (l.map toM)*X5.size)) (l.map toM);rw [e2];exact this
theorem VZ {l:List n7} (h:g8 H S (.d0 true X5) O cs (l.map toM)):g8 H S (.d0 true wA) O cs l:=by
  have e:(l.map toM).length=l.length:=List.length_map ..;rcases h with ⟨a,b,c⟩|⟨b,off,cap,O',h1,h2,h3,h4,h5,h6⟩
  . exact .inl ⟨a,b,List.map_eq_nil_iff.1 c⟩
  . refine .inr ⟨b,off,cap,O',?_,?_,h3,?_,?_,h6⟩
    . rw [h1]; exact congrArg (λ n:Nat=>[Value.slice (some ⟨b,off,none⟩) n cap]) e
    . exact Nat.le_trans (Nat.le_of_eq e.symm) h2
    . exact Nat.le_trans (Nat.le_of_eq (congrArg (λ n:Nat=>off+n*X5.size) e.symm)) h4
    . have e2:d9 H b off (List.length (l.map toM)*X5.size)=d9 H b off (List.length l*wA.size):=congrArg (λ n:Nat=>d9 H b off (n*X5.size)) e;have h5:i8 (g8 H S X5) X5.size O' (d9 H b off (List.length (l.map toM)*X5.size)) (l.map toM):=h5;rw [e2] at h5;exact i8.KB (R:=g8 H S wA) (f:=toM) (λ _ _ _ h=>h) h5
theorem Uj {w:f8} (h:g8 H S s6 O cs w):g8 H S Y5 O cs (uP w):=by
  obtain ⟨v,al,r⟩:=w;obtain ⟨P1,P2,e,r1,P3,P4,e',r2,r3⟩:=h;exact ⟨P1,P2,e,r1,P3,P4,e',TN r2,r3⟩
theorem Yg {w:f8} (h:g8 H S Y5 O cs (uP w)):g8 H S s6 O cs w:=by
  obtain ⟨v,al,r⟩:=w;obtain ⟨P1,P2,e,r1,P3,P4,e',r2,r3⟩:=h;exact ⟨P1,P2,e,r1,P3,P4,e',VZ r2,r3⟩
end
def Nq:o7:={ ps:=[.rw s6],rs:=[e8],pre:=λ x=>yt x.1,fn:=λ x=>((R4 x.1).2,()),out:=λ x=>((R4 x.1).1,()) }
theorem QA {w:f8} (h:(T9 w).2.1≠0):R4 w=(w,(T9 w).2.1):=by rw [R4]; exact if_pos h
theorem Ru {w:f8} (h:¬ (T9 w).2.1≠0):R4 w=(H3 w,0):=by rw [R4]; exact if_neg h
attribute [local irreducible] R4 H3 T9 in
theorem b1K:Nq.Valid Tryz.prog 25:=by
  refine ⟨RY.ent,?_,λ h=>by cases h⟩;rintro w S vs ⟨(x:f8),⟨⟩⟩ L hS dX (bc:yt x) ⟨v,us,L1,L2,rfl,rfl,⟨b,off,O,rfl,hr,hf,rfl⟩,rfl,rfl⟩ - aH hL;by_cases hn:(T9 x).2.1≠0
  . have hs:g8 w.heap (λ c=>S c\/c∈b::O) H5 [] (d9 w.heap b off s6.size) x:=hr.ve (S':=λ c=>S c\/c∈b::O) (λ c h=>.inr (List.mem_cons_of_mem _ h)) (λ c h=>.inl h) rfl;refine (b1L.run w (λ c=>S c\/c∈b::O) [.pointer (some ⟨b,off,none⟩)] (x,()) [] ?_ (dX.sub (λ c h=>.inl h)) ⟨bc.L9,hn⟩ ⟨_,[],[],[],rfl,rfl,⟨rfl,b,off,rfl,.inr List.mem_cons_self,?_,hs⟩,rfl,rfl⟩ trivial List.nodup_nil (by simp)).mono ?_
    . rintro c (h|h)
      . exact hS c h
      . exact (hL c (by simpa using h)).2
    . exact N1.u6 hf
    rintro e w' ⟨us,O2,Lo,S',e1,hp,s1,s2,h1,h2,cZ,fp⟩;obtain ⟨v1,us1,P1,P2,cs,rfl,rfl,rfl,⟨rfl,rfl,hk⟩,rfl,rfl⟩:=h1;have dV:∀ c,c<w.heap.size->w'.heap[c]?=w.heap[c]?:=λ c hc=>hp.frame c hc (by simp);have ed:∀ c∈b::O,¬ S c/\c<w.heap.size:=λ c hc=>hL c (by simpa using hc);have hb:=dV b (ed b List.mem_cons_self).2;have gi:=QA hn;refine ⟨[_],[],b::O,S,e1,⟨hp.os,hp.tape,hp.out,hp.size,λ c hc hn=>dV c hc⟩,λ _ h=>h,λ c h=>.inl h,⟨_,[],[],[],_,rfl,rfl,rfl,⟨rfl,?_,?_⟩,rfl,rfl⟩,⟨b,off,O,[],[],rfl,?_,?_,by simp,rfl,rfl⟩,?_,?_⟩
    . show [Value.int .i64 _]=[Value.int .i64 (R4 x).2];rw [gi]; rfl
    . show r9 .i64 (R4 x).2;rw [gi]; exact hk
    . show g8 w'.heap S s6 O (d9 w'.heap b off s6.size) (R4 x).1;rw [gi,l4 hb];exact hr.s4 (λ c hc=>dV c (hc.elim (λ h=>(ed c (List.mem_cons_of_mem _ h)).2) (hS c))) (λ _ h=>h)
    . exact N1.s4 hb hf
    . simpa using aH
    . intro c hc;have hc:c∈b::O:=by simpa using hc
      exact ⟨(ed c hc).1,.inr (by simpa using hc),Nat.lt_of_lt_of_le (ed c hc).2 hp.size⟩
  . have gi:=Ru hn;have nK:=Wr x;refine (RY.run w S [.pointer (some ⟨b,off,none⟩)] (uP x,()) (b::O++[]) hS dX ⟨?_,?_,?_⟩ ⟨_,[],b::O,[],rfl,rfl,⟨b,off,O,rfl,Uj hr,hf,rfl⟩,rfl,rfl⟩ trivial aH hL).mono ?_
    . show uP x=uP (vk (uP x)); rw [nK]
    . show yt (vk (uP x)); rw [nK]; exact bc
    . show ¬ (T9 (vk (uP x))).2.1≠0; rw [nK]; exact hn
    rintro e w' ⟨us,O2,Lo,S',e1,hp,s1,s2,h1,h2,h3,h4⟩;refine ⟨us,O2,Lo,S',e1,hp,s1,s2,?_,?_,h3,h4⟩
    . have h1:K3 w'.heap S' [e8] O2 us ((0:Int),()):=h1;show K3 w'.heap S' [e8] O2 us ((R4 x).2,());rw [gi]; exact h1
    . obtain ⟨b',aA,O',us',L',e',kr,pB,e2,h'⟩:=h2;refine ⟨b',aA,O',us',L',e',?_,pB,e2,h'⟩;have kr:g8 w'.heap S' Y5 O' (d9 w'.heap b' aA Y5.size) (uP (H3 (vk (uP x)))):=kr;show g8 w'.heap S' s6 O' (d9 w'.heap b' aA s6.size) (R4 x).1;rw [gi];rw [nK] at kr;exact Yg kr
end Go.Proofs.YtijlnmgondibnaaGreatDoor
namespace Go.Proofs.YtijlnmgondibnaaGreatDoor
open Go.Ex
set_option maxRecDepth 100000
attribute [local irreducible] Go.Ex.exec
end Go.Proofs.YtijlnmgondibnaaGreatDoor
namespace Go.Proofs.YtijlnmgondibnaaGreatDoor
open Go.Ex
set_option maxRecDepth 100000
structure Sz (c:Nat) (w:f8):Prop where
  log:∀ i:Nat,(w.2.1.getD i j5).2.1.length<=c
  ord:w.2.2.1.length<=c
  txt:∀ i:Nat,∀ s∈(w.2.1.getD i j5).2.1,s.2.1.length<=200
  late:∀ i:Nat,(w.2.1.getD i j5).2.2.1.2.1.length<=16
theorem Sz.mono {c d:Nat} {w:f8} (h:Sz c w) (hd:c<=d):Sz d w:=⟨λ i=>Nat.le_trans (h.log i) hd,Nat.le_trans h.ord hd,h.txt,h.late⟩
structure K5 (k:Nat) (w w':f8):Prop where
  view:w'.1=w.1
  len:w'.2.1.length=w.2.1.length
  log:∀ i:Nat,(w.2.1.getD i j5).2.1 <+: (w'.2.1.getD i j5).2.1
  fal:∀ i:Nat,(w'.2.1.getD i j5).1=(w.2.1.getD i j5).1
  sz:∀ c,Sz c w->Sz (c+k) w'
theorem K5.same {w w':f8} (h1:w'.1=w.1) (h2:w'.2.1=w.2.1) (h3:w'.2.2.1=w.2.2.1):K5 0 w w' :=
  ⟨h1,by rw [h2],λ i=>by rw [h2]; exact List.prefix_rfl,λ i=>by rw [h2],λ c h=>⟨by rw [h2]; exact h.log,by rw [h3]; exact h.ord,by rw [h2]; exact h.txt,by rw [h2]; exact h.late⟩⟩
theorem K5.more {k l:Nat} {w w':f8} (h:K5 k w w') (hl:k<=l):K5 l w w':=⟨h.view,h.len,h.log,h.fal,λ c hc=>(h.sz c hc).mono (by omega)⟩
theorem K5.trans {k l:Nat} {w w' w'':f8} (h:K5 k w w') (h':K5 l w' w''):K5 (k+l) w w'' :=
  ⟨h'.view.trans h.view,h'.len.trans h.len,λ i=>(h.log i).trans (h'.log i),λ i=>(h'.fal i).trans (h.fal i),λ c hc=>by rw [<- Nat.add_assoc]; exact h'.sz _ (h.sz c hc)⟩
theorem V3.BR {P:y8->Prop} {w w':f8} (h:V3 P w w'):K5 0 w w':=.same h.view h.all h.ord
theorem K5.set {k:Nat} {w:f8} {p:Nat} {x:n7} (h1:(w.2.1.getD p j5).2.1 <+: x.2.1) (h2:x.1=(w.2.1.getD p j5).1) (h3:x.2.1.length<=(w.2.1.getD p j5).2.1.length+k)
    (h4:(∀ s∈(w.2.1.getD p j5).2.1,s.2.1.length<=200)->∀ s∈x.2.1,s.2.1.length<=200) (h5:(w.2.1.getD p j5).2.2.1.2.1.length<=16->x.2.2.1.2.1.length<=16):K5 k w (w.1,w.2.1.set p x,w.2.2):=by
  have hg:∀ i,(w.2.1.set p x).getD i j5=x/\p=i\/(w.2.1.set p x).getD i j5=w.2.1.getD i j5:=λ i=>by
    rw [W3]
    split
    . rename_i e; exact .inl ⟨rfl,e.1⟩
    . exact .inr rfl
  refine ⟨rfl,List.length_set ..,λ i=>?_,λ i=>?_,λ c hc=>⟨λ i=>?_,Nat.le_trans hc.ord (Nat.le_add_right _ _),λ i=>?_,λ i=>?_⟩⟩
  . rcases hg i with ⟨e,rfl⟩|e
    . show _ <+: ((w.2.1.set p x).getD p j5).2.1; rw [e]; exact h1
    . show _ <+: ((w.2.1.set p x).getD i j5).2.1; rw [e]; exact List.prefix_rfl
  . rcases hg i with ⟨e,rfl⟩|e
    . show ((w.2.1.set p x).getD p j5).1=_; rw [e]; exact h2
    . show ((w.2.1.set p x).getD i j5).1=_; rw [e]
  . rcases hg i with ⟨e,rfl⟩|e
    . show ((w.2.1.set p x).getD p j5).2.1.length<=_; rw [e]; have:=hc.log p; omega
    . show ((w.2.1.set p x).getD i j5).2.1.length<=_; rw [e]; have:=hc.log i; omega
  . rcases hg i with ⟨e,rfl⟩|e
    . show ∀ s∈((w.2.1.set p x).getD p j5).2.1,_; rw [e]; exact h4 (hc.txt p)
    . show ∀ s∈((w.2.1.set p x).getD i j5).2.1,_; rw [e]; exact hc.txt i
  . rcases hg i with ⟨e,rfl⟩|e
    . show ((w.2.1.set p x).getD p j5).2.2.1.2.1.length<=_; rw [e]; exact h5 (hc.late p)
    . show ((w.2.1.set p x).getD i j5).2.2.1.2.1.length<=_; rw [e]; exact hc.late i
theorem PG {w:f8} {k f t q:Int} {x:C8}:K5 0 w (L7 w k f t q x):=by
  obtain ⟨h1,h2,h3⟩:=DA (w:=w) (k:=k) (f:=f) (t:=t) (s:=q) (x:=x);exact .same h2 h1 h3
theorem Yh (w:f8) (p:Int) (t:C8):K5 0 w (uO w p t).1:=by
  rw [uO]
  split
  . exact .same rfl rfl rfl
  split
  . exact .same rfl rfl rfl
  split
  . exact .same rfl rfl rfl
  split
  . exact .same rfl rfl rfl
  . rename_i hl;obtain ⟨g1,g2,g3⟩:=Me hl;have aM:=xd g2;refine K5.trans (w':=setFrom w p (P7 (vA w p) t).1) (k:=0) ?_ PG;refine K5.set (k:=0) List.prefix_rfl rfl (Nat.le_refl _) id (λ _=>?_);rw [g1]; exact aM.2.1
theorem b7E (w:f8) (p:Int):K5 0 w (U7 w p).1:=by
  rw [U7]
  split
  . exact .same rfl rfl rfl
  . obtain ⟨h1,h2,h3⟩:=JA (p:=p) (l:=xt w p) (w:=w) (xt w p).length;exact (K5.same h2 h1 h3).trans PG
theorem b6V (w:f8) (n:y8):K5 16 w (W7 w n):=by
  rw [W7]
  split
  . exact (K5.same rfl rfl rfl).more (by omega)
  . rename_i he;obtain ⟨-,-,a3,-⟩:=yC (Decidable.not_not.1 he);have h0:K5 0 w (xI w n.2.1 (xB (N4 w n.2.1) (X8 w n).1)):=K5.set List.prefix_rfl rfl (Nat.le_refl _) id id;obtain ⟨h1,h2,h3⟩:=Je (f:=n.2.1) (first:=(N4 w n.2.1).2.2.2.2.1.1) (l:=(X8 w n).2.1) (w:=xI w n.2.1 (xB (N4 w n.2.1) (X8 w n).1)) (X8 w n).2.1.length;refine (h0.trans (l:=16) ⟨h2,by rw [h1],λ i=>by rw [h1]; exact List.prefix_rfl,λ i=>by rw [h1],λ c hc=>⟨λ i=>?_,?_,by rw [h1]; exact hc.txt,by rw [h1]; exact hc.late⟩⟩).more (by omega)
    . rw [h1]; have:=hc.log i; omega
    . rw [h3];have:=hc.ord;have a3:(X8 w n).2.1.length<=16:=a3;omega
theorem b60 {s:vg} {x:Int} (h:(Q4 s x).2.1=0):(Q4 s x).1.2.1.length<=s.2.1.length:=by
  unfold Q4 at h ⊢
  split
  . rename_i h1; rw [if_pos h1] at h; exact absurd h h1
  . rename_i h1;rw [if_neg h1] at h
    split
    . rename_i h2; rw [if_pos h2] at h; exact absurd h (by decide)
    . exact List.length_drop ..▸Nat.sub_le _ _
theorem b64 (q:Int) (x:n7) (t:C8):(vx q x t).1=x.1/\(x.2.2.1.2.1.length<=16->(vx q x t).2.2.1.2.1.length<=16):=by
  by_cases h:who t=q/\(Q4 x.2.2.1 (nth t+1)).2.1=0
  . rw [Jk h.1 h.2];exact ⟨rfl,λ h2=>Nat.le_trans (b60 h.2) h2⟩
  . rw [Df h];exact ⟨rfl,id⟩
theorem Wf (t:C8):(wu t).length<=t.length:=by
  unfold wu;exact Nat.le_trans (AR _).2 (AR _).2
theorem RR {q:Int} {x:n7} {l:List C8} (hl:∀ t∈l,D8 t=false):∀ {i},i<=l.length->x.2.1 <+: (J6 q x l i).2.1/\(J6 q x l i).1=x.1/\(x.2.2.1.2.1.length<=16->(J6 q x l i).2.2.1.2.1.length<=16) /\
    ((∀ s∈x.2.1,s.2.1.length<=200)->∀ s∈(J6 q x l i).2.1,s.2.1.length<=200)
  | 0,_=>⟨List.prefix_rfl,rfl,id,id⟩
  | i+1,hi=>by
    obtain ⟨h1,h2,h3,h4⟩:=RR (q:=q) (x:=x) hl (show i<=l.length by omega);obtain ⟨g1,g2⟩:=b64 q (J6 q x l i) (l.getD i []);have g3:=Pe q (J6 q x l i) (l.getD i []);rw [J6];refine ⟨h1.trans (by rw [g3]; exact List.prefix_append ..),g1.trans h2,λ h=>g2 (h3 h),λ h s hs=>?_⟩;rw [g3] at hs;rcases List.mem_append.1 hs with hs|hs
    . exact h4 h s hs
    . rw [List.mem_singleton] at hs;rw [hs];have hm:l.getD i []∈l:=by rw [List.getD_eq_getElem?_getD,List.getElem?_eq_getElem (by omega)]; exact List.getElem_mem _
      exact Nat.le_trans (Wf _) (IY (hl _ hm))
theorem ZA (w:f8) (n:y8):K5 16 w (uX w n):=by
  rw [uX]
  split
  . exact (K5.same rfl rfl rfl).more (by omega)
  . rename_i he;obtain ⟨a1,-,a3,-⟩:=yC (Decidable.not_not.1 he);obtain ⟨h1,h2,h3,h4⟩:=RR (q:=n.2.2.1) (x:=Ai (N4 w n.2.2.1) (P9 w n).1) (λ t ht=>(a1 t ht).2) (Nat.le_refl (P9 w n).2.1.length);have h5:=JY (q:=n.2.2.1) (x:=Ai (N4 w n.2.2.1) (P9 w n).1) (l:=(P9 w n).2.1) (P9 w n).2.1.length;refine K5.set (k:=16) h1 h2 ?_ h4 h3;rw [h5];have a3:(P9 w n).2.1.length<=16:=a3;exact Nat.add_le_add_left a3 _
theorem b3F (w:f8) (n:y8):K5 16 w (F6 w n):=by
  rw [F6]
  split
  . exact (K5.same rfl rfl rfl).more (by omega)
  split
  . exact b6V w n
  split
  . obtain ⟨h1,h2,h3⟩:=zy (w:=w) (n:=n) 4;exact (K5.same h2 h1 h3).more (by omega)
  split
  . exact ZA w n
  . exact (K5.same rfl rfl rfl).more (by omega)
theorem YW (w:f8) (k bA:Int):K5 16 w (F5 w k bA).1:=by
  have h0:K5 16 w w:=(K5.same rfl rfl rfl).more (by omega);rw [F5]
  split
  . exact h0
  split
  . exact h0
  split
  . exact h0
  split
  . exact (K5.same (w:=w) (w':=Ci w k.toNat) rfl rfl rfl).more (Nat.zero_le 16)
  . refine (K5.trans (k:=0) (l:=16) (w':=ye w k) (K5.same (w:=w) (w':=ye w k) rfl rfl rfl) ?_).more (Nat.le_refl 16);show K5 16 (ye w k) (wC (ye w k) bA (w.2.2.2.1.getD k.toNat []));rw [wC]
    split
    . exact b3F _ _
    . exact (K5.same rfl rfl rfl).more (by omega)
abbrev H7:=Int×Int×Int×yY×Unit
def T3 (w:f8) (d:H7):f8×Int :=
  if d.1=1 then uO w d.2.1 d.2.2.2.1 else if d.1=2 then U7 w d.2.1 else if d.1=3 then F5 w d.2.1 d.2.2.1 else if d.1=4 then vw w d.2.1 else if d.1=5 then R4 w else (w,1)
structure Ok (c:Nat) (said:Nat->List C8) (w:f8):Prop where
  mem:0<=w.1.2.1/\w.1.2.1<=255
  sz:Sz c w
  inv:∃ B S Q,Inv said B S Q w
structure Good (w:f8):Prop where
  move:AG w
  change:yt w
theorem Ok.L9 {c:Nat} {said:Nat->List C8} {w:f8} (h:Ok c said w):w.2.1.length<=6:=by
  obtain ⟨B,S,Q,hI⟩:=h.inv;exact hI.L9
theorem Inv.note {said:Nat->List C8} {B:List C9} {S:Nat->List C8} {Q:List U4} {w:f8} (h:Inv said B S Q w) {s:C8} (hs:s∈w.2.2.2.1) (h1:(w6 s).2.1=0) (h2:(w6 s).1.2.2.2.1=w.1.1) (h3:s5 w (w6 s).1.2.2.1=true) {c:Nat} (hc:Sz c w) (dK:c<=1000000000000):wD w (w6 s).1:=by
  obtain ⟨p,hp,cf,hv,-⟩:=BB.1 h3;obtain ⟨⟨m,hM⟩,-⟩:=h.mem p cf hv;have hm:=(h.msg s hs h1).2 h2;refine ⟨h.L9,by omega,NZ h1,?_,Nat.le_trans hc.ord dK,λ hk t ht=>?_⟩
  . rw [hp]; exact Nat.le_trans (hc.log p) dK
  . have cG:N4 w (w6 s).1.2.2.1=w.2.1.getD p j5:=by rw [hp]; rfl
    unfold P9 at ht;rw [cG] at ht;have dv:∃ i:Nat,(N6 Q)[i]?=some t:=by
      by_cases he:(D0 (w.2.1.getD p j5).2.2.2.1 ((w6 s).1.2.2.2.2.1,(w6 s).1.2.2.2.2.2.2.1,())).2.2.1=0
      . obtain ⟨a1,-⟩:=yC he;rcases (a1 t ht).1 with e|⟨q,hq,e⟩
        . refine ⟨(w6 s).1.2.2.2.2.1.toNat,?_⟩;rw [e,<- h.ord];exact hm.2 hk
        . exact ⟨_,by rw [e]; exact hM.wait q hq⟩
      . rw [XX he] at ht; cases ht
    obtain ⟨i,hi⟩:=dv;rw [PN] at hi;cases hQ:Q[i]? with
    | none=>rw [hQ] at hi; cases hi
    | some y =>
      rw [hQ] at hi;have e:I4 y.1 (B8 y.1 (Q.take i)).length y.2=t:=by simpa using hi
      have hy:=h.le5 y (List.mem_of_getElem? hQ);have h5:=((yr (p:=y.1) (Q:=Q) (i:=i)).trans (h.yL y.1)).length_le;have h6:=h.short y.1;exact ⟨y.1,_,y.2,hy,by omega,e.symm⟩
theorem Ok.zR {c:Nat} {said:Nat->List C8} {w:f8} (h:Ok c said w) (hc:c<=1000000000000):Good w:=by
  obtain ⟨B,S,Q,hI⟩:=h.inv;exact ⟨⟨hI.L9,hI.way,λ s hs h1 h2 h3=>hI.note hs h1 h2 h3 h.sz hc⟩,hI.L9,λ i=>Nat.le_trans (h.sz.log i) (by omega),λ i=>Nat.le_trans (h.sz.late i) (by omega)⟩
def wg (said:Nat->List C8) (d:H7) (e:Int):Nat->List C8:=if d.1=1/\e=0 then vq said d.2.1.toNat (said d.2.1.toNat++[d.2.2.2.1]) else said
structure xY (c:Nat) (said:Nat->List C8) (w:f8) (d:H7) (w':f8) (e:Int):Prop where
  ok:Ok (c+16) (wg said d e) w'
  len:w'.2.1.length=w.2.1.length
  log:∀ i:Nat,(w.2.1.getD i j5).2.1 <+: (w'.2.1.getD i j5).2.1
  fal:∀ i:Nat,i<w.2.1.length->(w'.2.1.getD i j5).1=((w.2.1.getD i j5).1 || decide (d.1=4/\e=0/\d.2.1=i))
  mem:∀ i:Nat,i<w.2.1.length->V1 w'.1.2.1 i=true->V1 w.1.2.1 i=true
theorem xY.BR {c:Nat} {said:Nat->List C8} {w w':f8} {d:H7} {e:Int} (h:Ok c said w) (hm:K5 16 w w') (hi:∃ B S Q,Inv (wg said d e) B S Q w') (hf:d.1≠4):xY c said w d w' e :=
  ⟨⟨by rw [hm.view]; exact h.mem,hm.sz c h.sz,hi⟩,hm.len,hm.log,λ i _=>by rw [hm.fal i,show decide (d.1=4/\e=0/\d.2.1=i)=false from decide_eq_false (λ c=>hf c.1),Bool.or_false],λ i _ h=>by rw [hm.view] at h; exact h⟩
theorem Rg {w:f8} {p:Int} (h:¬ K7 w p≠0):s5 w p=true:=by
  unfold K7 at h;split at h
  . rename_i h1; exact absurd h1 h
  . split at h
    . rename_i h2; exact h2
    . exact absurd (by decide) h
theorem IX {w:f8} {p:Int}:¬ known w p≠0↔0<=p/\p<(w.2.1.length:Int):=by
  unfold known
  split
  . rename_i h;have:=U1.1 h;constructor
    . intro _; omega
    . intro _ h2; exact h2 rfl
  . rename_i h;constructor
    . intro h2; exact absurd (by decide) h2
    . intro h2; exact absurd (U1.2 ⟨h2.1,by omega⟩) h
theorem HD {c:Nat} {said:Nat->List C8} {w:f8} (h:Ok c said w) (d:H7):xY c said w d (T3 w d).1 (T3 w d).2:=by
  obtain ⟨B,S,Q,hI⟩:=h.inv;have stay:∀ e:Int,(d.1=1->e≠0)->(d.1=4->e≠0)->xY c said w d w e:=λ e he hf =>
    ⟨⟨h.mem,h.sz.mono (by omega),B,S,Q,by rw [wg,if_neg (λ c=>he c.1 c.2)]; exact hI⟩,rfl,λ _=>List.prefix_rfl,λ i _=>by rw [show decide (d.1=4/\e=0/\d.2.1=i)=false from decide_eq_false (λ c=>hf c.1 c.2.1),Bool.or_false],λ _ _ h=>h⟩
  unfold T3;by_cases c1:d.1=1
  . rw [if_pos c1];have iP:=(Yh w d.2.1 d.2.2.2.1).more (Nat.zero_le 16);have hf:d.1=4->False:=λ e=>by omega
    rw [uO] at iP ⊢;by_cases a:K7 w d.2.1≠0
    . rw [if_pos a]; exact stay _ (λ _=>a) (λ e=>(hf e).elim)
    rw [if_neg a] at iP ⊢;by_cases b:(150:Int)<d.2.2.2.1.length
    . rw [if_pos b]; exact stay 2 (λ _=>by decide) (λ e=>(hf e).elim)
    rw [if_neg b] at iP ⊢;by_cases b2:(w.2.2.2.1.length:Int)=60
    . rw [if_pos b2]; exact stay 8 (λ _=>by decide) (λ e=>(hf e).elim)
    rw [if_neg b2] at iP ⊢;by_cases b3:(P7 (vA w d.2.1) d.2.2.2.1).2.1≠0
    . rw [if_pos b3]; exact stay _ (λ _=>b3) (λ e=>(hf e).elim)
    rw [if_neg b3] at iP ⊢;obtain ⟨p,hp,cf,hv,-⟩:=BB.1 (Rg a);refine xY.BR h iP ?_ (λ e=>hf e);rw [wg,if_pos ⟨c1,rfl⟩,hp];rw [hp] at b3;exact ⟨_,_,_,hI.say cf hv b3⟩
  rw [if_neg c1];by_cases c2:d.1=2
  . rw [if_pos c2];have iP:=(b7E w d.2.1).more (Nat.zero_le 16);rw [U7] at iP ⊢;by_cases a:K7 w d.2.1≠0
    . rw [if_pos a]; exact stay _ (λ e=>absurd e c1) (λ e=>by omega)
    rw [if_neg a] at iP ⊢;obtain ⟨p,hp,cf,hv,-⟩:=BB.1 (Rg a);refine xY.BR h iP ?_ (by omega);rw [wg,if_neg (λ c=>c1 c.1),hp];exact ⟨_,_,_,hI.again cf hv⟩
  rw [if_neg c2];by_cases c3:d.1=3
  . rw [if_pos c3];refine xY.BR h (YW _ _ _) ?_ (by omega);rw [wg,if_neg (λ c=>c1 c.1)];obtain ⟨Q',h'⟩:=hI.move d.2.1 d.2.2.1;exact ⟨_,_,_,h'⟩
  rw [if_neg c3];by_cases c4:d.1=4
  . rw [if_pos c4];unfold vw;by_cases a:known w d.2.1≠0
    . rw [if_pos a]; exact stay _ (λ e=>absurd e c1) (λ _=>a)
    rw [if_neg a];have hk:=IX.1 a;obtain ⟨p,hp⟩:∃ p:Nat,d.2.1=p:=⟨d.2.1.toNat,by omega⟩;rw [hp] at hk ⊢;have cf:p<w.2.1.length:=by omega
    have hg:∀ i,(w.2.1.set p (true,(w.2.1.getD p j5).2)).getD i j5=if p=i then (true,(w.2.1.getD p j5).2) else w.2.1.getD i j5:=λ i=>by
      rw [W3];by_cases e:p=i
      . rw [if_pos ⟨e,cf⟩,if_pos e]
      . rw [if_neg (λ h=>e h.1),if_neg e]
    have gz:∀ i,((w.2.1.set p (true,(w.2.1.getD p j5).2)).getD i j5).2=(w.2.1.getD i j5).2:=λ i=>by
      rw [hg]; split
      . rename_i e; rw [e]
      . rfl
    refine ⟨⟨h.mem,⟨λ i=>?_,Nat.le_trans h.sz.ord (Nat.le_add_right _ _),λ i=>?_,λ i=>?_⟩,B,S,Q,?_⟩,List.length_set ..,λ i=>?_,λ i hi=>?_,λ _ _ h=>h⟩
    . show ((w.2.1.set p (true,(w.2.1.getD p j5).2)).getD i j5).2.1.length<=_;rw [gz]; exact Nat.le_trans (h.sz.log i) (Nat.le_add_right _ _)
    . show ∀ s∈((w.2.1.set p (true,(w.2.1.getD p j5).2)).getD i j5).2.1,_;rw [gz]; exact h.sz.txt i
    . show ((w.2.1.set p (true,(w.2.1.getD p j5).2)).getD i j5).2.2.1.2.1.length<=_;rw [gz]; exact h.sz.late i
    . rw [wg,if_neg (λ c=>c1 c.1)]; exact hI.Ta p
    . show _ <+: ((w.2.1.set p (true,(w.2.1.getD p j5).2)).getD i j5).2.1;rw [gz]; exact List.prefix_rfl
    . show ((w.2.1.set p (true,(w.2.1.getD p j5).2)).getD i j5).1=_;rw [hg];by_cases e:p=i
      . rw [if_pos e,decide_eq_true ⟨c4,rfl,by rw [hp,e]⟩,Bool.or_true]
      . rw [if_neg e,decide_eq_false (λ c=>e (by have:=c.2.2; omega)),Bool.or_false]
  rw [if_neg c4];by_cases c5:d.1=5
  . rw [if_pos c5];by_cases a:(T9 w).2.1≠0
    . rw [QA a]; exact stay _ (λ e=>absurd e c1) (λ e=>absurd e c4)
    rw [Ru a];obtain ⟨B',S',tJ,h1,h2⟩:=hI.change h.mem a;obtain ⟨eY,lk,lK⟩:=members hI.L9 h.mem a;have hlen:(H3 w).2.1.length=w.2.1.length:=List.length_mapIdx ..;have cD:∀ i:Nat,i<w.2.1.length->(H3 w).2.1.getD i j5=uH w (I0 w w.2.1.length) i (w.2.1.getD i j5):=λ i hi=>Rd hi;have eJ:∀ i:Nat,¬ i<w.2.1.length->(H3 w).2.1.getD i j5=j5:=λ i hi=>by
      rw [List.getD_eq_getElem?_getD,List.getElem?_eq_none (by rw [hlen]; omega)]; rfl
    have nV:(I0 w w.2.1.length).length<=c/\∀ s∈I0 w w.2.1.length,s.2.1.length<=200:=by
      rcases IZ (w:=w) (k:=w.2.1.length) with e|⟨i,-,-,e⟩
      . rw [e]; exact ⟨Nat.zero_le _,λ s hs=>by cases hs⟩
      . rw [e]; exact ⟨h.sz.log i,h.sz.txt i⟩
    have gi:∀ i x,(uH w (I0 w w.2.1.length) i x).2.1=I0 w w.2.1.length\/(uH w (I0 w w.2.1.length) i x).2.1=x.2.1:=λ i x=>by
      unfold uH; split
      . exact .inl rfl
      . exact .inr rfl
    have cO:∀ i x,(uH w (I0 w w.2.1.length) i x).2.2.1.2.1.length<=x.2.2.1.2.1.length:=λ i x=>by
      unfold uH; split
      . exact List.length_drop ..▸Nat.sub_le _ _
      . exact Nat.le_refl _
    refine ⟨⟨lk,⟨λ i=>?_,Nat.zero_le _,λ i=>?_,λ i=>?_⟩,B',S',[],?_⟩,hlen,λ i=>?_,λ i hi=>?_,λ i hi hm=>?_⟩
    . by_cases hi:i<w.2.1.length
      . rw [cD i hi];have:=h.sz.log i;rcases gi i (w.2.1.getD i j5) with e|e
        . rw [e]; omega
        . rw [e]; omega
      . rw [eJ i hi]; exact Nat.zero_le _
    . by_cases hi:i<w.2.1.length
      . rw [cD i hi];rcases gi i (w.2.1.getD i j5) with e|e
        . rw [e]; exact nV.2
        . rw [e]; exact h.sz.txt i
      . rw [eJ i hi]; exact λ s hs=>by cases hs
    . by_cases hi:i<w.2.1.length
      . rw [cD i hi]; exact Nat.le_trans (cO _ _) (h.sz.late i)
      . rw [eJ i hi]; exact Nat.zero_le _
    . rw [wg,if_neg (λ c=>c1 c.1)]; exact tJ
    . by_cases hi:i<w.2.1.length
      . exact h2 i hi
      . have e:w.2.1.getD i j5=j5:=by rw [List.getD_eq_getElem?_getD,List.getElem?_eq_none (by omega)]; rfl
        rw [e]; exact List.nil_prefix
    . rw [cD i hi,KZ,decide_eq_false (λ c=>c4 c.1),Bool.or_false]
    . rw [lK i hi] at hm; exact (yw.1 hm).2.1
  . rw [if_neg c5]; exact stay _ (λ e=>absurd e c1) (λ e=>absurd e c4)
attribute [local irreducible] Go.Ex.exec
def L9 (n:Int):Int:=rest n 6+1
theorem Le (n:Int):1<=L9 n/\L9 n<=6:=by have:=MD (a:=n) (n:=6) (by omega); unfold L9; omega
def Er:o7:={ ps:=[.v e8],rs:=[e8],pre:=λ _=>True,fn:=λ x=>(L9 x.1,()),out:=λ _=>() }
noncomputable def Es:Env:={ P:=Tryz.prog,tt:=tt,C7:=[(39,FQ)],res:=[Go.ResultVar.tmp 2],rs:=[Ty.int IntKind.i64],ps:=[PK.v e8],B0:=[],nt:=6 }
theorem Mk:w7 Es:=x8 p7 ⟨b7a,trivial⟩
theorem Mt:C2 Es Tryz.f13:=⟨rfl,rfl⟩
theorem SX (x0:Int):exec Es 1000 [.code (d8 Tryz.prog 13)] (s9 Er.ps ((x0,()))) =
  .f7 ((6:Int)<=(1000000000:Int)) (.f7 (r9 IntKind.i64 (rest x0 (6:Int)+(1:Int))) (.ret ((rest x0 (6:Int)+(1:Int),())))):=by kernel_rfl
theorem Yz:Er.Valid Tryz.prog 13:=by
  refine o7.o5 Mk rfl rfl Tryz.func13 (c:=d8 Tryz.prog 13) rfl rfl Mt rfl ?_;rintro ⟨(n:Int),⟨⟩⟩ - -
  refine j6 (n:=1000) Mk Mt ?_;refine i6 (SX n) ?_;have:=Le n;have:=MD (a:=n) (n:=6) (by omega);simp only [j7,Tree.holds,sL];exact ⟨by decide,λ _=>⟨by omega,λ _=>rfl⟩⟩
def xZ (n:Int):f8:=((0,FH n,()),List.replicate n.toNat j5,[],[],())
def Fb:o7:={ ps:=[.v e8],rs:=[.box true none s6,e8],pre:=λ x=>LE.le (α:=Int) 1 x.1/\LE.le (α:=Int) x.1 6,fn:=λ x=>(some (xZ x.1),0,()),out:=λ _=>() }
theorem Ya {n:Int} (h:1<=n/\n<=6):BU n=(some (xZ n),0,()):=if_pos (U1.2 h)
theorem ZW:Fb.Valid Tryz.prog 14:=by
  refine ⟨QE.ent,λ w S vs x L hS dX bc hK gX fB ed=>?_,λ h=>by cases h⟩;obtain ⟨(n:Int),⟨⟩⟩:=x;have:=QE.run w S vs (n,()) L hS dX trivial hK gX fB ed;rw [show EE.fn (n,())=Fb.fn (n,()) from Ya bc] at this;exact this
def ES:o7:={ ps:=[.rw s6,.v va],rs:=[e8],pre:=λ x=>Good x.1,fn:=λ x=>((T3 x.1 x.2.1).2,()),out:=λ x=>((T3 x.1 x.2.1).1,()) }
noncomputable def Gc:Env:={ P:=Tryz.prog,tt:=tt,C7:=[(15,EF),(26,Gp),(18,Ch),(37,ET),(25,Nq)],res:=[Go.ResultVar.tmp 4],rs:=[Ty.int IntKind.i64],ps:=[PK.rw s6,PK.v va],B0:=[],nt:=39 }
theorem OL:w7 Gc:=x8 p7 ⟨Zu,b5k,Rw,ZM,b1K,trivial⟩
theorem PY:C2 Gc Tryz.f51:=⟨rfl,rfl⟩
theorem VB (aj:Int) (af:Int) (ab:List n7) (ae:List yY) (aa:List yY) (bJ:Int) (aN:Int) (aK:Int) (aX:yY):exec Gc 1000 [.code (d8 Tryz.prog 51)] (s9 ES.ps ((((aj,af,()),ab,ae,aa,()),(bJ,aN,aK,aX,()),()))) =
  cond (decide (bJ=(1:Int))) (.f7 (List.length ab<=6) (.ret ((Prod.snd (uO ((aj,af,()),ab,ae,aa,()) aN aX),Prod.fst (uO ((aj,af,()),ab,ae,aa,()) aN aX),())))) (cond (decide (bJ=(2:Int))) (.f7 (List.length ab<=6) (.ret ((Prod.snd (U7 ((aj,af,()),ab,ae,aa,()) aN),Prod.fst (U7 ((aj,af,()),ab,ae,aa,()) aN),())))) (cond (decide (bJ=(3:Int))) (.f7 (AG ((aj,af,()),ab,ae,aa,())) (.ret ((Prod.snd (F5 ((aj,af,()),ab,ae,aa,()) aN aK),Prod.fst (F5 ((aj,af,()),ab,ae,aa,()) aN aK),())))) (cond (decide (bJ=(4:Int))) (.f7 (List.length ab<=6) (.ret ((Prod.snd (vw ((aj,af,()),ab,ae,aa,()) aN),Prod.fst (vw ((aj,af,()),ab,ae,aa,()) aN),())))) (cond (decide (bJ=(5:Int))) (.f7 (yt ((aj,af,()),ab,ae,aa,())) (.ret ((Prod.snd (R4 ((aj,af,()),ab,ae,aa,())),Prod.fst (R4 ((aj,af,()),ab,ae,aa,())),())))) (.ret (((1:Int),((aj,af,()),ab,ae,aa,()),()))))))):=by kernel_rfl
attribute [local irreducible] T3 uO U7 F5 vw R4 in
theorem ZK:ES.Valid Tryz.prog 51:=by
  refine o7.o5 OL rfl rfl Tryz.func51 (c:=d8 Tryz.prog 51) rfl rfl PY rfl ?_;rintro ⟨⟨⟨(v0:Int),(v1:Int),⟨⟩⟩,(al:List n7),(od:List yY),(wy:List yY),⟨⟩⟩,⟨(k:Int),(who:Int),(bA:Int),(t:yY),⟨⟩⟩,⟨⟩⟩ (hg:Good ((v0,v1,()),al,od,wy,())) -
  refine j6 (n:=1000) OL PY ?_;refine i6 (VB v0 v1 al od wy k who bA t) ?_;simp only [j7,Tree.holds,sL];have key:∀ r:f8×Int,T3 ((v0,v1,()),al,od,wy,()) (k,who,bA,t,())=r->(((r.2,r.1,()):Int×f8×Unit)=((T3 ((v0,v1,()),al,od,wy,()) (k,who,bA,t,())).2,(T3 ((v0,v1,()),al,od,wy,()) (k,who,bA,t,())).1,())):=by rintro r rfl; rfl
  have e0:=T3.eq_1 ((v0,v1,()),al,od,wy,()) (k,who,bA,t,());refine ⟨λ c=>⟨hg.move.L9,λ _=>key _ (e0.trans (if_pos c))⟩,λ c1=>⟨λ c=>⟨hg.move.L9,λ _=>key _ (e0.trans ((if_neg c1).trans (if_pos c)))⟩,λ c2=>⟨λ c=>⟨hg.move,λ _=>key _ (e0.trans ((if_neg c1).trans ((if_neg c2).trans (if_pos c))))⟩,λ c3=>⟨λ c=>⟨hg.move.L9,λ _=>key _ (e0.trans ((if_neg c1).trans ((if_neg c2).trans ((if_neg c3).trans (if_pos c)))))⟩,
    λ c4=>⟨λ c=>⟨hg.change,λ _=>key _ (e0.trans ((if_neg c1).trans ((if_neg c2).trans ((if_neg c3).trans ((if_neg c4).trans (if_pos c))))))⟩,λ c5=>key (_,_) (e0.trans ((if_neg c1).trans ((if_neg c2).trans ((if_neg c3).trans ((if_neg c4).trans (if_neg c5))))))⟩⟩⟩⟩⟩
end Go.Proofs.YtijlnmgondibnaaGreatDoor
namespace Go.Proofs.YtijlnmgondibnaaGreatDoor
open Go.Ex
set_option maxRecDepth 100000
theorem Ob {n i:Nat}:(List.replicate n j5).getD i j5=j5:=by
  rw [List.getD_eq_getElem?_getD,List.getElem?_replicate]
  split<;>rfl
theorem TG {n:Int} (h:1<=n/\n<=6):Ok 0 (λ _=>[]) (xZ n):=by
  have hr:∀ i,(xZ n).2.1.getD i j5=j5:=λ i=>Ob;have hl:(xZ n).2.1.length=n.toNat:=List.length_replicate ..;refine ⟨R9 (k:=.u8) _,⟨λ i=>?_,Nat.zero_le _,λ i=>?_,λ i=>?_⟩,[],λ _=>[],[],?_⟩
  . rw [hr]; exact Nat.zero_le _
  . rw [hr]; exact λ s hs=>by cases hs
  . rw [hr]; exact Nat.zero_le _
  . refine ⟨by rw [hl]; omega,Nat.zero_le _,rfl,λ x hx=>(by cases hx),λ p=>List.nil_prefix,λ p=>Nat.zero_le _,λ s hs=>(by cases hs),λ p hp=>?_,λ p hp hv=>?_,λ p hp hv=>⟨rfl,List.prefix_rfl⟩,λ s hs=>(by cases hs)⟩
    . rw [hr]; exact ⟨rfl,λ q hq=>by cases hq⟩
    . rw [hr];exact ⟨⟨0,Nat.le_refl _,rfl,λ q hq=>(by cases hq),rfl,rfl,rfl⟩,rfl⟩
def Ck:H7:=(0,0,0,[],())
def Fx (k bA:Int):H7:=(3,k,bA,[],())
theorem Wm (w:f8) (k bA:Int):T3 w (Fx k bA)=F5 w k bA:=by
  unfold T3 Fx;rw [if_neg (show ¬ (3:Int)=1 by decide),if_neg (show ¬ (3:Int)=2 by decide),if_pos rfl]
theorem Ok.Fy {c:Nat} {said:Nat->List C8} {w:f8} (h:Ok c said w) (k bA:Int):Ok (c+16) said (F5 w k bA).1:=by
  have:=(HD h (Fx k bA)).ok;rw [Wm] at this;exact this
def Ev (p:Int) (t:C8):H7:=(1,p,0,t,())
theorem Uu (w:f8) (p:Int) (t:C8):T3 w (Ev p t)=uO w p t:=by
  unfold T3 Ev;exact if_pos rfl
theorem Ok.c79 {c:Nat} {said:Nat->List C8} {w:f8} (h:Ok c said w) (p:Int) (t:C8):∃ said',Ok (c+16) said' (uO w p t).1:=by
  have:=(HD h (Ev p t)).ok;rw [Uu] at this;exact ⟨_,this⟩
attribute [local irreducible] Go.Ex.exec
abbrev Ce:yY:=[115,101,116,32]
abbrev spT:yY:=[32]
def Cz (i:Nat) (d:H7):H7:=if d.1=1 then (d.1,d.2.1,d.2.2.1,Ce++C5 (Int.tmod i 10)++spT++C5 i,()) else d
abbrev vu:=f8×List (List C8)×List Int
def xO (n:Int) (s:vu) (d:H7):vu :=
  if (T3 s.1 d).2≠0\/d.2.1<0\/n<=d.2.1 then ((T3 s.1 d).1,s.2) else
  ((T3 s.1 d).1,if d.1=1 then s.2.1.set d.2.1.toNat (s.2.1.getD d.2.1.toNat []++[d.2.2.2.1]) else s.2.1,if d.1=4 then s.2.2++[d.2.1] else s.2.2)
def G0 (n:Int) (l:List H7):Nat->vu
  | 0=>(xZ n,List.replicate n.toNat [],[])
  | i+1=>xO n (G0 n l i) (Cz i (l.getD i Ck))
def Hu:o7:={ ps:=[.v e8,.v (.d0 false va)],rs:=[.box true none s6,.d0 true (.d0 true .str),.d0 true e8,.bool],pre:=λ x=>(LE.le (α:=Int) 1 x.1/\LE.le (α:=Int) x.1 6)/\List.length (α:=H7) x.2.1<=1048576,fn:=λ x=>(some (G0 x.1 x.2.1 (List.length (α:=H7) x.2.1)).1,(G0 x.1 x.2.1 (List.length (α:=H7) x.2.1)).2.1,(G0 x.1 x.2.1 (List.length (α:=H7) x.2.1)).2.2,true,()),out:=λ _=>() }
noncomputable def Bd:Env:={ P:=Tryz.prog,tt:=tt,C7:=[(14,Fb),(50,GH),(51,ES)],res:=[Go.ResultVar.tmp 4,Go.ResultVar.tmp 5,Go.ResultVar.tmp 6,Go.ResultVar.tmp 7],rs:=[Ty.box true none s6,Ty.d0 true (Ty.d0 true Ty.str),Ty.d0 true e8,Ty.bool],ps:=[PK.v e8,PK.v (Ty.d0 false va)],B0:=[(7,[(0,none),(8,none),(10,some (Ty.d0 true (Ty.d0 true Ty.str))),(11,some Is),(28,none),(29,none),(30,none)])],nt:=91 }
theorem JQ:w7 Bd:=x8 p7 ⟨ZW,RF,ZK,trivial⟩
theorem JU:C2 Bd Tryz.f23:=⟨rfl,rfl⟩
theorem YR (x0:Int) (x1:List (Int×Int×Int×yY×Unit)):exec Bd 1000 [.code (d8 Tryz.prog 23)] (s9 Hu.ps ((x0,x1,()))) =
  .f7 ((1:Int)<=x0/\x0<=(6:Int)) (.f7 ((0:Int)<=x0/\x0<=x0/\x0<=(140737488355328:Int)/\x0*(↑(Ty.wb (Ty.d0 true Ty.str)):Int)<=(140737488355328:Int)) (.ctL (f9 (d8 Tryz.prog 23) 7) (St.mk [(0,AV.val e8 x0),(8,AV.ptr 1017 []),(10,AV.at_ 1000010 []),(11,AV.at_ 1000011 []),(28,AV.val (Ty.d0 false va) x1),(29,AV.val e8 (↑(List.length x1):Int)),(30,AV.val e8 (0:Int))] [(1017,g9.var s6 (((0:Int),FH x0,()),List.replicate (Int.toNat x0) j5,[],[],())),(1000010,g9.own (Ty.d0 true (Ty.d0 true Ty.str)) (List.replicate (Int.toNat x0) [])),(1000011,g9.own Is [])]))):=by kernel_rfl
def JR (v0:Int) (v28:List (Int×Int×Int×yY×Unit)) (vQ:Int) (v30:Int) (dC:Int) (cK:Int) (dB:List n7) (cJ:List yY) (cg:List yY) (cn:List (List yY)) (bs:List Int):St:=St.mk [(0,AV.val e8 v0),(8,AV.ptr 1017 []),(10,AV.at_ 1000010 []),(11,AV.at_ 1000011 []),(28,AV.val (Ty.d0 false va) v28),(29,AV.val e8 vQ),(30,AV.val e8 v30)] [(1017,g9.var s6 ((dC,cK,()),dB,cJ,cg,())),(1000010,g9.own (Ty.d0 true (Ty.d0 true Ty.str)) cn),(1000011,g9.own Is bs)]
theorem b7F (v0:Int) (v28:List (Int×Int×Int×yY×Unit)) (vQ:Int) (v30:Int) (dC:Int) (cK:Int) (dB:List n7) (cJ:List yY) (cg:List yY) (cn:List (List yY)) (bs:List Int):exec Bd 1000 (.code (f9 (d8 Tryz.prog 23) 7).1::.inLoop (f9 (d8 Tryz.prog 23) 7).1::(f9 (d8 Tryz.prog 23) 7).2) (JR v0 v28 vQ v30 dC cK dB cJ cg cn bs) =
  let q2:=(List.getD v28 (Int.toNat v30) ((0:Int),(0:Int),(0:Int),[],())); let q4:=(ByteArray.data (ByteArray.mk #[115,101,116,32])); let q6:=(30,AV.val e8 (v30+(1:Int))); let q7:=(1000010,g9.own (Ty.d0 true (Ty.d0 true Ty.str)) cn); let q8:=(List.set [(0:Int)] (Int.toNat (↑0:Int)) (Prod.fst (Prod.snd q2))); let q9:=(29,AV.val e8 vQ); let yF:=((dC,cK,()),dB,cJ,cg,()); let uZ:=(r9 IntKind.i64 (v30+(1:Int))); let uY:=(0,AV.val e8 v0); let xg:=(Int.toNat (Prod.fst (Prod.snd q2))); let BK:=(1000011,g9.own Is (bs++List.set [(0:Int)] (Int.toNat (↑0:Int)) (Prod.fst (Prod.snd q2)))); let BJ:=r7; let q3:=(28,AV.val (Ty.d0 false (Ty.pair e8 (Ty.pair e8 BJ))) v28); let q5:=(Ty.pair View (Ty.pair (Ty.d0 true (Ty.pair Ty.bool (Ty.pair (Ty.d0 true BJ) (Ty.pair P0 (Ty.pair (Ty.pair e8 (Ty.pair (Ty.d0 false BJ) Ty.unit)) (Ty.pair (Ty.pair e8 (Ty.pair (Ty.d0 false BJ) Ty.unit)) Ty.unit)))))) (Ty.pair (Ty.d0 true Ty.str) (Ty.pair (Ty.d0 true Ty.str) Ty.unit)))); let q1:=(1017,g9.var q5 (Prod.fst (T3 yF q2))); let BI:=(ByteArray.data (ByteArray.mk #[32])); let Ej:=(Array.toList q4++C5 (Int.tmod v30 (10:Int))++Array.toList BI++C5 v30); let Kn:=(1000010,g9.own (Ty.d0 true (Ty.d0 true Ty.str)) (List.set cn xg (List.getD cn xg []++List.set [[]] (Int.toNat (↑0:Int)) Ej))); let BH:=(List.length bs+List.length q8); let BG:=(Prod.snd (Prod.snd (Prod.snd q2))); let Kp:=(T3 yF (Prod.fst q2,Prod.fst (Prod.snd q2),Prod.fst (Prod.snd (Prod.snd q2)),Array.toList q4++C5 (Int.tmod v30 (10:Int))++Array.toList BI++C5 v30,Prod.snd BG)); let q0:=(1017,g9.var q5 (Prod.fst Kp)); let Ko:=(1000010,g9.own (Ty.d0 true (Ty.d0 true Ty.str)) (List.set cn xg (List.getD cn xg []++List.set [[]] (Int.toNat (↑0:Int)) (Prod.fst BG)))); cond (decide (v30<vQ)) (.f7 ((0:Int)<=v30/\v30<(↑(List.length v28):Int)) (cond (decide (Prod.fst q2=(1:Int))) (.f7 ((0:Int)<(10:Int)) (.f7 (True) (.f7 (List.length (Array.toList q4)+List.length (C5 (Int.tmod v30 (10:Int)))<=Go.maxLen) (.f7 (List.length (Array.toList q4++C5 (Int.tmod v30 (10:Int)))+List.length (Array.toList BI)<=Go.maxLen) (.f7 (True) (.f7 (List.length (Array.toList q4++C5 (Int.tmod v30 (10:Int))++Array.toList BI)+List.length (C5 v30)<=Go.maxLen) (.f7 (Good yF) (cond (decide (Prod.snd Kp≠(0:Int))) (.f7 uZ (.ctL (f9 (d8 Tryz.prog 23) 7) (St.mk [uY,(8,AV.ptr 1017 []),(10,AV.at_ 1000010 []),(11,AV.at_ 1000011 []),q3,q9,q6] [q0,q7,(1000011,g9.own Is bs)]))) (cond (decide (Prod.fst (Prod.snd q2)<(0:Int))) (.f7 uZ (.ctL (f9 (d8 Tryz.prog 23) 7) (St.mk [uY,(8,AV.ptr 1017 []),(10,AV.at_ 1000010 []),(11,AV.at_ 1000011 []),q3,q9,q6] [q0,q7,(1000011,g9.own Is bs)]))) (cond (decide (v0<=Prod.fst (Prod.snd q2))) (.f7 uZ (.ctL (f9 (d8 Tryz.prog 23) 7) (St.mk [uY,(8,AV.ptr 1017 []),(10,AV.at_ 1000010 []),(11,AV.at_ 1000011 []),q3,q9,q6] [q0,q7,(1000011,g9.own Is bs)]))) (cond (decide (Prod.fst q2=(1:Int))) (.f7 ((0:Int)<=Prod.fst (Prod.snd q2)/\Prod.fst (Prod.snd q2)<(↑(List.length cn):Int)) (.f7 ((0:Int)<=Prod.fst (Prod.snd q2)/\Prod.fst (Prod.snd q2)<(↑(List.length cn):Int)) (.f7 ([]++[Step.idx (Prod.fst (Prod.snd q2))]=[]++[Step.idx (Prod.fst (Prod.snd q2))]/\List.length (List.getD cn xg [])+List.length (List.set [[]] (Int.toNat (↑0:Int)) Ej)<=140737488355328/\(List.length (List.getD cn xg [])+List.length (List.set [[]] (Int.toNat (↑0:Int)) Ej))*Ty.wb Ty.str<=140737488355328) (cond (decide (Prod.fst q2=(4:Int))) (.f7 (List.length bs+List.length q8<=140737488355328/\BH*Ty.wb e8<=140737488355328) (.f7 uZ (.ctL (f9 (d8 Tryz.prog 23) 7) (St.mk [uY,(8,AV.ptr 1017 []),(10,AV.at_ 1000010 []),(11,AV.at_ 1000011 []),q3,q9,q6] [q0,Kn,BK])))) (.f7 uZ (.ctL (f9 (d8 Tryz.prog 23) 7) (St.mk [uY,(8,AV.ptr 1017 []),(10,AV.at_ 1000010 []),(11,AV.at_ 1000011 []),q3,q9,q6] [q0,Kn,(1000011,g9.own Is bs)]))))))) (cond (decide (Prod.fst q2=(4:Int))) (.f7 (List.length bs+List.length q8<=140737488355328/\BH*Ty.wb e8<=140737488355328) (.f7 uZ (.ctL (f9 (d8 Tryz.prog 23) 7) (St.mk [uY,(8,AV.ptr 1017 []),(10,AV.at_ 1000010 []),(11,AV.at_ 1000011 []),q3,q9,q6] [q0,q7,BK])))) (.f7 uZ (.ctL (f9 (d8 Tryz.prog 23) 7) (St.mk [uY,(8,AV.ptr 1017 []),(10,AV.at_ 1000010 []),(11,AV.at_ 1000011 []),q3,q9,q6] [q0,q7,(1000011,g9.own Is bs)]))))))))))))))) (.f7 (Good yF) (cond (decide (Prod.snd (T3 yF q2)≠(0:Int))) (.f7 uZ (.ctL (f9 (d8 Tryz.prog 23) 7) (St.mk [uY,(8,AV.ptr 1017 []),(10,AV.at_ 1000010 []),(11,AV.at_ 1000011 []),q3,q9,q6] [q1,q7,(1000011,g9.own Is bs)]))) (cond (decide (Prod.fst (Prod.snd q2)<(0:Int))) (.f7 uZ (.ctL (f9 (d8 Tryz.prog 23) 7) (St.mk [uY,(8,AV.ptr 1017 []),(10,AV.at_ 1000010 []),(11,AV.at_ 1000011 []),q3,q9,q6] [q1,q7,(1000011,g9.own Is bs)]))) (cond (decide (v0<=Prod.fst (Prod.snd q2))) (.f7 uZ (.ctL (f9 (d8 Tryz.prog 23) 7) (St.mk [uY,(8,AV.ptr 1017 []),(10,AV.at_ 1000010 []),(11,AV.at_ 1000011 []),q3,q9,q6] [q1,q7,(1000011,g9.own Is bs)]))) (cond (decide (Prod.fst q2=(1:Int))) (.f7 ((0:Int)<=Prod.fst (Prod.snd q2)/\Prod.fst (Prod.snd q2)<(↑(List.length cn):Int)) (.f7 ((0:Int)<=Prod.fst (Prod.snd q2)/\Prod.fst (Prod.snd q2)<(↑(List.length cn):Int)) (.f7 ([]++[Step.idx (Prod.fst (Prod.snd q2))]=[]++[Step.idx (Prod.fst (Prod.snd q2))]/\List.length (List.getD cn xg [])+List.length (List.set [[]] (Int.toNat (↑0:Int)) (Prod.fst BG))<=140737488355328/\(List.length (List.getD cn xg [])+List.length (List.set [[]] (Int.toNat (↑0:Int)) (Prod.fst BG)))*Ty.wb Ty.str<=140737488355328) (cond (decide (Prod.fst q2=(4:Int))) (.f7 (List.length bs+List.length q8<=140737488355328/\BH*Ty.wb e8<=140737488355328) (.f7 uZ (.ctL (f9 (d8 Tryz.prog 23) 7) (St.mk [uY,(8,AV.ptr 1017 []),(10,AV.at_ 1000010 []),(11,AV.at_ 1000011 []),q3,q9,q6] [q1,Ko,BK])))) (.f7 uZ (.ctL (f9 (d8 Tryz.prog 23) 7) (St.mk [uY,(8,AV.ptr 1017 []),(10,AV.at_ 1000010 []),(11,AV.at_ 1000011 []),q3,q9,q6] [q1,Ko,(1000011,g9.own Is bs)]))))))) (cond (decide (Prod.fst q2=(4:Int))) (.f7 (List.length bs+List.length q8<=140737488355328/\BH*Ty.wb e8<=140737488355328) (.f7 uZ (.ctL (f9 (d8 Tryz.prog 23) 7) (St.mk [uY,(8,AV.ptr 1017 []),(10,AV.at_ 1000010 []),(11,AV.at_ 1000011 []),q3,q9,q6] [q1,q7,BK])))) (.f7 uZ (.ctL (f9 (d8 Tryz.prog 23) 7) (St.mk [uY,(8,AV.ptr 1017 []),(10,AV.at_ 1000010 []),(11,AV.at_ 1000011 []),q3,q9,q6] [q1,q7,(1000011,g9.own Is bs)]))))))))))) (.ret ((some yF,cn,bs,true,()))):=by kernel_rfl
def I7:Nat->f8->f8×Bool
  | 0,w=>(w,decide ((w.2.2.2.1.length:Int)=0))
  | k+1,w=>if (w.2.2.2.1.length:Int)=0 then (w,true) else if (F5 w 0 1).2≠0 then ((F5 w 0 1).1,false) else I7 k (F5 w 0 1).1
structure Fit (most:Int) (w:f8):Prop where
  nn:0<=most/\most<=1000000
  ok:∃ c said,Ok c said w/\c<=100000000000
def HC:o7:={ ps:=[.rw s6,.v e8],rs:=[.bool],pre:=λ x=>Fit x.2.1 x.1,fn:=λ x=>((I7 (Int.toNat x.2.1) x.1).2,()),out:=λ x=>((I7 (Int.toNat x.2.1) x.1).1,()) }
noncomputable def Bo:Env:={ P:=Tryz.prog,tt:=tt,C7:=[(17,EI),(18,Ch)],res:=[Go.ResultVar.tmp 4],rs:=[Ty.bool],ps:=[PK.rw s6,PK.v e8],B0:=[(2,[(0,none),(5,none),(6,none)])],nt:=18 }
theorem JJ:w7 Bo:=x8 p7 ⟨Zh,Rw,trivial⟩
theorem Kl:C2 Bo Tryz.f16:=⟨rfl,rfl⟩
theorem b7I (aj:Int) (af:Int) (ab:List n7) (ae:List yY) (aa:List yY) (x1:Int):exec Bo 1000 [.code (d8 Tryz.prog 16)] (s9 HC.ps ((((aj,af,()),ab,ae,aa,()),x1,()))) =
  .ctL (f9 (d8 Tryz.prog 16) 2) (St.mk [(0,AV.ptr 2000000 []),(5,AV.val e8 x1),(6,AV.val e8 (0:Int))] [(2000000,g9.var s6 ((aj,af,()),ab,ae,aa,()))]):=by kernel_rfl
def JK (v5:Int) (v6:Int) (aB:Int) (ao:Int) (ak:List n7) (an:List yY) (ah:List yY):St:=St.mk [(0,AV.ptr 2000000 []),(5,AV.val e8 v5),(6,AV.val e8 v6)] [(2000000,g9.var s6 ((aB,ao,()),ak,an,ah,()))]
theorem b6l (v5:Int) (v6:Int) (aB:Int) (ao:Int) (ak:List n7) (an:List yY) (ah:List yY):exec Bo 1000 (.code (f9 (d8 Tryz.prog 16) 2).1::.inLoop (f9 (d8 Tryz.prog 16) 2).1::(f9 (d8 Tryz.prog 16) 2).2) (JK v5 v6 aB ao ak an ah) =
  cond (decide (v6<v5)) (.f7 (True) (cond (decide ((↑(List.length ah):Int)=(0:Int))) (.ret ((true,((aB,ao,()),ak,an,ah,()),()))) (.f7 (AG ((aB,ao,()),ak,an,ah,())) (cond (decide (Prod.snd (F5 ((aB,ao,()),ak,an,ah,()) (0:Int) (1:Int))≠(0:Int))) (.ret ((false,Prod.fst (F5 ((aB,ao,()),ak,an,ah,()) (0:Int) (1:Int)),()))) (.f7 (r9 IntKind.i64 (v6+(1:Int))) (.ctL (f9 (d8 Tryz.prog 16) 2) (St.mk [(0,AV.ptr 2000000 []),(5,AV.val e8 v5),(6,AV.val e8 (v6+(1:Int)))] [(2000000,g9.var s6 (Prod.fst (F5 ((aB,ao,()),ak,an,ah,()) (0:Int) (1:Int))))]))))))) (.f7 (True) (.ret ((decide ((↑(List.length ah):Int)=(0:Int)),((aB,ao,()),ak,an,ah,()),())))):=by kernel_rfl
attribute [local irreducible] F5 in
theorem b1I:HC.Valid Tryz.prog 16:=by
  refine o7.o5 JJ rfl rfl Tryz.func16 (c:=d8 Tryz.prog 16) rfl rfl Kl rfl ?_;rintro ⟨⟨⟨(v0:Int),(v1:Int),⟨⟩⟩,(al:List n7),(od:List yY),(wy:List yY),⟨⟩⟩,(most:Int),⟨⟩⟩ (hf:Fit most ((v0,v1,()),al,od,wy,())) -
  refine j6 (n:=1000) JJ Kl ?_;refine i6 (b7I v0 v1 al od wy most) ?_;obtain ⟨c0,said,aM,eM⟩:=hf.ok;have hm:=hf.nn;obtain ⟨w0,qt⟩:∃ w:f8,w=((v0,v1,()),al,od,wy,()):=⟨_,rfl⟩;rw [<- qt] at aM;have key:∀ (w:f8) (i:Nat),I7 most.toNat w0=I7 (most.toNat - i) w->∀ r:f8×Bool,I7 (most.toNat - i) w=r->(((r.2,r.1,()):Bool×f8×Unit)=((I7 most.toNat w0).2,(I7 most.toNat w0).1,())):=by
    rintro w i e r rfl; rw [e]
  suffices go:Go.Ex.Reach Bo Tryz.f16 ((I7 most.toNat w0).2,()) ((I7 most.toNat w0).1,()) (.code (f9 (d8 Tryz.prog 16) 2).1::.inLoop (f9 (d8 Tryz.prog 16) 2).1::(f9 (d8 Tryz.prog 16) 2).2) (JK most ((0:Nat):Int) w0.1.1 w0.1.2.1 w0.2.1 w0.2.2.1 w0.2.2.2.1) by
    subst qt; exact go
  refine Reach.M9 JJ Kl (λ i:Nat×f8=>JK most (i.1:Int) i.2.1.1 i.2.1.2.1 i.2.2.1 i.2.2.2.1 i.2.2.2.2.1) (λ i=>i.1<=most.toNat/\I7 most.toNat w0=I7 (most.toNat - i.1) i.2/\Ok (c0+16*i.1) said i.2)
    (λ i=>most.toNat - i.1) 1000 (λ _=>⟨u7 rfl,u7 rfl⟩) ?_ (0,w0) ⟨Nat.zero_le _,rfl,aM⟩
  rintro ⟨i,w⟩ ⟨k1,k2,k3⟩ - ih;have k1:i<=most.toNat:=k1;have k2:I7 most.toNat w0=I7 (most.toNat - i) w:=k2;have k3:Ok (c0+16*i) said w:=k3;have ih1:i<most.toNat->I7 most.toNat w0=I7 (most.toNat - (i+1)) (F5 w 0 1).1->_:=λ h e=>ih (i+1,(F5 w 0 1).1) ⟨by show i+1<=most.toNat; omega,e,by rw [show c0+16*(i+1)=c0+16*i+16 by omega]; exact k3.Fy 0 1⟩ (by show most.toNat - (i+1)<most.toNat - i; omega);refine i6 (b6l ..) ?_;have e1:((i:Nat):Int)+1=((i+1:Nat):Int):=by omega
  obtain ⟨⟨u0,u1,⟨⟩⟩,ual,uod,uwy,⟨⟩⟩:=w;simp only [j7,Tree.holds,e1,sL];have e2:i<most.toNat->I7 (most.toNat - i) ((u0,u1,()),ual,uod,uwy,())=if (uwy.length:Int)=0 then (((u0,u1,()),ual,uod,uwy,()),true) else if (F5 ((u0,u1,()),ual,uod,uwy,()) 0 1).2≠0 then ((F5 ((u0,u1,()),ual,uod,uwy,()) 0 1).1,false) else I7 (most.toNat - (i+1)) (F5 ((u0,u1,()),ual,uod,uwy,()) 0 1).1:=λ h=>by
    rw [show most.toNat - i=(most.toNat - (i+1))+1 by omega,I7]
  refine ⟨λ c=>⟨λ d=>?_,λ d=>⟨(k3.zR (by omega)).move,λ _=>⟨λ e=>?_,λ e=>⟨F1.2 ⟨by omega,by omega⟩,λ _=>?_⟩⟩⟩⟩,λ c=>?_⟩
  . exact key _ i k2 (_,_) ((e2 (by omega)).trans (if_pos d))
  . exact key _ i k2 (_,_) ((e2 (by omega)).trans ((if_neg d).trans (if_pos e)))
  . exact ih1 (by omega) (k2.trans ((e2 (by omega)).trans ((if_neg d).trans (if_neg (by simpa using e)))))
  . obtain rfl:i=most.toNat:=by omega
    exact key _ _ k2 (_,_) (by rw [Nat.sub_self]; rfl)
def EW:o7:={ ps:=[.v (.d0 false e8),.v e8],rs:=[e8],pre:=λ _=>True,fn:=λ x=>(idxOf (λ y=>decide ((show Int from x.2.1)=y)) x.1,()),out:=λ _=>() }
noncomputable def Cr:Env:={ P:=Tryz.prog,tt:=tt,C7:=[],res:=[Go.ResultVar.tmp 4],rs:=[Ty.int IntKind.i64],ps:=[PK.v (Ty.d0 false e8),PK.v e8],B0:=[(2,[(0,none),(1,none),(7,none),(8,none)])],nt:=19 }
theorem HP:w7 Cr:=x8 p7 trivial
theorem HY:C2 Cr Tryz.f69:=⟨rfl,rfl⟩
theorem Tj (x0:List Int) (x1:Int):exec Cr 1000 [.code (d8 Tryz.prog 69)] (s9 EW.ps ((x0,x1,()))) =
  .ctL (f9 (d8 Tryz.prog 69) 2) (St.mk [(0,AV.val (Ty.d0 false e8) x0),(1,AV.val e8 x1),(7,AV.val e8 (↑(List.length x0):Int)),(8,AV.val e8 (0:Int))] []):=by kernel_rfl
def NL (v0:List Int) (v1:Int) (v7:Int) (v8:Int):St:=St.mk [(0,AV.val (Ty.d0 false e8) v0),(1,AV.val e8 v1),(7,AV.val e8 v7),(8,AV.val e8 v8)] []
theorem VK (v0:List Int) (v1:Int) (v7:Int) (v8:Int):exec Cr 1000 (.code (f9 (d8 Tryz.prog 69) 2).1::.inLoop (f9 (d8 Tryz.prog 69) 2).1::(f9 (d8 Tryz.prog 69) 2).2) (NL v0 v1 v7 v8) =
  cond (decide (v8<v7)) (.f7 ((0:Int)<=v8/\v8<(↑(List.length v0):Int)) (cond (decide (v1=List.getD v0 (Int.toNat v8) (0:Int))) (.ret ((v8,()))) (.f7 (r9 IntKind.i64 (v8+(1:Int))) (.ctL (f9 (d8 Tryz.prog 69) 2) (St.mk [(0,AV.val (Ty.d0 false e8) v0),(1,AV.val e8 v1),(7,AV.val e8 v7),(8,AV.val e8 (v8+(1:Int)))] []))))) (.ret (((-1:Int),()))):=by kernel_rfl
theorem ZP:EW.Valid Tryz.prog 69:=by
  refine o7.o5 HP rfl rfl Tryz.func69 (c:=d8 Tryz.prog 69) rfl rfl HY rfl ?_;rintro ⟨(l:List (Int)),(x:Int),⟨⟩⟩ - ⟨⟨hl,-⟩,-⟩;have hl:l.length<=9223372036854775807:=hl;refine j6 (n:=1000) HP HY ?_;refine i6 (Tj l x) ?_;refine Reach.M9 HP HY (λ i:Nat=>NL l x (l.length:Int) (i:Int) ) (λ i=>i<=l.length/\idxOf (λ y=>decide (x=y)) l=Z7 (λ y=>decide (x=y)) (l.drop i) i)
    (λ i=>l.length - i) 1000 (λ _=>⟨u7 rfl,u7 rfl⟩) ?_ 0 ⟨by omega,rfl⟩
  rintro i ⟨k1,k2⟩ - ih;refine i6 (VK ..) ?_;simp only [j7,Tree.holds,sL];refine ⟨λ h=>?_,λ h=>?_⟩
  . rw [Jh (show i<l.length by omega) 0,Z7] at k2;have key:∀ b:Bool,(b=true↔x=l.getD i 0)->(b=true->(((i:Int),()):Int×Unit)=(idxOf (λ y=>decide (x=y)) l,()))/\(b=false->idxOf (λ y=>decide (x=y)) l=Z7 (λ y=>decide (x=y)) (l.drop (i+1)) (i+1)):=λ b hb=>by
      refine ⟨λ c=>?_,λ c=>?_⟩
      . rw [k2,if_pos (decide_eq_true (hb.1 c))]
      . rw [k2,if_neg (λ h9=>by rw [hb.2 (of_decide_eq_true h9)] at c; cases c)]
    refine ⟨by omega,λ _=>⟨λ c=>?_,λ c=>⟨by omega,λ _=>ih (i+1) ⟨by omega,?_⟩ (by omega)⟩⟩⟩
    . exact (key true ⟨λ _=>c,λ _=>rfl⟩).1 rfl
    . exact (key false ⟨λ h9=>(by cases h9),λ h9=>(c h9).elim⟩).2 rfl
  . rw [List.drop_eq_nil_of_le (by omega)] at k2;show (((-1:Int),()):Int×Unit)=(idxOf (λ y=>decide (x=y)) l,());rw [k2]; rfl
def Gq:o7:={ ps:=[.v (.d0 false e8),.v e8],rs:=[.bool],pre:=λ _=>True,fn:=λ x=>(decide ((show Int from x.2.1)∈(show List (Int) from x.1)),()),out:=λ _=>() }
noncomputable def FX:Env:={ P:=Tryz.prog,tt:=tt,C7:=[(69,EW)],res:=[Go.ResultVar.tmp 4],rs:=[Ty.bool],ps:=[PK.v (Ty.d0 false e8),PK.v e8],B0:=[],nt:=9 }
theorem OF:w7 FX:=x8 p7 ⟨ZP,trivial⟩
theorem OW:C2 FX Tryz.f52:=⟨rfl,rfl⟩
theorem Vu (x0:List Int) (x1:Int):exec FX 1000 [.code (d8 Tryz.prog 52)] (s9 Gq.ps ((x0,x1,()))) =
  .f7 (True) (.ret ((decide ((0:Int)<=idxOf (λ y=>decide (x1=y)) x0),()))):=by kernel_rfl
theorem b5g:Gq.Valid Tryz.prog 52:=by
  refine o7.o5 OF rfl rfl Tryz.func52 (c:=d8 Tryz.prog 52) rfl rfl OW rfl ?_;rintro ⟨(l:List (Int)),(x:Int),⟨⟩⟩ - -
  refine j6 (n:=1000) OF OW ?_;refine i6 (Vu l x) ?_;refine ⟨trivial,λ _=>?_⟩;show ((decide (0<=idxOf (λ y=>decide (x=y)) l),()):Bool×Unit)=(decide (x∈l),());rw [GU];have:l.any (λ y=>decide (x=y))=true↔x∈l:=by
    rw [List.any_eq_true];exact ⟨λ⟨y,h1,h2⟩=>by rw [of_decide_eq_true h2]; exact h1,λ h=>⟨x,h,decide_eq_true rfl⟩⟩
  cases e:l.any (λ y=>decide (x=y)) with
  | true=>rw [decide_eq_true (this.1 e)]
  | false=>rw [decide_eq_false (λ h=>by rw [this.2 h] at e; cases e)]
def M3 (w:f8) (Q6:List Int):Nat->List Int
  | 0=>[]
  | p+1=>if V1 w.1.2.1 p=true/\¬ (p:Int)∈Q6 then M3 w Q6 p++[(p:Int)] else M3 w Q6 p
theorem Jl (w:f8) (Q6:List Int):∀ p,(M3 w Q6 p).length<=p
  | 0=>Nat.le_refl _
  | p+1=>by
    have:=Jl w Q6 p;rw [M3]
    split
    . rw [List.length_append]; simp only [List.length_singleton]; omega
    . omega
def EV:o7:={ ps:=[.rd H5,.v e8,.v (.d0 false e8)],rs:=[.d0 true e8],pre:=λ x=>LE.le (α:=Int) 0 x.2.1/\LE.le (α:=Int) x.2.1 6,fn:=λ x=>(M3 x.1 x.2.2.1 (Int.toNat x.2.1),()),out:=λ _=>() }
noncomputable def Au:Env:={ P:=Tryz.prog,tt:=tt,C7:=[(29,GC),(52,Gq)],res:=[Go.ResultVar.tmp 6],rs:=[Ty.d0 true e8],ps:=[PK.rd H5,PK.v e8,PK.v (Ty.d0 false e8)],B0:=[(3,[(0,none),(2,none),(7,some Is),(9,none),(10,none)])],nt:=32 }
theorem Iz:w7 Au:=x8 p7 ⟨b4Y,b5g,trivial⟩
theorem IE:C2 Au Tryz.f24:=⟨rfl,rfl⟩
theorem VD (aj:Int) (af:Int) (ab:List n7) (ae:List yY) (aa:List yY) (x1:Int) (x2:List Int):exec Au 1000 [.code (d8 Tryz.prog 24)] (s9 EV.ps ((((aj,af,()),ab,ae,aa,()),x1,x2,()))) =
  .ctL (f9 (d8 Tryz.prog 24) 3) (St.mk [(0,AV.K2 H5 ((aj,af,()),ab,ae,aa,())),(2,AV.val (Ty.d0 false e8) x2),(7,AV.at_ 1000007 []),(9,AV.val e8 x1),(10,AV.val e8 (0:Int))] [(1000007,g9.own Is [])]):=by kernel_rfl
def IA (bG:Int) (aZ:Int) (bz:List n7) (bo:List yY) (aY:List yY) (v2:List Int) (v9:Int) (v10:Int) (bp:List Int):St:=St.mk [(0,AV.K2 H5 ((bG,aZ,()),bz,bo,aY,())),(2,AV.val (Ty.d0 false e8) v2),(7,AV.at_ 1000007 []),(9,AV.val e8 v9),(10,AV.val e8 v10)] [(1000007,g9.own Is bp)]
theorem Wj (bG:Int) (aZ:Int) (bz:List n7) (bo:List yY) (aY:List yY) (v2:List Int) (v9:Int) (v10:Int) (bp:List Int):exec Au 1000 (.code (f9 (d8 Tryz.prog 24) 3).1::.inLoop (f9 (d8 Tryz.prog 24) 3).1::(f9 (d8 Tryz.prog 24) 3).2) (IA bG aZ bz bo aY v2 v9 v10 bp) =
  cond (decide (v10<v9)) (.f7 (True) (.f7 ((0:Int)<=v10) (cond (decide (T5 IntKind.u8 (aZ / (2:Int)^min (Int.toNat v10) (IntKind.bits IntKind.u8)) (1:Int)=(1:Int))) (.f7 (True) (cond (!decide (v10∈v2)) (.f7 (List.length bp+List.length (List.set [(0:Int)] (Int.toNat (↑0:Int)) v10)<=140737488355328/\(List.length bp+List.length (List.set [(0:Int)] (Int.toNat (↑0:Int)) v10))*Ty.wb e8<=140737488355328) (.f7 (r9 IntKind.i64 (v10+(1:Int))) (.ctL (f9 (d8 Tryz.prog 24) 3) (St.mk [(0,AV.K2 H5 ((bG,aZ,()),bz,bo,aY,())),(2,AV.val (Ty.d0 false e8) v2),(7,AV.at_ 1000007 []),(9,AV.val e8 v9),(10,AV.val e8 (v10+(1:Int)))] [(1000007,g9.own Is (bp++List.set [(0:Int)] (Int.toNat (↑0:Int)) v10))])))) (.f7 (r9 IntKind.i64 (v10+(1:Int))) (.ctL (f9 (d8 Tryz.prog 24) 3) (St.mk [(0,AV.K2 H5 ((bG,aZ,()),bz,bo,aY,())),(2,AV.val (Ty.d0 false e8) v2),(7,AV.at_ 1000007 []),(9,AV.val e8 v9),(10,AV.val e8 (v10+(1:Int)))] [(1000007,g9.own Is bp)]))))) (.f7 (r9 IntKind.i64 (v10+(1:Int))) (.ctL (f9 (d8 Tryz.prog 24) 3) (St.mk [(0,AV.K2 H5 ((bG,aZ,()),bz,bo,aY,())),(2,AV.val (Ty.d0 false e8) v2),(7,AV.at_ 1000007 []),(9,AV.val e8 v9),(10,AV.val e8 (v10+(1:Int)))] [(1000007,g9.own Is bp)])))))) (.ret ((bp,()))):=by kernel_rfl
theorem ZO:EV.Valid Tryz.prog 24:=by
  refine o7.o5 Iz rfl rfl Tryz.func24 (c:=d8 Tryz.prog 24) rfl rfl IE rfl ?_;rintro ⟨⟨⟨(v0:Int),(v1:Int),⟨⟩⟩,(al:List n7),(od:List yY),(wy:List yY),⟨⟩⟩,(n:Int),(Q6:List Int),⟨⟩⟩ ⟨(h0:0<=n),(h6:n<=6)⟩ -
  refine j6 (n:=1000) Iz IE ?_;refine i6 (VD v0 v1 al od wy n Q6) ?_;obtain ⟨w,hw⟩:∃ w:f8,w=((v0,v1,()),al,od,wy,()):=⟨_,rfl⟩;show Go.Ex.Reach Au Tryz.f24 (M3 ((v0,v1,()),al,od,wy,()) Q6 n.toNat,()) () (.code (f9 (d8 Tryz.prog 24) 3).1::.inLoop (f9 (d8 Tryz.prog 24) 3).1::(f9 (d8 Tryz.prog 24) 3).2) (IA v0 v1 al od wy Q6 n ((0:Nat):Int) (M3 ((v0,v1,()),al,od,wy,()) Q6 0));rw [<- hw];refine Reach.M9 Iz IE (λ p:Nat=>IA v0 v1 al od wy Q6 n (p:Int) (M3 w Q6 p)) (λ p=>p<=n.toNat) (λ p=>n.toNat - p) 1000 (λ _=>⟨u7 rfl,u7 rfl⟩) ?_ 0 (Nat.zero_le _);rintro p k1 - ih;have k1:p<=n.toNat:=k1;refine i6 (Wj ..) ?_;have e1:((p:Nat):Int)+1=((p+1:Nat):Int):=by omega
  have jd:Ty.wb e8=8:=rfl;have hl:=Jl w Q6 p;have ih1:p<n.toNat->_:=λ h=>ih (p+1) (by show p+1<=n.toNat; omega) (by show n.toNat - (p+1)<n.toNat - p; omega);have hm:V1 w.1.2.1 p=true↔T5 .u8 (v1 / 2^min p IntKind.u8.bits) 1=1:=by rw [hw]; exact decide_eq_true_iff
  simp only [j7,Tree.holds,e1,jd,sL];refine ⟨λ c=>⟨by omega,λ _=>⟨λ d=>⟨λ e=>⟨by omega,λ _=>⟨F1.2 ⟨by omega,by omega⟩,λ _=>?_⟩⟩,λ e=>⟨F1.2 ⟨by omega,by omega⟩,λ _=>?_⟩⟩,λ d=>⟨F1.2 ⟨by omega,by omega⟩,λ _=>?_⟩⟩⟩,λ c=>?_⟩
  . have:=ih1 (by omega);rw [show M3 w Q6 (p+1)=M3 w Q6 p++[(p:Int)] from if_pos ⟨hm.2 d,by simpa using e⟩] at this;exact this
  . have:=ih1 (by omega);rw [show M3 w Q6 (p+1)=M3 w Q6 p from if_neg (λ h=>h.2 (by simpa using e))] at this;exact this
  . have:=ih1 (by omega);rw [show M3 w Q6 (p+1)=M3 w Q6 p from if_neg (λ h=>d (hm.1 h.1))] at this;exact this
  . obtain rfl:p=n.toNat:=by omega
    rfl
theorem PS {w:f8} {d:H7} (he:(T3 w d).2=0) (hd:d.1=1\/d.1=4):0<=d.2.1/\d.2.1<(w.2.1.length:Int):=by
  have hk:¬ known w d.2.1≠0:=by
    unfold T3 at he;rcases hd with hd|hd
    . rw [if_pos hd,uO] at he;by_cases a:K7 w d.2.1≠0
      . rw [if_pos a] at he; exact absurd he a
      . unfold K7 at a;split at a
        . rename_i h; exact absurd h a
        . rename_i h; exact h
    . rw [if_neg (by omega),if_neg (by omega),if_neg (by omega),if_pos hd,vw] at he;split at he
      . rename_i h; exact absurd he h
      . rename_i h; exact h
  exact IX.1 hk
def yj (s:vu) (p:Nat):List C8:=s.2.1.getD p []
structure Gk (n:Int) (i:Nat) (s:vu):Prop where
  ok:Ok (16*i) (yj s) s.1
  len:s.1.2.1.length=n.toNat
  said:s.2.1.length=n.toNat
  L9:s.2.2.length<=i
  each:∀ p,(yj s p).length<=i
  Q6:∀ p:Nat,p<n.toNat->(s.1.2.1.getD p j5).1=decide ((p:Int)∈s.2.2)
theorem XO {n:Int} (hn:1<=n/\n<=6) {i:Nat} {s:vu} (h:Gk n i s) (d:H7):Gk n (i+1) (xO n s d):=by
  have hd:=HD h.ok d;have nZ:16*i+16=16*(i+1):=by omega
  have hlen:=h.len;rw [xO];by_cases c:(T3 s.1 d).2≠0\/d.2.1<0\/n<=d.2.1
  . rw [if_pos c];have h1:¬ (d.1=1/\(T3 s.1 d).2=0):=λ e=>by
      have:=PS e.2 (.inl e.1);rcases c with c|c|c
      . exact c e.2
      . omega
      . omega
    have h4:¬ (d.1=4/\(T3 s.1 d).2=0):=λ e=>by
      have:=PS e.2 (.inr e.1);rcases c with c|c|c
      . exact c e.2
      . omega
      . omega
    refine ⟨?_,hd.len.trans h.len,h.said,Nat.le_succ_of_le h.L9,λ p=>Nat.le_succ_of_le (h.each p),λ p hp=>?_⟩
    . have:=hd.ok;rw [wg,if_neg h1,nZ] at this;exact this
    . rw [hd.fal p (by omega),h.Q6 p hp,decide_eq_false (λ e:d.1=4/\_/\_=>h4 ⟨e.1,e.2.1⟩),Bool.or_false]
  . rw [if_neg c];have he:(T3 s.1 d).2=0:=Decidable.not_not.1 (λ e=>c (.inl e));have hw:0<=d.2.1/\d.2.1<n:=⟨Int.not_lt.1 (λ e=>c (.inr (.inl e))),Int.not_le.1 (λ e=>c (.inr (.inr e)))⟩;obtain ⟨q,hq⟩:∃ q:Nat,d.2.1=q:=⟨d.2.1.toNat,by omega⟩;have rM:q<s.2.1.length:=by rw [h.said]; omega
    have eH:∀ x:List C8,yj (((T3 s.1 d).1,s.2.1.set q x,s.2.2):vu)=vq (yj s) q x:=λ x=>by
      funext p
      show (s.2.1.set q x).getD p []=_;unfold vq;rw [List.getD_eq_getElem?_getD,List.getElem?_set];by_cases e:p=q
      . subst e; rw [if_pos rfl,if_pos rfl,if_pos rM]; rfl
      . rw [if_neg (Ne.symm e),if_neg e];show _=s.2.1.getD p [];rw [List.getD_eq_getElem?_getD]
    rw [hq];refine ⟨?_,hd.len.trans h.len,?_,?_,λ p=>?_,λ p hp=>?_⟩
    . have:=hd.ok;rw [nZ] at this;by_cases e:d.1=1
      . rw [wg,if_pos ⟨e,he⟩,hq] at this;rw [if_pos e];have h2:=eH (s.2.1.getD q []++[d.2.2.2.1]);show Ok _ (yj (((T3 s.1 d).1,s.2.1.set q (s.2.1.getD q []++[d.2.2.2.1]),s.2.2):vu)) _;rw [h2];exact this
      . rw [wg,if_neg (λ c=>e c.1)] at this;rw [if_neg e];exact this
    . show (if d.1=1 then _ else _:List (List C8)).length=_
      split
      . rw [List.length_set]; exact h.said
      . exact h.said
    . show (if d.1=4 then _ else _:List Int).length<=_;have:=h.L9
      split
      . rw [List.length_append]; simp only [List.length_singleton]; omega
      . omega
    . show ((if d.1=1 then s.2.1.set q (s.2.1.getD q []++[d.2.2.2.1]) else s.2.1).getD p []).length<=_;have h3:=h.each p;have h4:=h.each q
      split
      . have h2:=congrFun (eH (s.2.1.getD q []++[d.2.2.2.1])) p;have h2:(s.2.1.set q (s.2.1.getD q []++[d.2.2.2.1])).getD p []=vq (yj s) q (s.2.1.getD q []++[d.2.2.2.1]) p:=h2;rw [h2];unfold vq
        split
        . rw [List.length_append]; simp only [List.length_singleton];have h4:(s.2.1.getD q []).length<=i:=h4;omega
        . omega
      . have h3:(s.2.1.getD p []).length<=i:=h3;omega
    . show ((T3 s.1 d).1.2.1.getD p j5).1=decide ((p:Int)∈(if d.1=4 then s.2.2++[(q:Int)] else s.2.2));rw [hd.fal p (by omega),h.Q6 p hp];by_cases e:d.1=4
      . rw [if_pos e];by_cases e2:q=p
        . subst e2;rw [decide_eq_true (p:=d.1=4/\(T3 s.1 d).2=0/\d.2.1=(q:Int)) ⟨e,he,hq⟩,Bool.or_true,decide_eq_true (List.mem_append_right _ (List.mem_singleton.2 rfl))]
        . rw [decide_eq_false (λ c:d.1=4/\_/\_=>e2 (by have:=c.2.2; omega)),Bool.or_false];apply decide_eq_decide.2;rw [List.mem_append,List.mem_singleton];constructor
          . exact .inl
          . rintro (h|h)
            . exact h
            . exact absurd h (by omega)
      . rw [if_neg e,decide_eq_false (λ c:d.1=4/\_/\_=>e c.1),Bool.or_false]
theorem CW {n:Int} (hn:1<=n/\n<=6) (l:List H7):∀ i,Gk n i (G0 n l i)
  | 0=>by
    have hl:(xZ n).2.1.length=n.toNat:=List.length_replicate ..;have hs:yj (G0 n l 0)=λ _=>[]:=by
      funext p
      show (List.replicate n.toNat ([]:List C8)).getD p []=[];rw [List.getD_eq_getElem?_getD,List.getElem?_replicate]
      split<;>rfl
    refine ⟨by rw [hs]; exact TG hn,hl,List.length_replicate ..,Nat.le_refl _,λ p=>(by rw [hs]; exact Nat.le_refl _),λ p hp=>?_⟩;show ((List.replicate n.toNat j5).getD p j5).1=_;rw [Ob]; rfl
  | i+1=>XO hn (CW hn l i) _
theorem Py {n:Int} {s:vu} {d:H7} (h:(T3 s.1 d).2≠0\/d.2.1<0\/n<=d.2.1):xO n s d=((T3 s.1 d).1,s.2):=by rw [xO]; exact if_pos h
theorem Oj {n:Int} {s:vu} {d:H7} (h1:(T3 s.1 d).2=0) (h2:¬ d.2.1<0) (h3:¬ n<=d.2.1):xO n s d=((T3 s.1 d).1,if d.1=1 then s.2.1.set d.2.1.toNat (s.2.1.getD d.2.1.toNat []++[d.2.2.2.1]) else s.2.1,if d.1=4 then s.2.2++[d.2.1] else s.2.2):=by
  rw [xO]; exact if_neg (λ h=>h.elim (λ e=>e h1) (λ h=>h.elim h2 h3))
attribute [local irreducible] T3 in
set_option maxHeartbeats 4000000 in
theorem b3G:Hu.Valid Tryz.prog 23:=by
  refine o7.o5 JQ rfl rfl Tryz.func23 (c:=d8 Tryz.prog 23) rfl rfl JU rfl ?_;rintro ⟨(n:Int),(l:List H7),⟨⟩⟩ ⟨(hn:1<=n/\n<=6),(hl:l.length<=1048576)⟩ -
  refine j6 (n:=1000) JQ JU ?_;refine i6 (YR n l) ?_;have jd:Ty.wb (.d0 true .str)=24:=rfl;simp only [j7,Tree.holds,jd,sL];refine ⟨hn,λ _=>⟨⟨by omega,by omega,by omega,by omega⟩,λ _=>?_⟩⟩;have hW:=CW hn l;show Go.Ex.Reach Bd Tryz.f23 (some (G0 n l l.length).1,(G0 n l l.length).2.1,(G0 n l l.length).2.2,true,()) () (.code (f9 (d8 Tryz.prog 23) 7).1::.inLoop (f9 (d8 Tryz.prog 23) 7).1::(f9 (d8 Tryz.prog 23) 7).2) (JR n l (l.length:Int) ((0:Nat):Int) (G0 n l 0).1.1.1 (G0 n l 0).1.1.2.1 (G0 n l 0).1.2.1 (G0 n l 0).1.2.2.1 (G0 n l 0).1.2.2.2.1 (G0 n l 0).2.1 (G0 n l 0).2.2);refine Reach.M9 JQ JU (λ i:Nat=>JR n l (l.length:Int) (i:Int) (G0 n l i).1.1.1 (G0 n l i).1.1.2.1 (G0 n l i).1.2.1 (G0 n l i).1.2.2.1 (G0 n l i).1.2.2.2.1 (G0 n l i).2.1 (G0 n l i).2.2) (λ i=>i<=l.length) (λ i=>l.length - i) 1000 (λ _=>⟨u7 rfl,u7 rfl⟩) ?_ 0 (Nat.zero_le _);rintro i k1 - ih;have k1:i<=l.length:=k1;have hS:=hW i;have ih1:∀ s':vu,i<l.length->s'=xO n (G0 n l i) (Cz i (l.getD i Ck))->_:=λ s' h e=>by
    have:=ih (i+1) (by show i+1<=l.length; omega) (by show l.length - (i+1)<l.length - i; omega);rw [show G0 n l (i+1)=s' from e.symm] at this;exact this
  generalize hs:G0 n l i=s at hS ih1 ⊢;have hg:=(hS.ok.zR (by omega));have hle:s.2.1.length=n.toNat:=hS.said;have gL:s.2.2.length<=i:=hS.L9;have sU:∀ p,(s.2.1.getD p []).length<=i:=hS.each;refine i6 (b7F ..) ?_;have e1:((i:Nat):Int)+1=((i+1:Nat):Int):=by omega
  have om:Ty.wb .str=16:=rfl;have rv:Ty.wb (.int .i64)=8:=rfl;have jo:maxLen=9223372036854775807:=by decide
  have ff:(C5 (Int.tmod (i:Int) 10)).length<=20:=BF (by have:=Int.tmod_nonneg (a:=(i:Int)) 10 (by omega); omega) (by have:=Int.tmod_lt_of_pos (i:Int) (show (0:Int)<10 by decide); omega);have lz:(C5 (i:Int)).length<=20:=BF (by omega) (by omega);obtain ⟨d,hd⟩:∃ d,d=l.getD i Ck:=⟨_,rfl⟩;rw [<- hd] at ih1;simp only [Ck] at hd;simp only [j7,Tree.holds,e1,om,rv,sL];rw [<- hd];clear hd;obtain ⟨dk,dw,dh,dt,⟨⟩⟩:=d;obtain ⟨w,sd,fl⟩:=s;have dv:-9223372036854775808<=((i+1:Nat):Int)/\((i+1:Nat):Int)<=9223372036854775807:=⟨by omega,by omega⟩;have pC:=sU dw.toNat;simp only at hle gL pC;dsimp only at hg ⊢;refine ⟨λ c=>⟨by omega,λ _=>⟨λ c1=>?_,λ c1=>?_⟩⟩,λ c=>?_⟩
  . have jW:Cz i (dk,dw,dh,dt,())=(dk,dw,dh,Ce++C5 (Int.tmod i 10)++spT++C5 i,()):=if_pos c1;have ih1:=λ s' h e=>ih1 s' h (by rw [jW]; exact e);have wy:=Py (n:=n) (s:=(w,sd,fl)) (d:=(dk,dw,dh,Ce++C5 (Int.tmod i 10)++spT++C5 i,()));have wn:=Oj (n:=n) (s:=(w,sd,fl)) (d:=(dk,dw,dh,Ce++C5 (Int.tmod i 10)++spT++C5 i,()));refine ⟨by decide,λ _=>⟨?_,λ _=>⟨?_,λ _=>⟨?_,λ _=>⟨hg,λ _=>?_⟩⟩⟩⟩⟩
    . rw [jo]; omega
    . simp only [List.length_append,List.length_cons,List.length_nil,jo]; omega
    . simp only [List.length_append,List.length_cons,List.length_nil,jo]; omega
    refine ⟨λ e=>⟨dv,λ _=>?_⟩,λ e=>⟨λ b=>⟨dv,λ _=>?_⟩,λ b=>⟨λ b2=>⟨dv,λ _=>?_⟩,λ b2=>⟨λ k1=>⟨by omega,λ _=>⟨by omega,λ _=>⟨⟨by omega,by omega⟩,λ _=>⟨λ k4=>by omega,λ k4=>⟨dv,λ _=>?_⟩⟩⟩⟩⟩,λ k1=>absurd c1 k1⟩⟩⟩⟩
    . exact ih1 (_,_,_) (by omega) (wy (.inl e)).symm
    . exact ih1 (_,_,_) (by omega) (wy (.inr (.inl b))).symm
    . exact ih1 (_,_,_) (by omega) (wy (.inr (.inr b2))).symm
    . exact ih1 (_,_,_) (by omega) (by
        rw [wn (by simpa using e) b b2];simp only;rw [if_pos c1,if_neg k4]; rfl)
  . have jW:Cz i (dk,dw,dh,dt,())=(dk,dw,dh,dt,()):=if_neg c1;have ih1:=λ s' h e=>ih1 s' h (by rw [jW]; exact e);have wy:=Py (n:=n) (s:=(w,sd,fl)) (d:=(dk,dw,dh,dt,()));have wn:=Oj (n:=n) (s:=(w,sd,fl)) (d:=(dk,dw,dh,dt,()));refine ⟨hg,λ _=>?_⟩;refine ⟨λ e=>⟨dv,λ _=>?_⟩,λ e=>⟨λ b=>⟨dv,λ _=>?_⟩,λ b=>⟨λ b2=>⟨dv,λ _=>?_⟩,λ b2=>⟨λ k1=>absurd k1 c1,λ k1=>⟨λ k4=>⟨⟨by omega,by omega⟩,λ _=>⟨dv,λ _=>?_⟩⟩,λ k4=>⟨dv,λ _=>?_⟩⟩⟩⟩⟩⟩
    . exact ih1 (_,_,_) (by omega) (wy (.inl e)).symm
    . exact ih1 (_,_,_) (by omega) (wy (.inr (.inl b))).symm
    . exact ih1 (_,_,_) (by omega) (wy (.inr (.inr b2))).symm
    . exact ih1 (_,_,_) (by omega) (by
        rw [wn (by simpa using e) b b2];simp only;rw [if_neg c1,if_pos k4]; rfl)
    . exact ih1 (_,_,_) (by omega) (by
        rw [wn (by simpa using e) b b2];simp only;rw [if_neg c1,if_neg k4])
  . obtain rfl:i=l.length:=by omega
    rw [hs]; rfl
def Cf:o7:={ ps:=[.v (.d0 false r7),.v (.d0 false r7)],rs:=[.bool],pre:=λ _=>True,fn:=λ x=>(decide ((show List (s7) from x.1)=(show List (s7) from x.2.1)),()),out:=λ _=>() }
noncomputable def Cq:Env:={ P:=Tryz.prog,tt:=tt,C7:=[],res:=[Go.ResultVar.tmp 4],rs:=[Ty.bool],ps:=[PK.v K6,PK.v K6],B0:=[(4,[(0,none),(1,none),(12,none),(13,none)])],nt:=26 }
theorem HO:w7 Cq:=x8 p7 trivial
theorem HX:C2 Cq Tryz.f21:=⟨rfl,rfl⟩
theorem TX (x0:List (Int×yY×Unit)) (x1:List (Int×yY×Unit)):exec Cq 1000 [.code (d8 Tryz.prog 21)] (s9 Cf.ps ((x0,x1,()))) =
  cond (decide ((↑(List.length x0):Int)≠(↑(List.length x1):Int))) (.ret ((false,()))) (.ctL (f9 (d8 Tryz.prog 21) 4) (St.mk [(0,AV.val K6 x0),(1,AV.val K6 x1),(12,AV.val e8 (↑(List.length x0):Int)),(13,AV.val e8 (0:Int))] [])):=by kernel_rfl
def MY (v0:List (Int×yY×Unit)) (v1:List (Int×yY×Unit)) (v12:Int) (vC:Int):St:=St.mk [(0,AV.val K6 v0),(1,AV.val K6 v1),(12,AV.val e8 v12),(13,AV.val e8 vC)] []
theorem Vx (v0:List (Int×yY×Unit)) (v1:List (Int×yY×Unit)) (v12:Int) (vC:Int):exec Cq 1000 (.code (f9 (d8 Tryz.prog 21) 4).1::.inLoop (f9 (d8 Tryz.prog 21) 4).1::(f9 (d8 Tryz.prog 21) 4).2) (MY v0 v1 v12 vC) =
  cond (decide (vC<v12)) (.f7 ((0:Int)<=vC/\vC<(↑(List.length v0):Int)) (.f7 ((0:Int)<=vC/\vC<(↑(List.length v1):Int)) (cond (!Z3 r7 (List.getD v0 (Int.toNat vC) ((0:Int),[],())) (List.getD v1 (Int.toNat vC) ((0:Int),[],()))) (.ret ((false,()))) (.f7 (r9 IntKind.i64 (vC+(1:Int))) (.ctL (f9 (d8 Tryz.prog 21) 4) (St.mk [(0,AV.val K6 v0),(1,AV.val K6 v1),(12,AV.val e8 v12),(13,AV.val e8 (vC+(1:Int)))] [])))))) (.ret ((true,()))):=by kernel_rfl
theorem Rr:Cf.Valid Tryz.prog 21:=by
  refine o7.o5 HO rfl rfl Tryz.func21 (c:=d8 Tryz.prog 21) rfl rfl HX rfl ?_;rintro ⟨(l:List (s7)),(m:List (s7)),⟨⟩⟩ - ⟨⟨hl,-⟩,-⟩;have hl:l.length<=9223372036854775807:=hl;refine j6 (n:=1000) HO HX ?_;refine i6 (TX l m) ?_;have fin:∀ {b:Bool},(b=true↔l=m)->((b,()):Bool×Unit)=(decide (l=m),()):=λ {b} h=>by
    cases b with
    | true=>rw [decide_eq_true (h.1 rfl)]
    | false=>rw [decide_eq_false (λ e=>by cases h.2 e)]
  simp only [j7,Tree.holds,sL];refine ⟨λ c=>fin ⟨λ h=>(by cases h),λ h=>absurd (congrArg (λ q:List (s7)=>(q.length:Int)) h) c⟩,λ c=>?_⟩;refine Reach.M9 HO HX (λ i:Nat=>MY l m (l.length:Int) (i:Int)) (λ i=>i<=l.length/\∀ j,j<i->l.getD j (0,[],())=m.getD j (0,[],()))
    (λ i=>l.length - i) 1000 (λ _=>⟨u7 rfl,u7 rfl⟩) ?_ 0 ⟨Nat.zero_le _,λ j hj=>by omega⟩
  rintro i ⟨k1,k2⟩ - ih;refine i6 (Vx ..) ?_;have c:l.length=m.length:=by omega
  simp only [j7,Tree.holds,sL];refine ⟨λ d1=>⟨by omega,λ _=>⟨by omega,λ _=>⟨λ d2=>fin ⟨λ h=>(by cases h),λ h=>absurd (congrArg (λ q:List (s7)=>q.getD i (0,[],())) h) (WY d2)⟩,λ d2=>⟨by omega,λ _=>ih (i+1) ⟨by omega,λ j hj=>?_⟩ (by omega)⟩⟩⟩⟩,λ d1=>fin ⟨λ _=>eq_of_getD c (λ j hj=>k2 j (by omega)),λ _=>rfl⟩⟩;rcases Nat.lt_or_ge j i with h|h
  . exact k2 j h
  . obtain rfl:j=i:=by omega
    exact On.1 d2
noncomputable def T6:{ f:Int->List H7->Nat->vu // f=G0 }:=Classical.choice ⟨⟨G0,rfl⟩⟩
noncomputable def xy:{ f:Nat->f8->f8×Bool // f=I7 }:=Classical.choice ⟨⟨I7,rfl⟩⟩
def SS (g:Int->List H7->Nat->vu):o7:={ ps:=[.v e8,.v (.d0 false va)],rs:=[.box true none s6,.d0 true (.d0 true .str),.d0 true e8,.bool],pre:=λ x=>(LE.le (α:=Int) 1 x.1/\LE.le (α:=Int) x.1 6)/\List.length (α:=H7) x.2.1<=1048576,fn:=λ x=>(some (g x.1 x.2.1 (List.length (α:=H7) x.2.1)).1,(g x.1 x.2.1 (List.length (α:=H7) x.2.1)).2.1,(g x.1 x.2.1 (List.length (α:=H7) x.2.1)).2.2,true,()),out:=λ _=>() }
noncomputable def Ap:o7:={ ps:=[.v e8,.v (.d0 false va)],rs:=[.box true none s6,.d0 true (.d0 true .str),.d0 true e8,.bool],pre:=λ x=>(LE.le (α:=Int) 1 x.1/\LE.le (α:=Int) x.1 6)/\List.length (α:=H7) x.2.1<=1048576,fn:=λ x=>(some (T6.1 x.1 x.2.1 (List.length (α:=H7) x.2.1)).1,(T6.1 x.1 x.2.1 (List.length (α:=H7) x.2.1)).2.1,(T6.1 x.1 x.2.1 (List.length (α:=H7) x.2.1)).2.2,true,()),out:=λ _=>() }
theorem RI:Ap.Valid Tryz.prog 23:=by
  have e:Ap=Hu:=(show Ap=SS T6.1 from rfl).trans (by rw [T6.2]; rfl);rw [e]; exact b3G
def Ua (g:Nat->f8->f8×Bool):o7:={ ps:=[.rw s6,.v e8],rs:=[.bool],pre:=λ x=>Fit x.2.1 x.1,fn:=λ x=>((g (Int.toNat x.2.1) x.1).2,()),out:=λ x=>((g (Int.toNat x.2.1) x.1).1,()) }
noncomputable def CQ:o7:={ ps:=[.rw s6,.v e8],rs:=[.bool],pre:=λ x=>Fit x.2.1 x.1,fn:=λ x=>((xy.1 (Int.toNat x.2.1) x.1).2,()),out:=λ x=>((xy.1 (Int.toNat x.2.1) x.1).1,()) }
theorem b3M:CQ.Valid Tryz.prog 16:=by
  have e:CQ=HC:=(show CQ=Ua xy.1 from rfl).trans (by rw [xy.2]; rfl);rw [e]; exact b1I
abbrev X1:List H7:=List.set [((0:Int),(0:Int),(0:Int),([]:yY),())] (Int.toNat ((0:Nat):Int)) (1,1,0,[],())
def Hs:o7:={ ps:=[],rs:=[.bool],pre:=λ _=>True,fn:=λ _=>(true,()),out:=λ _=>() }
noncomputable def Bc:Env:={ P:=Tryz.prog,tt:=tt,C7:=[(23,Ap),(16,CQ),(19,BO),(21,Cf)],res:=[Go.ResultVar.tmp 0],rs:=[Ty.bool],ps:=[],B0:=[(5,[(1,none),(2,some (Ty.d0 true (Ty.d0 true Ty.str))),(30,none)])],nt:=54 }
theorem JO:w7 Bc:=x8 p7 ⟨RI,b3M,QD,Rr,trivial⟩
theorem JT:C2 Bc Tryz.f12:=⟨rfl,rfl⟩
theorem YQ:exec Bc 1000 [.code (d8 Tryz.prog 12)] (s9 Hs.ps (())) =
  .f7 (((1:Int)<=(3:Int)/\(3:Int)<=(6:Int))/\List.length X1<=1048576) (.f7 ((0:Int)<=(1:Int)/\(1:Int)<(↑(List.length (Prod.fst (Prod.snd (Subtype.val T6 (3:Int) X1 (List.length X1))))):Int)) (cond (decide ((↑(List.length (List.getD (Prod.fst (Prod.snd (Subtype.val T6 (3:Int) X1 (List.length X1)))) (Int.toNat (1:Int)) [])):Int)≠(1:Int))) (.ret ((false,()))) (.f7 (Fit (50:Int) (Prod.fst (Subtype.val T6 (3:Int) X1 (List.length X1)))) (cond (!Prod.snd (Subtype.val xy (Int.toNat (50:Int)) (Prod.fst (Subtype.val T6 (3:Int) X1 (List.length X1))))) (.ret ((false,()))) (.ctL (f9 (d8 Tryz.prog 12) 5) (St.mk [(1,AV.ptr 1011 []),(2,AV.at_ 1000002 []),(30,AV.val e8 (0:Int))] [(1011,g9.var s6 (Prod.fst (Subtype.val xy (Int.toNat (50:Int)) (Prod.fst (Subtype.val T6 (3:Int) X1 (List.length X1)))))),(1000002,g9.own (Ty.d0 true (Ty.d0 true Ty.str)) (Prod.fst (Prod.snd (Subtype.val T6 (3:Int) X1 (List.length X1)))))])))))):=by kernel_rfl
def JP (v30:Int) (cd:Int) (bL:Int) (bV:List n7) (bK:List yY) (bu:List yY) (eD:List (List yY)):St:=St.mk [(1,AV.ptr 1011 []),(2,AV.at_ 1000002 []),(30,AV.val e8 v30)] [(1011,g9.var s6 ((cd,bL,()),bV,bK,bu,())),(1000002,g9.own (Ty.d0 true (Ty.d0 true Ty.str)) eD)]
theorem b7G (v30:Int) (cd:Int) (bL:Int) (bV:List n7) (bK:List yY) (bu:List yY) (eD:List (List yY)):exec Bc 1000 (.code (f9 (d8 Tryz.prog 12) 5).1::.inLoop (f9 (d8 Tryz.prog 12) 5).1::(f9 (d8 Tryz.prog 12) 5).2) (JP v30 cd bL bV bK bu eD) =
  cond (decide (v30<(3:Int))) (.f7 (List.length bV<=6/\List.length (U0 ((cd,bL,()),bV,bK,bu,()) v30)<=5864062014805) (cond (decide (Prod.fst (Prod.snd (I5 ((cd,bL,()),bV,bK,bu,()) v30))≠(0:Int))) (.ret ((false,()))) (.f7 ((0:Int)<=(1:Int)/\(1:Int)<(↑(List.length eD):Int)) (.f7 ((0:Int)<=(0:Int)/\(0:Int)<(↑(List.length (List.getD eD (Int.toNat (1:Int)) [])):Int)) (.f7 (True) (cond (!decide (Prod.fst (I5 ((cd,bL,()),bV,bK,bu,()) v30)=List.set [((0:Int),[],())] (Int.toNat (↑0:Int)) ((1:Int),List.getD (List.getD eD (Int.toNat (1:Int)) []) (Int.toNat (0:Int)) [],()))) (.ret ((false,()))) (.f7 (r9 IntKind.i64 (v30+(1:Int))) (.ctL (f9 (d8 Tryz.prog 12) 5) (St.mk [(1,AV.ptr 1011 []),(2,AV.at_ 1000002 []),(30,AV.val e8 (v30+(1:Int)))] [(1011,g9.var s6 ((cd,bL,()),bV,bK,bu,())),(1000002,g9.own (Ty.d0 true (Ty.d0 true Ty.str)) eD)]))))))))) (.ret ((true,()))):=by kernel_rfl
def xq:H7:=(1,1,0,[],())
theorem SL:(G0 3 [xq] 1).2.1.length=3/\((G0 3 [xq] 1).2.1.getD 1 []).length=1/\(I7 50 (G0 3 [xq] 1).1).2=true:=by decide +kernel
theorem SM:(List.range 3).all (λ p=>decide (I5 (I7 50 (G0 3 [xq] 1).1).1 (p:Int)=([(1,((G0 3 [xq] 1).2.1.getD 1 []).getD 0 [],())],0,())))=true:=by decide +kernel
theorem Ol {said:Nat->List C8}:∀ (k:Nat) {c:Nat} {w:f8},Ok c said w->Ok (c+16*k) said (I7 k w).1
  | 0,_,_,h=>h
  | k+1,c,w,h=>by
    rw [I7]
    split
    . exact ⟨h.mem,h.sz.mono (by omega),h.inv⟩
    split
    . have:=h.Fy 0 1;exact ⟨this.mem,this.sz.mono (by omega),this.inv⟩
    . have:=Ol k (h.Fy 0 1);rw [show c+16*(k+1)=c+16+16*k by omega];exact this
attribute [local irreducible] G0 I7 I5 in
theorem b3H:Hs.Valid Tryz.prog 12:=by
  refine o7.o5 JO rfl rfl Tryz.func12 (c:=d8 Tryz.prog 12) rfl rfl JT rfl ?_;rintro ⟨⟩ - -
  refine j6 (n:=1000) JO JT ?_;refine i6 (YQ ) ?_;have hw:T6.1 3 X1 (List.length X1)=G0 3 [xq] 1:=by rw [T6.2]; rfl
  obtain ⟨s,hs⟩:∃ s,s=G0 3 [xq] 1:=⟨_,rfl⟩;obtain ⟨ha,hb,hc⟩:=SL;have hd:=SM;have aM:=(CW (n:=3) (by decide) [xq] 1).ok;rw [hw];rw [<- hs] at ha hb hc hd aM ⊢;obtain ⟨u,hu⟩:∃ u,u=(I7 50 s.1).1:=⟨_,rfl⟩;have sW:xy.1 (Int.toNat 50) s.1=I7 50 s.1:=by rw [xy.2]; rfl
  have kx:=Ol 50 aM;rw [sW];rw [<- hu] at kx hd;rw [<- hu];have mA:(s.2.1.length:Int)=3:=by omega
  have cT:((s.2.1.getD (Int.toNat 1) []).length:Int)=1:=by show ((s.2.1.getD 1 []).length:Int)=1; omega
  simp only [j7,Tree.holds,mA,cT,hc,sL];refine ⟨⟨by omega,by decide⟩,λ _=>⟨by omega,λ _=>⟨λ c=>absurd rfl c,λ _=>⟨⟨by decide,⟨_,_,aM,by decide⟩⟩,λ _=>⟨λ c=>absurd c (by decide),?_⟩⟩⟩⟩⟩;suffices go:Go.Ex.Reach Bc Tryz.f12 (true,()) () (.code (f9 (d8 Tryz.prog 12) 5).1::.inLoop (f9 (d8 Tryz.prog 12) 5).1::(f9 (d8 Tryz.prog 12) 5).2) (JP ((0:Nat):Int) u.1.1 u.1.2.1 u.2.1 u.2.2.1 u.2.2.2.1 s.2.1) by exact go
  refine Reach.M9 JO JT (λ p:Nat=>JP (p:Int) u.1.1 u.1.2.1 u.2.1 u.2.2.1 u.2.2.2.1 s.2.1) (λ p=>p<=3) (λ p=>3 - p) 1000 (λ _=>⟨u7 rfl,u7 rfl⟩) ?_ 0 (Nat.zero_le _);rintro p k1 - ih;have k1:p<=3:=k1;refine i6 (b7G ..) ?_;have e1:((p:Nat):Int)+1=((p+1:Nat):Int):=by omega
  have ih1:p<3->_:=λ h=>ih (p+1) (by show p+1<=3; omega) (by show 3 - (p+1)<3 - p; omega);have hv:p<3->I5 ((u.1.1,u.1.2.1,()),u.2.1,u.2.2.1,u.2.2.2.1,()) (p:Int)=([(1,(s.2.1.getD 1 []).getD 0 [],())],0,()):=λ h=>of_decide_eq_true (List.all_eq_true.1 hd p (List.mem_range.2 h));simp only [j7,Tree.holds,e1,sL];refine ⟨λ c=>⟨⟨kx.L9,Nat.le_trans (kx.sz.log p) (by omega)⟩,λ _=>⟨λ d=>?_,λ _=>⟨by omega,λ _=>⟨by omega,λ _=>⟨λ e=>?_,λ _=>⟨F1.2 ⟨by omega,by omega⟩,λ _=>ih1 (by omega)⟩⟩⟩⟩⟩⟩,λ c=>rfl⟩
  . rw [hv (by omega)] at d; exact absurd rfl d
  . rw [hv (by omega)] at e; exact absurd rfl e
theorem HH {w:f8} {Q6:List Int}:∀ {k:Nat} {x:Int},x∈M3 w Q6 k->∃ j:Nat,x=j/\j<k/\V1 w.1.2.1 j=true/\¬ (j:Int)∈Q6
  | 0,x,h=>by cases h
  | k+1,x,h=>by
    rw [M3] at h;split at h
    . rename_i c;rcases List.mem_append.1 h with h|h
      . obtain ⟨j,h1,h2,h3⟩:=HH h;exact ⟨j,h1,by omega,h3⟩
      . rw [List.mem_singleton] at h;exact ⟨k,h,by omega,c.1,c.2⟩
    . obtain ⟨j,h1,h2,h3⟩:=HH h;exact ⟨j,h1,by omega,h3⟩
theorem Uw {w:f8} {Q6:List Int} {k i:Nat} (hi:i<(M3 w Q6 k).length):∃ j:Nat,(M3 w Q6 k).getD i 0=j/\j<k/\V1 w.1.2.1 j=true/\¬ (j:Int)∈Q6 :=
  HH (by rw [List.getD_eq_getElem?_getD,List.getElem?_eq_getElem hi]; exact List.getElem_mem _)
theorem WE {c:Nat} {said:Nat->List C8} {w:f8} (h:Ok c said w):∃ T:List C9,∀ j:Nat,j<w.2.1.length->V1 w.1.2.1 j=true->U0 w j <+: T:=by
  obtain ⟨B,S,Q,hI⟩:=h.inv;refine ⟨B++Q.map vI,λ j hj hv=>?_⟩;obtain ⟨⟨m,hm⟩,-⟩:=hI.mem j hj hv;show (w.2.1.getD j j5).2.1 <+: _;rw [hm.log];exact (List.prefix_append_right_inj _).2 (List.IsPrefix.map vI (List.take_prefix ..))
theorem VQ {α:Type} {a b T:List α} (ha:a <+: T) (hb:b <+: T) {k:Nat} (h1:k<=a.length) (h2:k<=b.length):a.take k=b.take k:=by
  rw [List.prefix_iff_eq_take.1 ha,List.prefix_iff_eq_take.1 hb,List.take_take,List.take_take,Nat.min_eq_left h1,Nat.min_eq_left h2]
theorem PL {α:Type} {f:α->Nat} (h:∀ x,1<=f x):∀ l:List α,l.length<=X4 f l
  | []=>Nat.zero_le _
  | x::l=>by have h1:=h x; have h2:=PL h l; simp only [X4,List.length_cons]; omega
theorem WW {n:Int} {l:List H7} (hp:yU [e8,.d0 false va] (n,l,())<=1048576):l.length<=1048576:=by
  have h2:=PL (f:=Ty.T4 va) (λ x=>by show 1<=1+_; omega) l;have h1:Ty.T4 e8 n+((X4 (Ty.T4 va) l+1)+0)<=1048576:=hp;omega
theorem Md {w:f8} {p:Nat} (h:p<w.2.1.length):I5 w p=(U0 w p,0,()):=by
  unfold I5;exact if_neg (λ c=>IX.2 ⟨by omega,by omega⟩ c)
def Qx:o7:=Lq [e8,.d0 false va]
noncomputable def yg:Env:={ P:=Tryz.prog,tt:=tt,C7:=[(12,Hs),(13,Er),(23,Ap),(24,EV),(19,BO),(21,Cf)],res:=[Go.ResultVar.tmp 4],rs:=[Ty.bool],ps:=[PK.v e8,PK.v (Ty.d0 false va)],B0:=[(8,[(0,none),(5,none),(7,some Is),(35,some Is),(36,none),(37,none)]),(11,[(0,none),(5,none),(7,some Is),(10,none),(35,some Is),(36,none),(37,none),(44,some Is),(45,none),(46,none)])],nt:=85 }
theorem DF:w7 yg:=x8 p7 ⟨b3H,Yz,RI,ZO,QD,Rr,trivial⟩
theorem DG:C2 yg Tryz.f4:=⟨rfl,rfl⟩
theorem VA (x0:Int) (x1:List (Int×Int×Int×yY×Unit)):exec yg 1000 [.code (d8 Tryz.prog 4)] (s9 Qx.ps ((x0,x1,()))) =
  .f7 (True) (.f7 (True) (.f7 (((1:Int)<=L9 x0/\L9 x0<=(6:Int))/\List.length x1<=1048576) (.f7 ((0:Int)<=L9 x0/\L9 x0<=(6:Int)) (.ctL (f9 (d8 Tryz.prog 4) 8) (St.mk [(0,AV.val e8 (L9 x0)),(5,AV.ptr 1025 []),(7,AV.at_ 1000007 []),(35,AV.at_ 1000035 []),(36,AV.val e8 (↑(List.length (M3 (Prod.fst (Subtype.val T6 (L9 x0) x1 (List.length x1))) (Prod.snd (Prod.snd (Subtype.val T6 (L9 x0) x1 (List.length x1)))) (Int.toNat (L9 x0)))):Int)),(37,AV.val e8 (0:Int))] [(1025,g9.var s6 (Prod.fst (Subtype.val T6 (L9 x0) x1 (List.length x1)))),(1000007,g9.own Is (Prod.snd (Prod.snd (Subtype.val T6 (L9 x0) x1 (List.length x1))))),(1000035,g9.own Is (M3 (Prod.fst (Subtype.val T6 (L9 x0) x1 (List.length x1))) (Prod.snd (Prod.snd (Subtype.val T6 (L9 x0) x1 (List.length x1)))) (Int.toNat (L9 x0))))]))))):=by kernel_rfl
def Iy (v0:Int) (vO:Int) (v37:Int) (az:Int) (ar:Int) (aw:List n7) (aq:List yY) (ai:List yY) (bp:List Int) (db:List Int):St:=St.mk [(0,AV.val e8 v0),(5,AV.ptr 1025 []),(7,AV.at_ 1000007 []),(35,AV.at_ 1000035 []),(36,AV.val e8 vO),(37,AV.val e8 v37)] [(1025,g9.var s6 ((az,ar,()),aw,aq,ai,())),(1000007,g9.own Is bp),(1000035,g9.own Is db)]
theorem Wh (v0:Int) (vO:Int) (v37:Int) (az:Int) (ar:Int) (aw:List n7) (aq:List yY) (ai:List yY) (bp:List Int) (db:List Int):exec yg 1000 (.code (f9 (d8 Tryz.prog 4) 8).1::.inLoop (f9 (d8 Tryz.prog 4) 8).1::(f9 (d8 Tryz.prog 4) 8).2) (Iy v0 vO v37 az ar aw aq ai bp db) =
  cond (decide (v37<vO)) (.f7 ((0:Int)<=v37/\v37<(↑(List.length db):Int)) (.f7 ((0:Int)<=v0/\v0<=(6:Int)) (.ctL (f9 (d8 Tryz.prog 4) 11) (St.mk [(0,AV.val e8 v0),(5,AV.ptr 1025 []),(7,AV.at_ 1000007 []),(10,AV.val e8 (List.getD db (Int.toNat v37) (0:Int))),(35,AV.at_ 1000035 []),(36,AV.val e8 vO),(37,AV.val e8 v37),(44,AV.at_ 1000044 []),(45,AV.val e8 (↑(List.length (M3 ((az,ar,()),aw,aq,ai,()) bp (Int.toNat v0))):Int)),(46,AV.val e8 (0:Int))] [(1025,g9.var s6 ((az,ar,()),aw,aq,ai,())),(1000007,g9.own Is bp),(1000035,g9.own Is db),(1000044,g9.own Is (M3 ((az,ar,()),aw,aq,ai,()) bp (Int.toNat v0)))])))) (.ret ((true,()))):=by kernel_rfl
def II (v0:Int) (v10:Int) (vO:Int) (v37:Int) (zH:Int) (v46:Int) (az:Int) (ar:Int) (aw:List n7) (aq:List yY) (ai:List yY) (bp:List Int) (db:List Int) (bR:List Int):St:=St.mk [(0,AV.val e8 v0),(5,AV.ptr 1025 []),(7,AV.at_ 1000007 []),(10,AV.val e8 v10),(35,AV.at_ 1000035 []),(36,AV.val e8 vO),(37,AV.val e8 v37),(44,AV.at_ 1000044 []),(45,AV.val e8 zH),(46,AV.val e8 v46)] [(1025,g9.var s6 ((az,ar,()),aw,aq,ai,())),(1000007,g9.own Is bp),(1000035,g9.own Is db),(1000044,g9.own Is bR)]
theorem XQ (v0:Int) (v10:Int) (vO:Int) (v37:Int) (zH:Int) (v46:Int) (az:Int) (ar:Int) (aw:List n7) (aq:List yY) (ai:List yY) (bp:List Int) (db:List Int) (bR:List Int):exec yg 1000 (.code (f9 (d8 Tryz.prog 4) 11).1::.inLoop (f9 (d8 Tryz.prog 4) 11).1::(f9 (d8 Tryz.prog 4) 11).2) (II v0 v10 vO v37 zH v46 az ar aw aq ai bp db bR) =
  cond (decide (v46<zH)) (.f7 ((0:Int)<=v46/\v46<(↑(List.length bR):Int)) (.f7 (List.length aw<=6/\List.length (U0 ((az,ar,()),aw,aq,ai,()) v10)<=5864062014805) (.f7 (List.length aw<=6/\List.length (U0 ((az,ar,()),aw,aq,ai,()) (List.getD bR (Int.toNat v46) (0:Int)))<=5864062014805) (cond (decide (Prod.fst (Prod.snd (I5 ((az,ar,()),aw,aq,ai,()) v10))≠(0:Int))) (.ret ((false,()))) (cond (decide (Prod.fst (Prod.snd (I5 ((az,ar,()),aw,aq,ai,()) (List.getD bR (Int.toNat v46) (0:Int))))≠(0:Int))) (.ret ((false,()))) (.f7 ((0:Int)<=(0:Int)/\((0:Int)<=if (↑(List.length (Prod.fst (I5 ((az,ar,()),aw,aq,ai,()) (List.getD bR (Int.toNat v46) (0:Int))))):Int)<(↑(List.length (Prod.fst (I5 ((az,ar,()),aw,aq,ai,()) v10))):Int) then (↑(List.length (Prod.fst (I5 ((az,ar,()),aw,aq,ai,()) (List.getD bR (Int.toNat v46) (0:Int))))):Int) else (↑(List.length (Prod.fst (I5 ((az,ar,()),aw,aq,ai,()) v10))):Int))/\(if (↑(List.length (Prod.fst (I5 ((az,ar,()),aw,aq,ai,()) (List.getD bR (Int.toNat v46) (0:Int))))):Int)<(↑(List.length (Prod.fst (I5 ((az,ar,()),aw,aq,ai,()) v10))):Int) then (↑(List.length (Prod.fst (I5 ((az,ar,()),aw,aq,ai,()) (List.getD bR (Int.toNat v46) (0:Int))))):Int) else (↑(List.length (Prod.fst (I5 ((az,ar,()),aw,aq,ai,()) v10))):Int))<=(↑(List.length (Prod.fst (I5 ((az,ar,()),aw,aq,ai,()) v10))):Int)) (.f7 ((0:Int)<=(0:Int)/\((0:Int)<=if (↑(List.length (Prod.fst (I5 ((az,ar,()),aw,aq,ai,()) (List.getD bR (Int.toNat v46) (0:Int))))):Int)<(↑(List.length (Prod.fst (I5 ((az,ar,()),aw,aq,ai,()) v10))):Int) then (↑(List.length (Prod.fst (I5 ((az,ar,()),aw,aq,ai,()) (List.getD bR (Int.toNat v46) (0:Int))))):Int) else (↑(List.length (Prod.fst (I5 ((az,ar,()),aw,aq,ai,()) v10))):Int))/\(if (↑(List.length (Prod.fst (I5 ((az,ar,()),aw,aq,ai,()) (List.getD bR (Int.toNat v46) (0:Int))))):Int)<(↑(List.length (Prod.fst (I5 ((az,ar,()),aw,aq,ai,()) v10))):Int) then (↑(List.length (Prod.fst (I5 ((az,ar,()),aw,aq,ai,()) (List.getD bR (Int.toNat v46) (0:Int))))):Int) else (↑(List.length (Prod.fst (I5 ((az,ar,()),aw,aq,ai,()) v10))):Int))<=(↑(List.length (Prod.fst (I5 ((az,ar,()),aw,aq,ai,()) (List.getD bR (Int.toNat v46) (0:Int))))):Int)) (.f7 (True) (cond (!decide (n6 (0:Int) (if (↑(List.length (Prod.fst (I5 ((az,ar,()),aw,aq,ai,()) (List.getD bR (Int.toNat v46) (0:Int))))):Int)<(↑(List.length (Prod.fst (I5 ((az,ar,()),aw,aq,ai,()) v10))):Int) then (↑(List.length (Prod.fst (I5 ((az,ar,()),aw,aq,ai,()) (List.getD bR (Int.toNat v46) (0:Int))))):Int) else (↑(List.length (Prod.fst (I5 ((az,ar,()),aw,aq,ai,()) v10))):Int)) (Prod.fst (I5 ((az,ar,()),aw,aq,ai,()) v10))=n6 (0:Int) (if (↑(List.length (Prod.fst (I5 ((az,ar,()),aw,aq,ai,()) (List.getD bR (Int.toNat v46) (0:Int))))):Int)<(↑(List.length (Prod.fst (I5 ((az,ar,()),aw,aq,ai,()) v10))):Int) then (↑(List.length (Prod.fst (I5 ((az,ar,()),aw,aq,ai,()) (List.getD bR (Int.toNat v46) (0:Int))))):Int) else (↑(List.length (Prod.fst (I5 ((az,ar,()),aw,aq,ai,()) v10))):Int)) (Prod.fst (I5 ((az,ar,()),aw,aq,ai,()) (List.getD bR (Int.toNat v46) (0:Int)))))) (.ret ((false,()))) (.f7 (r9 IntKind.i64 (v46+(1:Int))) (.ctL (f9 (d8 Tryz.prog 4) 11) (St.mk [(0,AV.val e8 v0),(5,AV.ptr 1025 []),(7,AV.at_ 1000007 []),(10,AV.val e8 v10),(35,AV.at_ 1000035 []),(36,AV.val e8 vO),(37,AV.val e8 v37),(44,AV.at_ 1000044 []),(45,AV.val e8 zH),(46,AV.val e8 (v46+(1:Int)))] [(1025,g9.var s6 ((az,ar,()),aw,aq,ai,())),(1000007,g9.own Is bp),(1000035,g9.own Is db),(1000044,g9.own Is bR)])))))))))))) (.f7 (r9 IntKind.i64 (v37+(1:Int))) (.ctL (f9 (d8 Tryz.prog 4) 8) (St.mk [(0,AV.val e8 v0),(5,AV.ptr 1025 []),(7,AV.at_ 1000007 []),(35,AV.at_ 1000035 []),(36,AV.val e8 vO),(37,AV.val e8 (v37+(1:Int)))] [(1025,g9.var s6 ((az,ar,()),aw,aq,ai,())),(1000007,g9.own Is bp),(1000035,g9.own Is db)]))):=by kernel_rfl
attribute [local irreducible] G0 I5 M3 in
theorem a9r:Qx.Valid Tryz.prog 4:=by
  refine o7.o5 DF rfl rfl Tryz.func4 (c:=d8 Tryz.prog 4) rfl rfl DG rfl ?_;rintro ⟨(n0:Int),(l:List H7),⟨⟩⟩ hs -
  have hl:l.length<=1048576:=WW hs;refine j6 (n:=1000) DF DG ?_;refine i6 (VA n0 l) ?_;have hn:=Le n0;obtain ⟨n,mj⟩:∃ n,n=L9 n0:=⟨_,rfl⟩;rw [<- mj] at hn ⊢;have hW:=CW hn l l.length;rw [T6.2];generalize G0 n l l.length=s at hW ⊢;obtain ⟨w,sd,fl⟩:=s;obtain ⟨T,hT⟩:=WE hW.ok;have hlen:=hW.len;have aM:=hW.ok;simp only at hT hlen aM;have kC:(n.toNat:Int)=n:=by omega
  simp only [j7,Tree.holds,sL];refine ⟨⟨hn,hl⟩,λ _=>⟨⟨by omega,hn.2⟩,λ _=>?_⟩⟩;have hh:∀ i,i<(M3 w fl n.toNat).length->∃ j:Nat,(M3 w fl n.toNat).getD i 0=j/\j<n.toNat/\V1 w.1.2.1 j=true/\¬ (j:Int)∈fl:=λ i hi=>Uw hi;have sE:=Jl w fl n.toNat;have rq:M3 ((w.1.1,w.1.2.1,()),w.2.1,w.2.2.1,w.2.2.2.1,()) fl n.toNat=M3 w fl n.toNat:=rfl;obtain ⟨h,iV⟩:∃ h,h=M3 w fl n.toNat:=⟨_,rfl⟩;rw [<- iV] at hh sE ⊢;suffices go:Go.Ex.Reach yg Tryz.f4 (true,()) () (.code (f9 (d8 Tryz.prog 4) 8).1::.inLoop (f9 (d8 Tryz.prog 4) 8).1::(f9 (d8 Tryz.prog 4) 8).2) (Iy n (h.length:Int) ((0:Nat):Int) w.1.1 w.1.2.1 w.2.1 w.2.2.1 w.2.2.2.1 fl h) by exact go
  refine Reach.M9 DF DG (λ i:Nat=>Iy n (h.length:Int) (i:Int) w.1.1 w.1.2.1 w.2.1 w.2.2.1 w.2.2.2.1 fl h) (λ i=>i<=h.length) (λ i=>h.length - i) 1000 (λ _=>⟨u7 rfl,u7 rfl⟩) ?_ 0 (Nat.zero_le _);rintro i k1 - ih;have k1:i<=h.length:=k1;refine i6 (Wh ..) ?_;have e1:((i:Nat):Int)+1=((i+1:Nat):Int):=by omega
  rw [rq,<- iV];simp only [j7,Tree.holds,sL];refine ⟨λ c=>⟨by omega,λ _=>⟨⟨by omega,hn.2⟩,λ _=>?_⟩⟩,λ c=>rfl⟩;obtain ⟨p,ma,fL,rR,-⟩:=hh i (by omega);rw [ma];have tp:=hT p (by omega) rR;suffices go:Go.Ex.Reach yg Tryz.f4 (true,()) () (.code (f9 (d8 Tryz.prog 4) 11).1::.inLoop (f9 (d8 Tryz.prog 4) 11).1::(f9 (d8 Tryz.prog 4) 11).2) (II n (p:Int) (h.length:Int) (i:Int) (h.length:Int) ((0:Nat):Int) w.1.1 w.1.2.1 w.2.1 w.2.2.1 w.2.2.2.1 fl h h) by exact go
  refine Reach.M9 DF DG (λ j:Nat=>II n (p:Int) (h.length:Int) (i:Int) (h.length:Int) (j:Int) w.1.1 w.1.2.1 w.2.1 w.2.2.1 w.2.2.2.1 fl h h) (λ j=>j<=h.length) (λ j=>h.length - j) 1000 (λ _=>⟨u7 rfl,u7 rfl⟩) ?_ 0 (Nat.zero_le _);rintro j k2 - ih2;have k2:j<=h.length:=k2;refine i6 (XQ ..) ?_;have e2:((j:Nat):Int)+1=((j+1:Nat):Int):=by omega
  by_cases hj:j<h.length
  . obtain ⟨q,rO,qE,rN,-⟩:=hh j hj;have tn:=hT q (by omega) rN;have la:I5 ((w.1.1,w.1.2.1,()),w.2.1,w.2.2.1,w.2.2.2.1,()) (p:Int)=(U0 w p,0,()):=Md (w:=w) (by omega);have lb:I5 ((w.1.1,w.1.2.1,()),w.2.1,w.2.2.1,w.2.2.2.1,()) (q:Int)=(U0 w q,0,()):=Md (w:=w) (by omega);have ca:=aM.sz.log p;have cb:=aM.sz.log q;have ca:(U0 w (p:Int)).length<=16*l.length:=ca;have cb:(U0 w (q:Int)).length<=16*l.length:=cb;simp only [j7,Tree.holds,e2,rO,la,lb,LC,sL];have iB:min (U0 w (p:Int)).length (U0 w (q:Int)).length<=(U0 w (p:Int)).length:=Nat.min_le_left ..;have iQ:min (U0 w (p:Int)).length (U0 w (q:Int)).length<=(U0 w (q:Int)).length:=Nat.min_le_right ..;have bj:=VQ tp tn iB iQ;refine ⟨λ _=>⟨by omega,λ _=>⟨⟨aM.L9,by show (U0 w (p:Int)).length<=_; omega⟩,λ _=>⟨⟨aM.L9,by show (U0 w (q:Int)).length<=_; omega⟩,λ _=>⟨λ e=>absurd rfl e,λ _=>⟨λ e=>absurd rfl e,λ _=>⟨by omega,λ _=>⟨by omega,λ _=>⟨λ e=>absurd (by rw [LP,LP]; exact bj) e,λ _=>⟨F1.2 ⟨by omega,by omega⟩,λ _=>?_⟩⟩⟩⟩⟩⟩⟩⟩⟩,λ c=>absurd (by omega) c⟩;exact ih2 (j+1) (by show j+1<=h.length; omega) (by show h.length - (j+1)<h.length - j; omega)
  . obtain rfl:j=h.length:=by omega
    simp only [j7,Tree.holds,e1,sL];refine ⟨λ c=>absurd c (by omega),λ _=>⟨F1.2 ⟨by omega,by omega⟩,λ _=>?_⟩⟩;exact ih (i+1) (by show i+1<=h.length; omega) (by show h.length - (i+1)<h.length - i; omega)
end Go.Proofs.YtijlnmgondibnaaGreatDoor
