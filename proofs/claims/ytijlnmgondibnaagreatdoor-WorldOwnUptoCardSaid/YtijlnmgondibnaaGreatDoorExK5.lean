import Derived.Test.YtijlnmgondibnaaGreatDoorExK4
import Derived.DeepKeys
import Derived.Laws.StructEq
import Derived.MapKept
import Derived.WideKeyRuns
import Derived.Lib.AppendZerosOnto
import Derived.Tactics
set_option linter.unusedVariables false
set_option linter.unusedSimpArgs false
set_option linter.unusedSectionVars false
namespace Go.Ex
section
variable {H H':Array Go.Obj} {S:Nat->Prop}
theorem T8.s4 {q:Bool} {b n:Nat} (h:H'[b]?=H[b]?):T8 q H b n->T8 q H' b n:=by
 rintro ⟨arr,T,⟨fz,e,ef⟩,hn⟩;exact ⟨arr,T,⟨fz,by rw [h]; exact e,ef⟩,hn⟩
theorem N2.s4 {b n:Nat} (h:H'[b]?=H[b]?):N2 H b n->N2 H' b n:=by
 rintro ⟨arr,T,⟨fz,e,ef⟩,hn⟩;exact ⟨arr,T,⟨fz,by rw [h]; exact e,ef⟩,hn⟩
theorem j6.s4 {t:Ty} {O:List Nat} {cs:List Value} {l:List t.den} (h:j6 (i6 H S t) t.size O cs l) (hH:∀ c,c∈O\/S c->H'[c]?=H[c]?):j6 (i6 H' S t) t.size O cs l :=
 j6.mono (L:=O) (λ _ h=>h) (λ _ _ _ hO hr=>hr.s4 (λ c hc=>hH c (hc.imp (hO c) id)) (λ _ h=>h)) h
theorem w4.s4:∀ {t:Ty} {p:List Step} {b off:Nat} {O:List Nat} {x:t.den},w4 H S t p b off O x->(∀ c,c=b\/c∈O\/S c->H'[c]?=H[c]?) ->
  w4 H' S t p b off O x/\y7 H' t p b off=y7 H t p b off:=by
 intro t
 induction t with
 | pair a c iha ihc =>
  intro p b off O x hR hH
  match p,hR with
  | [],hR=>exact ⟨hR,by rw [y8,y8]⟩
  | .l8 0::p,⟨O1,O2,e,h1,h2⟩ =>
   subst e;obtain ⟨k1,k2⟩:=iha h1 (λ c hc=>hH c (hc.imp id (Or.imp (λ h=>by simp [h]) id)));refine ⟨⟨O1,O2,rfl,k1,?_⟩,k2⟩;rw [l6 (hH b (.inl rfl))];exact h2.s4 (λ c hc=>hH c (.inr (hc.imp (λ h=>by simp [h]) id))) (λ _ h=>h)
  | .l8 (n+1)::p,⟨O1,O2,e,h1,h2⟩ =>
   subst e;obtain ⟨k1,k2⟩:=ihc h2 (λ c hc=>hH c (hc.imp id (Or.imp (λ h=>by simp [h]) id)));refine ⟨⟨O1,O2,rfl,?_,k1⟩,k2⟩;rw [l6 (hH b (.inl rfl))];exact h1.s4 (λ c hc=>hH c (.inr (hc.imp (λ h=>by simp [h]) id))) (λ _ h=>h)
  | .idx i::p,hR=>simp [w4] at hR
 | arr n t ih =>
  intro p b off O x hR hH
  match p,hR with
  | [],hR=>exact ⟨hR,by rw [y8,y8]⟩
  | .l8 i::p,hR=>simp [w4] at hR
  | .idx i::p,⟨hl,hi,O1,O2,O3,e,h1,h2,h3⟩ =>
   subst e;obtain ⟨k1,k2⟩:=ih h2 (λ c hc=>hH c (hc.imp id (Or.imp (λ h=>by simp [h]) id)));refine ⟨⟨hl,hi,O1,O2,O3,rfl,?_,k1,?_⟩,k2⟩
   ·rw [l6 (hH b (.inl rfl))]
    exact h1.s4 (λ c hc=>hH c (.inr (hc.imp (λ h=>by simp [h]) id)))
   ·rw [l6 (hH b (.inl rfl))]
    exact h3.s4 (λ c hc=>hH c (.inr (hc.imp (λ h=>by simp [h]) id)))
 | d0 o t ih =>
  intro p b off O x hR hH
  match p,hR with
  | [],hR=>exact ⟨by cases o<;>exact hR,by rw [y8,y8]⟩
  | .l8 i::p,hR=>cases o<;>simp [w4] at hR
  | .idx i::p,hR =>
   cases o with
   | false=>simp [w4] at hR
   | true =>
    obtain ⟨hi,b1,o1,cap,O1,O2,O3,e,e1,e2,e3,e4,h1,h2,h3⟩:=hR;subst e;have dy:H'[b1]?=H[b1]?:=hH b1 (by simp);obtain ⟨k1,k2⟩:=ih h2 (λ c hc=>hH c (hc.elim (λ h=>.inr (.inl (by simp [h]))) (λ h=>.inr (h.imp (λ h=>by simp [h]) id))));refine ⟨⟨hi,b1,o1,cap,O1,O2,O3,rfl,by rw [O8 (hH b (.inl rfl))]; exact e1,e2,e3,e4.s4 dy,?_,k1,?_⟩,?_⟩
    ·rw [l6 dy]
     exact h1.s4 (λ c hc=>hH c (.inr (hc.imp (λ h=>by simp [h]) id)))
    ·rw [l6 dy]
     exact h3.s4 (λ c hc=>hH c (.inr (hc.imp (λ h=>by simp [h]) id)))
    ·simp only [y7,O8 (hH b (.inl rfl)),e1]
     exact k2
 | _ =>
  intro p b off O x hR hH
  match p,hR with
  | [],hR=>exact ⟨hR,by rw [y8,y8]⟩
  | .l8 i::p,hR=>simp [w4] at hR
  | .idx i::p,hR=>simp [w4] at hR
end
section
variable {S:Nat->Prop} {ι:Ix} {H H':Array Go.Obj}
theorem w4.move {i:Nat} {e:i7} {p:List Step} (hk:(∃ t x,e=.var t x)\/∃ t x j q,e=.own (.d0 true t) x/\p=.idx j::q) {O:List Nat} (hR:w4 (VH H ι i e) S e.ty p (VR H ι i e).1 (VR H ι i e).2 O e.x)
  (hO:∀ c∈O,c<H.size) (hS:∀ c,S c->c<H.size) (aV:H.size<=H'.size) (hH:∀ c,(c=(VR H ι i e).1/\c<H.size)\/c∈O\/S c->H'[c]?=H[c]?) (bB:(∃ t x,e=.var t x)->(VR H ι i e).1<H.size) :
  w4 (VH H' ι i e) S e.ty p (VR H' ι i e).1 (VR H' ι i e).2 O e.x/\y7 (VH H' ι i e) e.ty p (VR H' ι i e).1 (VR H' ι i e).2=y7 (VH H ι i e) e.ty p (VR H ι i e).1 (VR H ι i e).2:=by
 rcases hk with ⟨t,x,rfl⟩|⟨t,x,j,q,rfl,rfl⟩
 ·exact w4.s4 (H:=H) hR (λ c hc=>hH c (hc.imp (λ h=>⟨h,h▸bB ⟨_,_,rfl⟩⟩) id))
 ·have hg:∀ c,c∈O\/S c->(VH H' ι i (.own (.d0 true t) x))[c]?=(VH H ι i (.own (.d0 true t) x))[c]?:=λ c hc=>by
   have h1:c<H.size:=hc.elim (hO c) (hS c);rw [G0 h1,G0 (Nat.lt_of_lt_of_le h1 aV)];exact hH c (.inr hc)
  obtain ⟨hi,b1,o1,cap,O1,O2,O3,e0,e1,e2,e3,e4,h1,h2,h3⟩:=hR;subst e0;have dy:=hg b1 (by simp);obtain ⟨k1,k2⟩:=w4.s4 h2 (H':=VH H' ι i (.own (.d0 true t) x)) (λ c hc=>hg c (hc.elim (λ h=>.inl (by simp [h])) (λ h=>h.imp (λ h=>by simp [h]) id)));have dN:(u5 (VH H' ι i (.own (.d0 true t) x)) (VR H' ι i (.own (.d0 true t) x)).1)[(VR H' ι i (.own (.d0 true t) x)).2]?=some (.slice (some ⟨b1,o1,none⟩) (List.length x) cap):=by
   refine Eq.trans ?_ (show (u5 (VH H ι i (.own (.d0 true t) x)) (VR H ι i (.own (.d0 true t) x)).1)[(VR H ι i (.own (.d0 true t) x)).2]?=some (.slice (some ⟨b1,o1,none⟩) (List.length x) cap) from e1);simp only [VH,VR,wz]
  refine ⟨⟨hi,b1,o1,cap,O1,O2,O3,rfl,dN,e2,e3,e4.s4 dy,?_,k1,?_⟩,?_⟩
  ·rw [l6 dy]; exact h1.s4 (λ c hc=>hg c (hc.imp (λ h=>by simp [h]) id))
  ·rw [l6 dy]; exact h3.s4 (λ c hc=>hg c (hc.imp (λ h=>by simp [h]) id))
  ·have e1':(u5 (VH H ι i (.own (.d0 true t) x)) (VR H ι i (.own (.d0 true t) x)).1)[(VR H ι i (.own (.d0 true t) x)).2]?=some (.slice (some ⟨b1,o1,none⟩) (List.length x) cap):=e1
   simp only [i7.ty,y7,dN,e1'];exact k2
theorem W4.refl {b off n m:Nat} (h:N2 H b m):W4 H H b off n:=by
 obtain ⟨arr,T,⟨fz,e,ef⟩,_⟩:=h;exact ⟨⟨arr,arr,T,⟨fz,⟨e,ef⟩,e⟩,rfl,λ _ _=>rfl⟩,λ _ _ _=>rfl⟩
theorem Rp:∀ {t:Ty} {x:t.den} {p:List Step} {u:Ty} {y:u.den},x7 t x p->l4 t x p=some ⟨u,y⟩->s9 t x p u y=some ⟨t,x⟩:=by
 intro t;have set_self:∀ {α:Type} {l:List α} {i:Int} {d:α},(0<=i/\i<List.length l)->List.set l i.toNat (List.getD l i.toNat d)=l:=by
  intro α l i d h;have h1:i.toNat<l.length:=by omega
  rw [List.getD_eq_getElem?_getD,List.getElem?_eq_getElem h1]; simp
 induction t with
 | pair a c iha ihc =>
  intro x p u y ho hg
  match p,ho,hg with
  | [],_,hg=>simp only [l4,Option.some.injEq] at hg; cases hg; simp [s9]
  | .l8 0::p,ho,hg=>simp only [s9,iha (x:=x.1) ho hg]
  | .l8 (n+1)::p,ho,hg=>simp only [s9,ihc (x:=x.2) (p:=.l8 n::p) ho hg]
  | .idx i::p,ho,_=>simp [x7] at ho
 | arr n t ih =>
  intro x p u y ho hg
  match p,ho,hg with
  | [],_,hg=>simp only [l4,Option.some.injEq] at hg; cases hg; simp [s9]
  | .l8 i::p,ho,_=>simp [x7] at ho
  | .idx i::p,ho,hg =>
   simp only [s9,ih ho.2 hg,dif_pos];by_cases hl:i<List.length x
   ·rw [set_self ⟨ho.1.1,hl⟩]
   ·rw [List.set_eq_of_length_le (by have:=ho.1.1; omega)]
 | d0 o t ih =>
  intro x p u y ho hg
  match p,ho,hg with
  | [],_,hg=>rw [C2] at hg; cases hg; cases o<;>simp [s9]
  | .l8 i::p,ho,_=>cases o<;>simp [x7] at ho
  | .idx i::p,ho,hg =>
   cases o with
   | false=>simp [x7] at ho
   | true =>
    simp only [s9,ih ho.2 hg,dif_pos];rw [set_self ho.1]
 | _ =>
  intro x p u y ho hg
  match p,ho,hg with
  | [],_,hg=>simp only [l4,Option.some.injEq] at hg; cases hg; simp [s9]
  | .idx i::p,ho,_=>simp [x7] at ho
  | .l8 i::p,ho,_=>simp [x7] at ho
theorem OB.set {i:Nat} {e:i7} (ho:OB H S ι i e) (bM:∀ c∈l7 ι i e,¬ S c/\c<H.size) (hS:∀ c,S c->c<H.size) {p:List Step} (hk:(∃ t x,e=.var t x)\/∃ t x j q,e=.own (.d0 true t) x/\p=.idx j::q) (aM:x7 e.ty e.x p) {u:Ty} {y:u.den} (hg:l4 e.ty e.x p=some ⟨u,y⟩)
  {b off:Nat} (hl:Loc H ι i e p=some (b,off)) (aV:H.size<=H'.size) {Op:List Nat} (gF:i6 H S u Op (d9 H b off u.size) y) (hH:∀ c,c<H.size->c∉Op->H'[c]?=H[c]?) {y':u.den} (fD:i6 H' S u Op (d9 H' b off u.size) y') {r:Sigma Ty.den} (aG:s9 e.ty e.x p u y'=some r) :
  OB H' S ι i (e.E1 r)/\Loc H' ι i e p=some (b,off):=by
 have he:e≠.K5:=K2 hl;have fq:=ho.zp he hS aM hg hl gF;obtain ⟨Om,m1,mn,m2,m3,m4,m5⟩:=M7 he ho hS aM hg hl;obtain ⟨O,hO,hR,hb,aF,bc,fY,dI⟩:=ho.see he hS;obtain ⟨O1,O3,b',aq,e1,e2,e3,e4,e5,e6⟩:=focus hR hb aM hg
 obtain ⟨bX,di⟩:=C6 hl;rw [H7 he] at bX;rw [e3] at bX; cases bX;have cq:(O1++O3).Nodup:=(e1.nodup_iff).1 ((hO.nodup_iff).2 (List.nodup_cons.1 aF).2);have bj:∀ c∈O1,c∈ι.own i:=λ c hc=>hO.mem_iff.1 (e1.mem_iff.2 (by simp [hc]));have cJ:∀ c∈O3,c∈ι.own i:=λ c hc=>hO.mem_iff.1 (e1.mem_iff.2 (by simp [hc]));have bB:=(List.nodup_cons.1 aF).1;have db:∀ c∈ι.own i,c∈l7 ι i e:=by intro c hc; cases e<;>simp [l7,hc]
 have e4':i6 H S u O3 (d9 H b off u.size) y:=by
  rw [l6 (G0 di)] at e4;exact (wi (λ c hc=>ho.U0 he (cJ c hc)) hS).1 e4
 obtain rfl:Op=O3:=gF.det e4';have eX:∀ c∈O1,c<H.size:=λ c hc=>ho.U0 he (bj c hc);have dO:∀ c,(c=(VR H ι i e).1/\c<H.size)\/c∈O1\/S c->H'[c]?=H[c]?:=by
  rintro c (⟨rfl,h1⟩|h1|h1)
  ·exact hH _ h1 (λ h=>bB (cJ _ h))
  ·exact hH c (eX c h1) (λ h=>(List.nodup_append.1 cq).2.2 c h1 c h rfl)
  ·exact hH c (hS c h1) (λ h=>(bM c (db c (cJ c h))).1 h1)
 have jK:(∃ t x,e=.var t x)->(VR H ι i e).1<H.size:=by rintro ⟨t,x,rfl⟩; exact bc
 obtain ⟨n1,n2⟩:=w4.move (H':=H') hk e2 eX hS aV dO jK;have cQ:(VR H' ι i e).2+e.ty.size<=(u5 (VH H' ι i e) (VR H' ι i e).1).length/\(VR H' ι i e).1<(VH H' ι i e).size/\¬ S (VR H' ι i e).1/\(VR H' ι i e).1∉O1:=by
  rcases hk with ⟨t,x,rfl⟩|⟨t,x,j,q,rfl,rfl⟩
  ·have hr:=jK ⟨_,_,rfl⟩
   refine ⟨?_,Nat.lt_of_lt_of_le hr aV,(bM _ (by simp [l7,VR])).1,λ h=>bB (bj _ h)⟩;have:=O8 (dO _ (.inl ⟨rfl,hr⟩));show (VR H ι i (.var t x)).2+_<=(u5 H' (VR H ι i (.var t x)).1).length;rw [this]; exact hb
  ·refine ⟨?_,by simp [VH,VR,BS],λ h=>by have:=hS _ h; simp only [VR] at this; omega,λ h=>by have:=eX _ h; simp only [VR] at this; omega⟩
   simp only [VH,VR,wz] at hb ⊢; exact hb
 have eL:N2 (VH H' ι i e) b (off+u.size):=N2.s4 (H:=H') (G0 (Nat.lt_of_lt_of_le di aV)) (m5.s4 (hH b di fq));have tP:i6 (VH H' ι i e) S u Op (d9 (VH H' ι i e) b off u.size) y':=by
  rw [l6 (G0 (Nat.lt_of_lt_of_le di aV))];exact (wi (λ c hc=>Nat.lt_of_lt_of_le (ho.U0 he (cJ c hc)) aV) (λ c hc=>Nat.lt_of_lt_of_le (hS c hc) aV)).2 fD
 obtain ⟨O4,f1,f2,f3⟩:=BK n1 hg (n2.trans e3) cQ.1 cQ.2.1 (List.nodup_append.1 cq).1 cQ.2.2.2 (λ c hc=>⟨(bM c (db c (bj c hc))).1,Nat.lt_of_lt_of_le (eX c hc) (Nat.le_trans aV xi)⟩) cQ.2.2.1
  (λ c hc=>Nat.lt_of_lt_of_le (hS c hc) (Nat.le_trans aV xi)) (λ _ h=>h) (W4.refl eL) tP aG
 have bP:∀ c∈O4,c∈ι.own i:=λ c hc=>(List.mem_append.1 (f1.mem_iff.1 hc)).elim (bj c) (cJ c);have gW:O4.Nodup:=(f1.nodup_iff).2 cq;have f2':=(wi (λ c hc=>Nat.lt_of_lt_of_le (ho.U0 he (bP c hc)) aV) (λ c hc=>Nat.lt_of_lt_of_le (hS c hc) aV)).1 f2;have rh:O4.Perm (ι.own i):=f1.trans (e1.symm.trans hO);refine ⟨?_,wh (by rw [H7 he,n2]; exact e3) (Nat.lt_of_lt_of_le di aV)⟩;have fK:r.1.size=e.ty.size:=F6 f3;cases e with
 | var t x =>
  obtain ⟨_,hf,gr⟩:=ho;have hf:N2 H (ι.root i).1 ((ι.root i).2+t.size):=hf;refine ⟨⟨O4,rh,f2'⟩,?_,gr⟩;have fK:r.1.size=t.size:=fK;show N2 H' (ι.root i).1 ((ι.root i).2+r.1.size);rw [fK];exact hf.s4 (dO _ (.inl ⟨rfl,jK ⟨_,_,rfl⟩⟩))
 | own t x =>
  obtain ⟨⟨O',_,fD⟩,gr⟩:=ho;refine ⟨⟨O4,rh,?_⟩,gr⟩;have fK:r.1.size=t.size:=fK;have:d9 (VH H' ι i (.own t x)) (VR H' ι i (.own t x)).1 (VR H' ι i (.own t x)).2 r.1.size=ι.cells i:=by
   simp only [VH,VR,d9,wz,List.drop_zero];exact List.take_of_length_le (by rw [fD.length,fK]; exact Nat.le_refl _)
  have f2'':i6 H' S r.1 O4 (d9 (VH H' ι i (.own t x)) (VR H' ι i (.own t x)).1 (VR H' ι i (.own t x)).2 r.1.size) r.2:=f2';rw [this] at f2'';exact f2''
 | K5=>exact absurd rfl he
theorem OB.same {i:Nat} {e:i7} (ho:OB H S ι i e) (bM:∀ c∈l7 ι i e,¬ S c/\c<H.size) (hS:∀ c,S c->c<H.size) {p:List Step} (hk:(∃ t x,e=.var t x)\/∃ t x j q,e=.own (.d0 true t) x/\p=.idx j::q) (aM:x7 e.ty e.x p) {u:Ty} {y:u.den} (hg:l4 e.ty e.x p=some ⟨u,y⟩)
  {b off:Nat} (hl:Loc H ι i e p=some (b,off)) (aV:H.size<=H'.size) {Op:List Nat} (gF:i6 H S u Op (d9 H b off u.size) y) (hH:∀ c,c<H.size->c∉Op->H'[c]?=H[c]?) (fD:i6 H' S u Op (d9 H' b off u.size) y) :
  OB H' S ι i e/\Loc H' ι i e p=some (b,off):=by
 have h1:=OB.set ho bM hS hk aM hg hl aV gF hH fD (Rp aM hg);have he:=K2 hl;have e9:e.E1 ⟨e.ty,e.x⟩=e:=by cases e<;>first|rfl|exact absurd rfl he
 rw [e9] at h1;exact h1
end
section
variable {E:Env} {B:E3} {S:Nat->Prop} {ι:Ix} {s:St} {a:Act} {w:World}
theorem Cc {H:Array Go.Obj} {i:Nat} {e:i7} (ho:OB H S ι i e) (hS:∀ c,S c->c<H.size) {p:List Step} (kb:(∃ t x,e=.var t x)\/∃ t x j q,e=.own (.d0 true t) x/\p=.idx j::q) (aM:x7 e.ty e.x p) {u:Ty} {y:u.den} (hg:l4 e.ty e.x p=some ⟨u,y⟩) :
  ∃ b off,Loc H ι i e p=some (b,off):=by
 have cF:e≠.K5:=by rcases kb with ⟨_,_,rfl⟩|⟨_,_,_,_,rfl,_⟩<;>(intro h; cases h)
 obtain ⟨O,hO,hR,eu,gr,pE,fY,dI⟩:=ho.see cF hS;obtain ⟨O1,O3,b',aq,g1,g2,g3,g4,g5,g6⟩:=focus hR eu aM hg
 have cf:∀ c∈O1,c<H.size:=λ c hc=>ho.U0 cF (hO.mem_iff.1 (g1.mem_iff.2 (by simp [hc])));refine ⟨b',aq,wh (by rw [H7 cF]; exact g3) ?_⟩;rcases kb with ⟨t,x,rfl⟩|⟨t,x,j,q,rfl,rfl⟩
 ·rcases w4.range g2 hg g3 with ⟨h1,_⟩|h1
  ·rw [h1]; exact ho.2.1.lt
  ·exact cf _ h1
 ·obtain ⟨hi,c1,o1,cap,P1,P2,P3,e,e1,e2,e3,e4,e5,e6,e7⟩:=g2
  subst e;have e1':(u5 (VH H ι i (.own (.d0 true t) x)) (VR H ι i (.own (.d0 true t) x)).1)[(VR H ι i (.own (.d0 true t) x)).2]?=some (.slice (some ⟨c1,o1,none⟩) (List.length x) cap):=e1;simp only [i7.ty,y7,e1'] at g3;rcases w4.range e6 hg g3 with ⟨h1,_⟩|h1
  ·rw [h1]; exact cf _ (by simp)
  ·exact cf _ (by simp [h1])
theorem c06 {e:i7} {p:List Step} {r:Sigma Ty.den} (h:yP e p r=true):(∃ t x,e=.var t x)\/∃ t x,e=.own (.d0 true t) x/\(p=[]\/∃ j q,p=.idx j::q):=by
 unfold yP at h;split at h
 ·exact .inl ⟨_,_,rfl⟩
 ·simp only [Bool.and_eq_true] at h
  obtain ⟨_,h⟩:=h;split at h
  ·exact .inr ⟨_,_,rfl,.inl rfl⟩
  ·exact .inr ⟨_,_,rfl,.inr ⟨_,_,rfl⟩⟩
  ·cases h
 ·cases h
theorem TM {e:i7} {p:List Step} {r:Sigma Ty.den} (h:yP e p r=true):Bt e (e.E1 r):=by
 unfold yP at h;obtain ⟨r1,r2⟩:=r;split at h
 ·rename_i t x
  obtain rfl:r1=t:=of_decide_eq_true h;exact .inl ⟨r1,x,r2,rfl,rfl⟩
 ·rename_i t x
  simp only [Bool.and_eq_true] at h;obtain rfl:r1=.d0 true t:=of_decide_eq_true h.1;exact .inr (.inl ⟨t,x,r2,rfl,rfl⟩)
 ·cases h
theorem b74 {P:Program} (h:RS B S ι s a w) {i:Nat} {e:i7} (he:look i s.hp=some e) {p:List Step} (aM:x7 e.ty e.x p) {t0:Ty} {l:List t0.den} (hg:l4 e.ty e.x p=some ⟨.d0 true t0,l⟩) (cd:t0.shared=true)
  {b1 o1 cap:Nat} (hc:Cells w.heap ι i e p (.d0 true t0) [.slice (some ⟨b1,o1,none⟩) l.length cap]) (lB:1<=cap) {lo:Nat} {m:List t0.den} (iU:lo+m.length<=l.length) {news:List Value} (hN:j6 (i6 w.heap S t0) t0.size [] news m)
  {r:Sigma Ty.den} (aG:s9 e.ty e.x p (.d0 true t0) (l.take lo++m++l.drop (lo+m.length))=some r) (bK:yP e p r=true) :
  ∃ w' ι',(storeCells ⟨b1,o1+lo*t0.size,none⟩ news).run P w=.ok () w'/\RS B S ι' ((s.Z5 i e.Z6).w8 i (e.E1 r)) a w':=by
 have cF:e≠.K5:=Cj hc;obtain ⟨Op,m1,mn,hR⟩:=G4 h.hs he aM hg hc;have bM:∀ c∈l7 ι i e,¬ S c/\c<w.heap.size:=λ c cN=>⟨(h.hs.bl i e he c cN).1,(h.hs.bl i e he c cN).2.2⟩;have fC:=hR;rcases hR with ⟨_,⟨A,c,e0,eO⟩,_⟩|⟨b2,o2,cap2,O',c1,c2,c3,c4,c5,rfl,c7⟩
 ·simp only [List.cons.injEq,Value.slice.injEq,and_true] at e0
  have:=eO rfl; omega
 simp only [List.cons.injEq,Value.slice.injEq,Option.some.injEq,Addr.mk.injEq,and_true,true_and] at c1;obtain ⟨⟨rfl,rfl⟩,rfl⟩:=c1;have gG:O'=[]:=j6.N5 (λ _ _ _ hr=>i6.N5 cd hr) c5;subst gG;have dy:b1∈l7 ι i e:=I2 (m1 b1 (by simp));have gR:=(bM b1 dy).2;have ga:news.length=m.length*t0.size:=j6.length (λ _ _ _ h=>h.length) hN;have sM:lo*t0.size+m.length*t0.size<=l.length*t0.size:=by rw [<- Nat.add_mul]; exact Nat.mul_le_mul_right _ iU
 have sK:l.length*t0.size<=cap*t0.size:=Nat.mul_le_mul_right _ c2;obtain ⟨arr,T',⟨fz,e1,ef⟩,hn⟩:=c7;have dN:u5 w.heap b1=arr.toList:=by simp only [u5,e1]
 have ji:=FB (P:=P) b1 (o1+lo*t0.size) T' fz news 0 arr w ⟨e1,ef.imp id (·.2)⟩ (by omega) (λ v hv=>(j6.plain (λ _ _ _ hr=>hr.plain) hN v hv).1);simp only [Nat.add_zero] at ji;have iA:arr.toList.take (o1+lo*t0.size)++news++arr.toList.drop (o1+lo*t0.size+news.length)=over (u5 w.heap b1) (o1+lo*t0.size) news:=by rw [dN]; rfl
 rw [iA] at ji;obtain ⟨eN,hcs⟩:=CC (w:=w) (b:=b1) (off:=o1+lo*t0.size) (cs:=news) ⟨arr,T',⟨fz,e1,ef.imp id (·.2)⟩,by omega⟩;generalize gJ:w.setRow b1 (over (u5 w.heap b1) (o1+lo*t0.size) news).toArray=w' at ji eN hcs;have aV:w'.heap.size=w.heap.size:=by rw [<- gJ]; exact setRow_size
 have bh:C9 [b1] w w':=⟨by rw [<- gJ]; rfl,.of (by rw [<- gJ]; rfl) (by rw [<- gJ]; rfl),by rw [<- gJ]; rfl,by rw [aV]; exact Nat.le_refl _,λ c _ cv=>by rw [<- gJ]; exact setRow_other (by simpa using cv)⟩;have dI:T8 t0.isB w'.heap b1 (o1+cap*t0.size):=eN.Dx ⟨arr,T',⟨fz,e1,ef⟩,hn⟩;have hlen:(l.take lo++m++l.drop (lo+m.length)).length=l.length:=by simp only [List.length_append,List.length_take,List.length_drop]; omega
 have kH:∀ {O:List Nat} {cs:List Value} {y:t0.den},i6 w.heap S t0 O cs y->i6 w'.heap S t0 O cs y:=by
  intro O cs y hr;have hO:=i6.N5 cd hr;subst hO;refine hr.s4 (λ c cN=>bh.frame c ?_ ?_) (λ _ h=>h)
  ·rcases cN with h9|h9
   ·cases h9
   ·exact h.hs.slt c h9
  ·rcases cN with h9|h9
   ·cases h9
   ·rintro h8
    have:c=b1:=by simpa using h8
    exact (bM b1 dy).1 (this▸h9)
 have iF:∀ {cs:List Value} {l':List t0.den},j6 (i6 w.heap S t0) t0.size [] cs l'->j6 (i6 w'.heap S t0) t0.size [] cs l':=λ hr=>j6.mono (L:=[]) (λ _ h=>h) (λ _ _ _ _ hr=>kH hr) hr;have eG:∀ {k:Nat} {l':List t0.den} {O:List Nat} {cs:List Value},k<=l'.length->j6 (i6 w.heap S t0) t0.size O cs l'->j6 (i6 w.heap S t0) t0.size [] (cs.take (k*t0.size)) (l'.take k)/\j6 (i6 w.heap S t0) t0.size [] (cs.drop (k*t0.size)) (l'.drop k):=by
  intro k
  induction k with
  | zero =>
   intro l' O cs _ hr;have:=j6.N5 (λ _ _ _ hr=>i6.N5 cd hr) hr;subst this;simp only [Nat.zero_mul,List.take_zero,List.drop_zero];exact ⟨⟨rfl,rfl⟩,hr⟩
  | succ k ih =>
   intro l' O cs hk hr
   match l',hk,hr with
   | x::l',hk,⟨O1,O2,_,r1,r2⟩ =>
    obtain ⟨q1,q2⟩:=ih (by simpa using hk) r2;have e9:=i6.N5 cd r1;subst e9;refine ⟨⟨[],[],rfl,?_,?_⟩,?_⟩
    ·rw [List.take_take,Nat.min_eq_left (by rw [Nat.succ_mul]; omega)]; exact r1
    ·rw [List.drop_take,show (k+1)*t0.size - t0.size=k*t0.size by rw [Nat.succ_mul]; omega]; exact q1
    ·rw [List.drop_drop,show t0.size+k*t0.size=(k+1)*t0.size by rw [Nat.succ_mul]; omega] at q2; exact q2
 have bI:d9 w'.heap b1 o1 (l.length*t0.size)=(d9 w.heap b1 o1 (l.length*t0.size)).take (lo*t0.size)++news++(d9 w.heap b1 o1 (l.length*t0.size)).drop ((lo+m.length)*t0.size):=by
  have e3:l.length*t0.size=lo*t0.size+(news.length+(l.length - (lo+m.length))*t0.size):=by
   rw [ga,<- Nat.add_mul,<- Nat.add_mul]; congr 1; omega
  have e4:o1+lo*t0.size+news.length=o1+(lo+m.length)*t0.size:=by rw [ga,Nat.add_mul]; omega
  rw [n7 _ _ _ _ (by omega),o7];have e5:l.length*t0.size - (lo+m.length)*t0.size=(l.length - (lo+m.length))*t0.size:=by rw [Nat.sub_mul]
  rw [e5]
  conv=>lhs; rw [e3]
  rw [Ft,Ft,hcs,e4,eN.cells gR (λ _=>.inl (Nat.le_refl _)),eN.cells gR (λ _=>.inr (by rw [ga,Nat.add_mul]; omega)),List.append_assoc]
 have qH:j6 (i6 w'.heap S t0) t0.size [] (d9 w'.heap b1 o1 (l.length*t0.size)) (l.take lo++m++l.drop (lo+m.length)):=by
  rw [bI];exact j6.append (λ _ _ _ h=>h.length) (j6.append (λ _ _ _ h=>h.length) (iF (eG (by omega) c5).1) (iF hN)) (iF (eG (by omega) c5).2)
 have fD:i6 w'.heap S (.d0 true t0) [b1] [.slice (some ⟨b1,o1,none⟩) l.length cap] (l.take lo++m++l.drop (lo+m.length)):=by
  refine .inr ⟨b1,o1,cap,[],by rw [hlen],by rw [hlen]; exact c2,c3,?_,by rw [hlen]; exact qH,rfl,dI⟩;rw [hlen];have:=dI.free.u5;omega
 have tV:∃ O,OB w'.heap S (ι.C8 i O) i (e.E1 r)/\∀ c∈l7 (ι.C8 i O) i (e.E1 r),c∈l7 ι i e:=by
  have bg:∀ (ob:OB w'.heap S ι i (e.E1 r)),∃ O,OB w'.heap S (ι.C8 i O) i (e.E1 r)/\∀ c∈l7 (ι.C8 i O) i (e.E1 r),c∈l7 ι i e:=by
   intro ob;refine ⟨ι.own i,?_,?_⟩
   ·cases e<;>simpa [OB,Ix.C8,i7.E1] using ob
   ·intro c cN
    cases e with
    | var t x=>simpa [l7,Ix.C8,i7.E1] using cN
    | own t x=>simpa [l7,Ix.C8,i7.E1] using cN
    | K5=>exact absurd rfl cF
  obtain ⟨b0,off0,bX,gB⟩:=hc;rcases c06 bK with ⟨t,x,rfl⟩|⟨t,x,rfl,hp⟩
  ·
   have mz:=aM;obtain ⟨b,off,hl⟩:=Cc (h.hs.ob i _ he) h.hs.slt (.inl ⟨_,_,rfl⟩) aM hg;have iy:=(C6 hl).1;rw [bX] at iy; cases iy;have dL:=(C6 hl).2;obtain ⟨Oq,q1,q2,q3,q4,q5,q6⟩:=M7 cF (h.hs.ob i _ he) h.hs.slt aM hg hl;have nh:d9 w.heap b0 off0 1=[.slice (some ⟨b1,o1,none⟩) l.length cap]:=by
    rw [l6 (G0 dL)] at gB; exact gB.symm
   have qI:Oq=[b1]:=by
    have q3':i6 w.heap S (.d0 true t0) Oq [.slice (some ⟨b1,o1,none⟩) l.length cap] l:=by rw [<- nh]; exact q3
    exact q3'.det fC
   subst qI;have ll:=(h.hs.ob i _ he).zp cF h.hs.slt aM hg hl q3;have lg:d9 w'.heap b0 off0 1=[.slice (some ⟨b1,o1,none⟩) l.length cap]:=by
    rw [l6 (bh.frame b0 dL ll)]; exact nh
   exact bg (OB.set (h.hs.ob i _ he) bM h.hs.slt (.inl ⟨_,_,rfl⟩) aM hg hl (by rw [aV]; exact Nat.le_refl _) q3 (λ c cr qg=>bh.frame c cr qg) (by
    show i6 w'.heap S (.d0 true t0) [b1] (d9 w'.heap b0 off0 1) _;rw [lg]; exact fD) aG).1
  ·
   rcases hp with rfl|⟨j,q,rfl⟩
   ·have kh:l4 (.d0 true t) x []=some ⟨.d0 true t0,l⟩:=hg
    rw [C2] at kh;simp only [Option.some.injEq,Sigma.mk.injEq,Ty.d0.injEq,true_and] at kh;obtain ⟨rfl,qR⟩:=kh;obtain rfl:x=l:=eq_of_heq qR;obtain ⟨⟨O9,su,nG⟩,py⟩:=h.hs.ob i _ he;have iK:ι.cells i=[.slice (some ⟨b1,o1,none⟩) (List.length x) cap]:=by
     rw [H7 cF,y8] at bX;cases bX;have rl:(ι.cells i).length=1:=nG.length;simp only [VH,VR,d9,wz,List.drop_zero,Ty.size] at gB;rw [List.take_of_length_le (by omega)] at gB;exact gB.symm
    have jM:s9 (.d0 true t) x [] (.d0 true t) (x.take lo++m++x.drop (lo+m.length))=some r:=aG;have hr:r=⟨.d0 true t,x.take lo++m++x.drop (lo+m.length)⟩:=by
     simp only [s9,if_true,Option.some.injEq] at jM;exact jM.symm
    subst hr;rw [iK] at nG;have tW:O9=[b1]:=nG.det fC;subst tW;refine bg ⟨⟨[b1],su,?_⟩,py⟩;rw [iK]; exact fD
   ·obtain ⟨b,off,hl⟩:=Cc (h.hs.ob i _ he) h.hs.slt (.inr ⟨_,_,_,_,rfl,rfl⟩) aM hg
    have iy:=(C6 hl).1;rw [bX] at iy; cases iy;have dL:=(C6 hl).2;obtain ⟨Oq,q1,q2,q3,q4,q5,q6⟩:=M7 cF (h.hs.ob i _ he) h.hs.slt aM hg hl;have nh:d9 w.heap b0 off0 1=[.slice (some ⟨b1,o1,none⟩) l.length cap]:=by
     rw [l6 (G0 dL)] at gB; exact gB.symm
    have qI:Oq=[b1]:=by
     have q3':i6 w.heap S (.d0 true t0) Oq [.slice (some ⟨b1,o1,none⟩) l.length cap] l:=by rw [<- nh]; exact q3
     exact q3'.det fC
    subst qI;have ll:=(h.hs.ob i _ he).zp cF h.hs.slt aM hg hl q3;have lg:d9 w'.heap b0 off0 1=[.slice (some ⟨b1,o1,none⟩) l.length cap]:=by
     rw [l6 (bh.frame b0 dL ll)]; exact nh
    exact bg (OB.set (h.hs.ob i _ he) bM h.hs.slt (.inr ⟨_,_,_,_,rfl,rfl⟩) aM hg hl (by rw [aV]; exact Nat.le_refl _) q3 (λ c cr qg=>bh.frame c cr qg) (by
     show i6 w'.heap S (.d0 true t0) [b1] (d9 w'.heap b0 off0 1) _;rw [lg]; exact fD) aG).1
 obtain ⟨O,aS,ou⟩:=tV;refine ⟨w',_,ji,h.renew he (TM bK) F4.nil (L:=l7 ι i e) (bh.mono (by simpa using dy)) (λ b hb=>.inl hb) (λ _ h=>h) (λ _ h=>.inl h) (O':=O) aS (λ c cN=>?_)⟩;have:=h.hs.bl i e he c (ou c cN);exact ⟨this.1,.inr (ou c cN),by rw [aV]; exact this.2.2⟩
theorem c05 (h:RS B S ι s a w) {i:Nat} {e:i7} (he:look i s.hp=some e) {p:List Step} {r:Sigma Ty.den} (bK:yP e p r=true) (hr:e.E1 r=e):∃ ι',RS B S ι' ((s.Z5 i e.Z6).w8 i (e.E1 r)) a w:=by
 have eQ:=TM bK;rw [hr] at eQ ⊢;have hs:ι.C8 i (ι.own i)=ι:=by
  cases ι with
  | mk r c o =>
   simp only [Ix.C8,Ix.mk.injEq,true_and]
   funext j
   split
   ·rename_i e9; rw [e9]
   ·rfl
 exact ⟨_,h.renew he eQ F4.nil (L:=l7 ι i e) ⟨rfl,.refl _,rfl,Nat.le_refl _,λ _ _ _=>rfl⟩ (λ b hb=>.inl hb) (λ _ h=>h) (λ _ h=>.inl h) (O':=ι.own i) (by rw [hs]; exact h.hs.ob i e he) (λ c cN=>by
  rw [hs] at cN;have:=h.hs.bl i e he c cN;exact ⟨this.1,.inr cN,this.2.2⟩)⟩
theorem Iu (h:RS B S ι s a w) {v:AV} {val:Value} (hv:VX w.heap S ι s.hp v [val]) {i:Nat} {p:List Step} {lo hi:Int} (hd:v.wu s=some (i,p,lo,hi)) :
  ∃ e t0 l A cap c A',look i s.hp=some e/\x7 e.ty e.x p/\l4 e.ty e.x p=some ⟨.d0 true t0,l⟩/\Cells w.heap ι i e p (.d0 true t0) [.slice A (List.length l) cap]/\0<=lo/\lo<=hi/\hi<=(List.length l:Int) /\
   val=.slice A' (hi - lo).toNat c/\(c≠0->A'=A.map (·.add (lo.toNat*t0.size)))/\(hi - lo).toNat<=c:=by
 unfold AV.wu at hd;split at hd
 ·rename_i j q
  split at hd
  ·rename_i t0 l cO
   cases hd;obtain ⟨e,u,y,cs,h1,h2,h3,h4,h5⟩:=hv;have hg:=H8 h1 cO;rw [h3] at hg; cases hg;obtain ⟨O2,m1,m2,m3⟩:=G4 h.hs h1 h2 h3 h4;obtain ⟨A,cap,hcs,hle⟩:∃ A cap,cs=[.slice A (List.length l) cap]/\List.length l<=cap:=by
    rcases m3 with ⟨_,⟨A,c,e0,eO⟩,hl⟩|⟨b2,o2,cap2,O',c1,c2,_⟩
    ·subst hl; exact ⟨A,c,e0,Nat.zero_le _⟩
    ·exact ⟨_,_,c1,c2⟩
   subst hcs;refine ⟨e,t0,l,A,cap,cap,A,h1,h2,h3,h4,Int.le_refl _,by omega,Int.le_refl _,?_,λ _=>?_,by omega⟩
   ·have h5:val=.slice A (List.length l) cap:=by simpa [n8,Ty.agg] using h5
    rw [h5,show ((List.length l:Int) - 0).toNat=List.length l by omega]
   ·cases A with
    | none=>rfl
    | some A=>simp [Addr.add]
  ·cases hd
 ·rename_i j q lo' cR
  split at hd
  ·rename_i t0 l cO
   cases hd;obtain ⟨e,v',h1,h2,h3,h4,h5,h6⟩:=hv;have hg:=H8 h1 cO;cases h3;rcases h6 with ⟨t1,l1,A,cap,k1,k2,k3,c,A',k4,k5,k6,k7⟩|⟨n,t1,l1,b,off,k1,_,_,_⟩
   ·rw [k1] at hg; cases hg
    exact ⟨e,t0,l,A,cap,c,A',h1,h2,k1,k3,h4,h5,k2,k4,k5,k6⟩
   ·rw [k1] at hg; cases hg
  ·cases hd
 ·cases hd
theorem ZX {t:Ty} {O:List Nat} {cs:List Value} {l:List t.den} (cd:t.shared=true) (hr:j6 (i6 w.heap S t) t.size O cs l):∀ {k:Nat},j6 (i6 w.heap S t) t.size [] (cs.take (k*t.size)) (l.take k):=by
 have hO:=j6.N5 (λ _ _ _ hr=>i6.N5 cd hr) hr;subst hO;intro k
 induction k generalizing cs l with
 | zero=>simp only [Nat.zero_mul,List.take_zero]; exact ⟨rfl,rfl⟩
 | succ k ih =>
  match l,hr with
  | [],⟨_,e⟩=>subst e; simp only [List.take_nil]; exact ⟨rfl,rfl⟩
  | x::l,⟨O1,O2,e,r1,r2⟩ =>
   obtain ⟨rfl,rfl⟩:=List.append_eq_nil_iff.1 e.symm;refine ⟨[],[],rfl,?_,?_⟩
   ·rw [List.take_take,Nat.min_eq_left (by rw [Nat.succ_mul]; omega)]; exact r1
   ·rw [List.drop_take,show (k+1)*t.size - t.size=k*t.size by rw [Nat.succ_mul]; omega]; exact ih r2
theorem Lk {P:Program} (h:RS B S ι s a w) {v:AV} {val:Value} (hv:VX w.heap S ι s.hp v [val]) {i:Nat} {p:List Step} {lo hi:Int} (hd:v.wu s=some (i,p,lo,hi)) {t:Ty} {m:List t.den} (hm:(m.length:Int)<=hi - lo) {news:List Value} (hN:j6 (i6 w.heap S t) t.size [] news m)
  {s':St} (hf:vU s i p lo.toNat t m=some s'):∃ w' ι' A' c,val=.slice A' (hi - lo).toNat c/\RS B S ι' s' a w'/\((A'=none/\m=[]/\w'=w)\/∃ A,A'=some A/\(storeCells A news).run P w=.ok () w'):=by
 obtain ⟨e,t0,l,A,cap,c,A',h1,h2,h3,h4,h5,h6,h7,h8,h9,fW⟩:=Iu h hv hd;unfold vU at hf;have aS:s.obj i=some e:=h1;rw [aS] at hf;simp only [h3] at hf;split at hf
 ·rename_i ht
  subst ht;split at hf
  ·rename_i r aG
   split at hf
   ·rename_i hc
    simp only [Bool.and_eq_true] at hc;cases hf;have aG:s9 e.ty e.x p (.d0 true t) (l.take lo.toNat++m++l.drop (lo.toNat+m.length))=some r:=aG;by_cases ib:m=[]
    ·subst ib
     have cX:news=[]:=hN.2;subst cX;have bg:s9 e.ty e.x p (.d0 true t) l=some r:=by
      rw [<- aG]; congr 1; simp
     have hr:r=⟨e.ty,e.x⟩:=by
      have:=Rp h2 h3;rw [bg] at this; cases this; rfl
     have oL:e.E1 r=e:=by
      rw [hr];cases e with
      | K5=>rfl
      | _=>rfl
     obtain ⟨ι',cn⟩:=c05 h h1 hc.2 oL;refine ⟨w,ι',A',c,h8,cn,?_⟩;cases A' with
     | none=>exact .inl ⟨rfl,rfl,rfl⟩
     | some A=>exact .inr ⟨A,rfl,by simp [storeCells]⟩
    ·have ia:1<=m.length:=List.length_pos_iff.2 ib
     have eO:c≠0:=by omega
     have hA:=h9 eO;obtain ⟨Op,m1,mn,hR⟩:=G4 h.hs h1 h2 h3 h4;rcases hR with ⟨_,⟨A9,c9,e0,uP⟩,hl⟩|⟨b2,o2,cap2,O',c1,c2,c3,_⟩
     ·rw [hl] at h7; simp at h7; omega
     ·simp only [List.cons.injEq,Value.slice.injEq,and_true,true_and] at c1
      obtain ⟨rfl,rfl⟩:=c1;obtain ⟨w',ι',k1,k2⟩:=b74 (P:=P) h h1 h2 h3 hc.1 h4 (c3.2 rfl) (lo:=lo.toNat) (m:=m) (by omega) hN aG hc.2;refine ⟨w',ι',A',c,h8,k2,.inr ⟨⟨b2,o2+lo.toNat*t.size,none⟩,by rw [hA]; simp [Addr.H6],k1⟩⟩
   ·cases hf
  ·cases hf
 ·cases hf
end
end Go.Ex
namespace Go.Ex
theorem Sg {P:Program} {k:Nat} {T:TypeId} {t:Ty} (h:o6 P k T (.hole t)=true):∃ e,P.underlying T=some (.slice e):=by
 cases k with
 | zero=>simp [o6] at h
 | succ k =>
  obtain ⟨d,h1,h2⟩:=Q6 h;simp only [o6,Bool.and_eq_true,h1] at h;obtain ⟨_,h⟩:=h;cases d<;>first|(exact (Bool.false_ne_true h).elim)|skip
  ·exact ⟨_,h1⟩
  ·rename_i fs
   have h:n6 (o6 P k) fs.toList 0 (.hole t)=true:=h;cases hf:fs.toList<;>(rw [hf] at h; simp [n6] at h)
theorem Qn {P:Program} {k:Nat} {T:TypeId} {t:Ty} (h:o6 P k T (.B8 t)=true):∃ e,P.underlying T=some (.slice e):=by
 cases k with
 | zero=>simp [o6] at h
 | succ k =>
  obtain ⟨d,h1,h2⟩:=Q6 h;simp only [o6,Bool.and_eq_true,h1] at h;obtain ⟨_,h⟩:=h;cases d<;>first|(exact (Bool.false_ne_true h).elim)|skip
  ·exact ⟨_,h1⟩
  ·rename_i fs
   have h:n6 (o6 P k) fs.toList 0 (.B8 t)=true:=h;cases hf:fs.toList<;>(rw [hf] at h; simp [n6] at h)
section
variable {E:Env} {B:E3} {S S':Nat->Prop} {ι:Ix} {s:St} {a:Act} {w:World} {hp:List (Nat×i7)} {H H':Array Go.Obj}
theorem TF {P:Program} {e:TypeId} {t:Ty} {n d:Nat} (hT:o6 P n e t=true)
  (hA:∀ {cs cs':List Value} {x y:t.den},i6 H S t [] cs x->i6 H' S' t [] cs' y->(Op.equalIn d e (n8 t cs) (n8 t cs')).run P w=.ok (W0 t x y) w) {cs cs':List Value} :
  ∀ {l l':List t.den} {k:Nat},l.length=l'.length->j6 (i6 H S t) t.size [] (cs.drop (k*t.size)) l->j6 (i6 H' S' t) t.size [] (cs'.drop (k*t.size)) l' ->
   (Op.eqItems d e t.size cs.toArray cs'.toArray (List.range' k l.length)).run P w=.ok (W0.yM (W0 t) l l') w
 | [],[],k,_,_,_=>by simp [Op.eqItems,W0.yM]
 | [],_::_,_,h,_,_=>by cases h
 | _::_,[],_,h,_,_=>by cases h
 | x::l,y::l',k,hl,⟨O1,O2,e1,h1,h2⟩,⟨O3,O4,e2,h3,h4⟩=>by
  obtain ⟨rfl,rfl⟩:=List.append_eq_nil_iff.1 e1.symm;obtain ⟨rfl,rfl⟩:=List.append_eq_nil_iff.1 e2.symm;have p1:=yw (w:=w) hT h1;have p2:=yw (w:=w) hT h3;have e3:=hA h1 h3;have hk:k*t.size+t.size=(k+1)*t.size:=by rw [Nat.succ_mul]
  rw [List.drop_drop,hk] at h2 h4;have ih:=TF hT hA (l:=l) (l':=l') (k:=k+1) (by simpa using hl) h2 h4;simp only [List.length_cons,List.range'_succ,Op.eqItems,Sem.run_bind,p1,p2,Result.andThen,e3,W0.yM];cases hq:W0 t x y with
  | true=>simpa using ih
  | false=>simp
theorem run_eq {P:Program}:∀ (t:Ty),
  (∀ {n m d:Nat} {T:TypeId} {cs cs':List Value} {x y:t.den},o6 P n T t=true->Y1 P m T t=true->t.ht<d->i6 H S t [] cs x->i6 H' S' t [] cs' y->(Op.equalIn d T (n8 t cs) (n8 t cs')).run P w=.ok (W0 t x y) w) /\
  (∀ {n m d off:Nat} {fs:List Field} {cs cs':List Value} {x y:t.den},n6 (o6 P n) fs off t=true->yb (Y1 P m) fs t=true->t.ht<=d->i6 H S t [] ((cs.drop off).take t.size) x->i6 H' S' t [] ((cs'.drop off).take t.size) y ->
   (Op.eqFields d cs.toArray cs'.toArray fs).run P w=.ok (W0 t x y) w):=by
 intro t;have strct:∀ {t:Ty},t.agg=true->(∀ n u,t≠.arr n u) ->
  (∀ {n m d off:Nat} {fs:List Field} {cs cs':List Value} {x y:t.den},n6 (o6 P n) fs off t=true->yb (Y1 P m) fs t=true->t.ht<=d->i6 H S t [] ((cs.drop off).take t.size) x->i6 H' S' t [] ((cs'.drop off).take t.size) y ->
   (Op.eqFields d cs.toArray cs'.toArray fs).run P w=.ok (W0 t x y) w) ->
  (∀ {n m d:Nat} {T:TypeId} {cs cs':List Value} {x y:t.den},o6 P n T t=true->Y1 P m T t=true->t.ht<d->i6 H S t [] cs x->i6 H' S' t [] cs' y->(Op.equalIn d T (n8 t cs) (n8 t cs')).run P w=.ok (W0 t x y) w):=by
  intro t dn lK hB n m d T cs cs' x y hT hq hd h1 h2;obtain ⟨fs,k',g1,g2⟩:=LN hT dn lK;have gg:P.underlying T=some (.struct (P.fieldsOf T)):=by simp [Program.fieldsOf,g1]
  have fT:P.fieldsOf T=fs:=by rw [g1] at gg; cases gg; rfl
  cases m with
  | zero=>simp [Y1] at hq
  | succ m =>
   have hq:(!P.stoodInHeld T && yb (Y1 P m) fs.toList t)=true:=by
    simp only [Y1,g1] at hq;exact hq
   simp only [Bool.and_eq_true,Bool.not_eq_true'] at hq;obtain ⟨d,rfl⟩:∃ e,d=e+1:=⟨d - 1,by omega⟩;have hv:∀ cs,n8 t cs=.agg cs.toArray:=by intro cs; simp [n8,dn]
   rw [hv,hv,run_equalIn_struct w d T _ _ gg hq.1,fT];refine hB g2 hq.2 (by omega) ?_ ?_
   ·rw [List.drop_zero,List.take_of_length_le (by rw [h1.length]; exact Nat.le_refl _)]; exact h1
   ·rw [List.drop_zero,List.take_of_length_le (by rw [h2.length]; exact Nat.le_refl _)]; exact h2
 induction t with
 | int k =>
  refine ⟨?_,by intro n m d off fs cs cs' x y h; cases fs<;>simp [n6] at h⟩;rintro n m d T cs cs' x y hT _ hd ⟨_,rfl,_⟩ ⟨_,rfl,_⟩;obtain ⟨d,rfl⟩:∃ e,d=e+1:=⟨d - 1,by omega⟩;exact run_equalIn_int w d T k k x y (yx hT)
 | bool =>
  refine ⟨?_,by intro n m d off fs cs cs' x y h; cases fs<;>simp [n6] at h⟩;rintro n m d T cs cs' x y hT _ hd ⟨_,rfl⟩ ⟨_,rfl⟩;obtain ⟨d,rfl⟩:∃ e,d=e+1:=⟨d - 1,by omega⟩;exact run_equalIn_bool (ER hT) d x y
 | str =>
  refine ⟨?_,by intro n m d off fs cs cs' x y h; cases fs<;>simp [n6] at h⟩;rintro n m d T cs cs' x y hT _ hd ⟨_,rfl,_⟩ ⟨_,rfl,_⟩;obtain ⟨d,rfl⟩:∃ e,d=e+1:=⟨d - 1,by omega⟩;have:=run_equalIn_string w d T (⟨(x:yY).toArray⟩:ByteArray) ⟨(y:yY).toArray⟩ (X3 hT);refine Eq.trans this ?_;rw [ByteArray.toList_eq,ByteArray.toList_eq];congr 1;show ((x:yY) == y)=decide ((x:yY)=y);rw [Bool.eq_iff_iff]; simp
 | unit =>
  have hB:∀ {n m d off:Nat} {fs:List Field} {cs cs':List Value} {x y:Ty.unit.den},n6 (o6 P n) fs off .unit=true->yb (Y1 P m) fs .unit=true->Ty.unit.ht<=d->i6 H S .unit [] ((cs.drop off).take Ty.unit.size) x->i6 H' S' .unit [] ((cs'.drop off).take Ty.unit.size) y ->
   (Op.eqFields d cs.toArray cs'.toArray fs).run P w=.ok (W0 .unit x y) w:=by
   intro n m d off fs cs cs' x y h _ _ _ _;cases fs with
   | nil=>simp [Op.eqFields,W0]
   | cons f fs=>simp [n6] at h
  exact ⟨strct rfl (by simp) hB,hB⟩
 | pair p q ihp ihq =>
  have hB:∀ {n m d off:Nat} {fs:List Field} {cs cs':List Value} {x y:(Ty.pair p q).den},n6 (o6 P n) fs off (.pair p q)=true->yb (Y1 P m) fs (.pair p q)=true->(Ty.pair p q).ht<=d ->
    i6 H S (.pair p q) [] ((cs.drop off).take (Ty.pair p q).size) x->i6 H' S' (.pair p q) [] ((cs'.drop off).take (Ty.pair p q).size) y->(Op.eqFields d cs.toArray cs'.toArray fs).run P w=.ok (W0 (.pair p q) x y) w:=by
   rintro n m d off fs cs cs' x y hf hq hd ⟨O1,O2,e1,h1,h2⟩ ⟨O3,O4,e2,h3,h4⟩;obtain ⟨rfl,rfl⟩:=List.append_eq_nil_iff.1 e1.symm;obtain ⟨rfl,rfl⟩:=List.append_eq_nil_iff.1 e2.symm;cases fs with
   | nil=>simp [n6] at hf
   | cons f fs =>
    simp only [n6,Bool.and_eq_true] at hf;simp only [yb,Bool.and_eq_true] at hq;obtain ⟨⟨⟨⟨g1,_⟩,g3⟩,g4⟩,g5⟩:=hf;have g1:f.offset=off:=Nat.eq_of_beq_eq_true g1;have ta:p.ht+1<=d/\q.ht<=d:=by
     have:max (p.ht+1) q.ht<=d:=hd;omega
    have aV:(Ty.pair p q).size=p.size+q.size:=rfl;rw [List.take_take,Nat.min_eq_left (by omega)] at h1 h3;rw [List.drop_take,List.drop_drop,aV,Nat.add_sub_cancel_left] at h2 h4;rw [<- g1] at h1 h3;have p1:=yw (w:=w) g3 h1;have p2:=yw (w:=w) g3 h3;have e3:=ihp.1 (d:=d) g3 hq.1 (by omega) h1 h3;have ih:=ihq.2 (d:=d) (cs:=cs) (cs':=cs') g5 hq.2 ta.2 h2 h4;have hn:f.name≠ "_":=by simpa using g4
    simp only [Op.eqFields,hn,ne_eq,not_false_eq_true,if_true,Sem.run_bind,p1,p2,Result.andThen,e3,W0];cases hh:W0 p x.1 y.1 with
    | true=>simpa using ih
    | false=>simp
  exact ⟨strct rfl (by simp) hB,hB⟩
 | arr k t ih =>
  refine ⟨?_,by intro n m d off fs cs cs' x y h; cases fs<;>simp [n6] at h⟩;rintro n m d T cs cs' x y hT hq hd ⟨h1,h2⟩ ⟨h3,h4⟩;obtain ⟨e,k',g1,g2,g3⟩:=xU hT;cases m with
  | zero=>simp [Y1] at hq
  | succ m =>
   have hq:Y1 P m e t=true:=by simpa only [Y1,g1] using hq
   obtain ⟨d,rfl⟩:∃ e,d=e+1:=⟨d - 1,by omega⟩;obtain ⟨i,hi,sY,_⟩:=W8 g3;have hc:P.cellsOf e=t.size:=by simp [Program.cellsOf,hi,sY]
   have hv:∀ cs,n8 (.arr k t) cs=.agg cs.toArray:=λ cs=>rfl;have ki:t.ht<d:=by have:t.ht+1<d+1:=hd; omega
   rw [hv,hv,run_equalIn_array w d _ _ g1 hi,hc,List.range_eq_range'];have:=TF (w:=w) (cs:=cs) (cs':=cs') (l:=x) (l':=y) (k:=0) g3 (λ a b=>ih.1 g3 hq ki a b) (by rw [h1,h3]) (by simpa using h2) (by simpa using h4);rw [h1] at this;exact this
 | fn f =>
  refine ⟨?_,by intro n m d off fs cs cs' x y h; cases fs<;>simp [n6] at h⟩;rintro n m d T cs cs' x y hT hq;obtain ⟨_,_,_,g1⟩:=OO hT;cases m<;>simp [Y1,g1] at hq
 | map o a b =>
  refine ⟨?_,by intro n m d off fs cs cs' x y h; cases fs<;>simp [n6] at h⟩;rintro n m d T cs cs' x y hT hq;obtain ⟨_,_,_,g1,_⟩:=Js hT;cases m<;>simp [Y1,g1] at hq
 | box o g t =>
  refine ⟨?_,by intro n m d off fs cs cs' x y h; cases fs<;>simp [n6] at h⟩;rintro n m d T cs cs' x y hT hq;cases g with
  | none =>
   obtain ⟨_,_,g1,_⟩:=Jr hT;cases m<;>simp [Y1,g1] at hq
  | some f =>
   obtain ⟨_,_,_,g1⟩:=Sf hT;cases m<;>simp [Y1,g1] at hq
 | d0 o t ih =>
  refine ⟨?_,by intro n m d off fs cs cs' x y h; cases fs<;>simp [n6] at h⟩;rintro n m d T cs cs' x y hT hq;obtain ⟨e,k',g1,_⟩:=F7 hT;cases m<;>simp [Y1,g1] at hq
 | hole t ih =>
  refine ⟨?_,by intro n m d off fs cs cs' x y h; cases fs<;>simp [n6] at h⟩;rintro n m d T cs cs' x y hT hq;obtain ⟨e,g1⟩:=Sg hT;cases m<;>simp [Y1,g1] at hq
 | B8 t ih =>
  refine ⟨?_,by intro n m d off fs cs cs' x y h; cases fs<;>simp [n6] at h⟩;rintro n m d T cs cs' x y hT hq;obtain ⟨e,g1⟩:=Qn hT;cases m<;>simp [Y1,g1] at hq
theorem RO (hE:D0 E B) (h:RS B S ι s a w) {o:Oper} {op:BinOp} {T T':TypeId} {x y:Operand} (ho:o.op=.binOp op T x y T') {t u:Ty} {p:t.den} {q:u.den} (hx:s.ev x=.val t p) (hy:s.ev y=.val u q):F0 E.P B o a w (eqA E T op t p u q s):=by
 unfold eqA
 split
 ·rename_i hu
  subst hu;have core:(u.agg && I8 E T u && Y1 E.P 100 T u && !(E.P.eqGuardType E.P.depth T) && Nat.blt u.ht 100)=true ->
    ∃ cs cs',a.eval x=.agg cs/\a.eval y=.agg cs'/\(∀ op,(eqGuard op T x y (a.eval x) (a.eval y)).run E.P w=.ok () w)/\(Op.equalIn 10000 T (.agg cs) (.agg cs')).run E.P w=.ok (W0 u p q) w:=by
   intro hc;simp only [Bool.and_eq_true,Bool.not_eq_true',Nat.blt_eq] at hc;obtain ⟨⟨⟨⟨c1,c2⟩,c3⟩,c4⟩,c5⟩:=hc;obtain ⟨cs,e1,h1⟩:=C4 h hx;obtain ⟨cs',e2,h2⟩:=C4 h hy;have hv:∀ cs,n8 u cs=.agg cs.toArray:=by intro cs; simp [n8,c1]
   have e1:a.eval x=.agg cs.toArray:=by rw [hv] at e1; simpa using e1
   have e2:a.eval y=.agg cs'.toArray:=by rw [hv] at e2; simpa using e2
   refine ⟨_,_,e1,e2,λ op=>by rw [e1,e2]; exact run_eqGuard_agg w op T x y _ _ c4,?_⟩;have:=(run_eq (P:=E.P) (w:=w) (H:=w.heap) (H':=w.heap) (S:=S) (S':=S) u).1 (d:=10000) (D4 hE c2) c3 (by omega) h1 h2
   rwa [hv,hv] at this
  split
  ·rename_i hc
   obtain ⟨cs,cs',e1,e2,hg,he⟩:=core hc;refine y9.value (val:=.bool (W0 u p q)) ?_ h VX.bool;rw [N0 ho (hg .eql) (r:=.ok (.bool (W0 u p q)) w)]; rfl;rw [e1,e2,run_eql_struct,he]; rfl
  ·rename_i hc
   obtain ⟨cs,cs',e1,e2,hg,he⟩:=core hc;refine y9.value (val:=.bool (!(W0 u p q))) ?_ h VX.bool;rw [N0 ho (hg .neq) (r:=.ok (.bool (!(W0 u p q))) w)]; rfl;rw [e1,e2,run_neq_struct,he]; rfl
  ·trivial
 ·trivial
theorem c0H (hE:D0 E B) (h:RS B S ι s a w) {o:Oper} {op:BinOp} {T T':TypeId} {x y:Operand} (ho:o.op=.binOp op T x y T') {i:Nat} {p:List Step} (ex:s.ev x=.ptr i p) (ey:s.ev y=.raw (.pointer none)):F0 E.P B o a w (zF E T op s):=by
 have hx:=h.ev x;have hy:=h.ev y;rw [ex] at hx; rw [ey] at hy;obtain ⟨e,b,off,-,-,-,hx⟩:=hx;have hx:a.eval x=.pointer (some ⟨b,off,none⟩):=by simpa using hx
 have hy:a.eval y=.pointer none:=by
  have hy:[a.eval y]=[Value.pointer none]:=hy;simpa using hy
 have hg:(eqGuard op T x y (a.eval x) (a.eval y)).run E.P w=.ok () w:=by rw [hx,hy]; cases op<;>rfl
 have run:∀ {o':Bool} {t:Ty} {n:Nat},look T E.tt=some ⟨.box o' none t,n⟩->(Op.equal T (.pointer (some ⟨b,off,none⟩)) (.pointer none)).run E.P w=.ok false w:=by
  intro o' t n hl;obtain ⟨e',k',h1,-⟩:=Jr (r7 (B:=B) hE hl);have key:∀ d,(Op.equalIn (d+1) T (.pointer (some ⟨b,off,none⟩)) (.pointer none)).run E.P w=.ok false w:=λ d=>by simp [Op.equalIn,s5 h1]
  exact key 9999
 unfold zF
 split
 ·rename_i hl
  exact y9.value (by rw [N0 ho hg (r:=.ok (.bool false) w)]; rfl; rw [hx,hy]; simp [binOp,run hl]) h VX.bool
 ·rename_i hl
  exact y9.value (by rw [N0 ho hg (r:=.ok (.bool true) w)]; rfl; rw [hx,hy]; simp [binOp,run hl]) h VX.bool
 ·trivial
theorem c1Z (hE:D0 E B) (h:RS B S ι s a w) {o:Oper} {op:BinOp} {T T':TypeId} {x y:Operand} (ho:o.op=.binOp op T x y T'):F0 E.P B o a w (wH E T op (s.ev x) (s.ev y) s):=by
 unfold wH
 split
 ·rename_i e1 e2; exact c0H hE h ho e1 e2
 ·rename_i e1 e2; exact RO hE h ho e1 e2
 ·rename_i e1 e2; exact RO hE h ho e1 e2
 ·exact c2a hE h ho
end
end Go.Ex
namespace Go.Ex
section
variable {E:Env} {B:E3} {S S':Nat->Prop} {ι:Ix} {s:St} {a:Act} {w:World} {hp:List (Nat×i7)} {H H':Array Go.Obj}
theorem We (h:HS B S ι s.hp w) {v:AV} {val:Value} (hv:VX w.heap S ι s.hp v [val]) {k u:Ty} {m:Option (List (k.den×u.den))} (hm:v.mp s=some ⟨(k,u),m⟩) :
  (m=none/\val=.map none)\/∃ l b es ck,m=some l/\val=.map (some b)/\w.heap[b]?=some (.map es ck)/\vg (i6 w.heap S k []) (i6 w.heap S u []) k u es.toList l:=by
 have key:∀ {o:Bool} {O:List Nat} {cs:List Value},i6 w.heap S (.map o k u) O cs m->val=n8 (.map o k u) cs->(m=none/\val=.map none)\/∃ l b es ck,m=some l/\val=.map (some b)/\w.heap[b]?=some (.map es ck)/\vg (i6 w.heap S k []) (i6 w.heap S u []) k u es.toList l:=by
  rintro o O cs (⟨h1,_,rfl⟩|⟨l,b,es,ck,h1,rfl,h3,h4,_⟩) e
  ·exact .inl ⟨h1,by simpa [n8,Ty.agg] using e⟩
  ·exact .inr ⟨l,b,es,ck,h1,by simpa [n8,Ty.agg] using e,h3,h4⟩
 unfold AV.mp at hm;split at hm
 ·cases hm
  obtain ⟨cs,e,hR⟩:=hv;exact key hR (by simpa using e)
 ·rename_i i p
  split at hm
  ·rename_i o k' v' m' cO
   cases hm;obtain ⟨e,u',y,cs,k1,k2,k3,k4,k5⟩:=hv;have hg:=H8 k1 cO;rw [k3] at hg; cases hg;obtain ⟨O2,m1,m2,m3⟩:=G4 h k1 k2 k3 k4;exact key m3 (by simpa using k5)
  ·cases hm
 ·cases hm
theorem b4v (hE:D0 E B) (h:RS B S ι s a w) {o:Oper} {T:TypeId} {x y:Operand} {ok:Bool} (ho:o.op=.lookup T x y ok):F0 E.P B o a w (IC E T (s.ev x) (s.ev y) ok s):=trivial
theorem b4u (_hE:D0 E B) (h:RS B S ι s a w) {o:Oper} {T:TypeId} {r:Option Operand} (ho:o.op=.makeMap T r):F0 E.P B o a w (m0 E o s):=by
 unfold m0; rw [ho]; trivial
theorem b4I (hE:D0 E B) (h:RS B S ι s a w) {o:Oper} {c:Call} (ho:o.op=.call c) (hc:c.callee=.builtin .append) {x y:Operand} {T U:TypeId} (ha:c.args.toList=[x,y]) (eY:c.argTypes.toList=[T,U])
  {kd:IntKind} (hU:E.P.underlying U=some (.int kd)):F0 E.P B o a w (Ao E T (s.ev x) (s.ev y) o.dst s):=by
 unfold Ao
 split
 ·rename_i t0 bts d k n hT hd hx hy
  refine F0.ID (λ v s' hl hp=>?_);have cX:@LE.le Int Int.instLEInt 0 n:=hp.1;obtain ⟨N,rfl⟩:∃ N:Nat,n=((N:Nat):Int):=⟨Int.toNat n,(Int.toNat_of_nonneg cX).symm⟩;have cF:N<=140737488355328:=by have:@LE.le Int Int.instLEInt (N:Int) 140737488355328:=hp.2.1; omega
  have gP:N*t0.wb<=140737488355328:=by
   have:@LE.le Int Int.instLEInt ((N:Int)*(t0.wb:Nat)) 140737488355328:=hp.2.2;rw [<- Int.natCast_mul] at this;omega
  obtain ⟨et,k2,h1,h2,h3⟩:=F7 (r7 hE hT);obtain ⟨i,hi,eA,kT⟩:=W8 h3;have lO:=Lp h3 hi;have eh:a.eval x=.slice none 0 0:=by simpa using (show [a.eval x]=[Value.slice none 0 0] from C4 h hx)
  obtain ⟨dG,_⟩:=VX.H9 (C4 h hy);have aD:c.args=#[x,y]:=by rw [<- ha]
  have eB:c.argTypes=#[T,U]:=by rw [<- eY]
  have dY:=h.w9 (g:=[]) rfl;have e0:List.replicate (Int.toNat (N:Int)) t0.s6=List.replicate N t0.s6:=rfl;by_cases h0:N=0
  ·subst h0
   have aO:(execOp a.eval o).run E.P w=.ok (.value (.slice none 0 0)) w:=by
    have:IntKind.i64.wrap 0=0:=rfl;simp [execOp,ho,resolve,hc,invoke,builtin,aD,eB,Builtin.append_,s5 h1,s5 hU,eh,dG,run_sizeOf h3,asInt,asIntOf,this,typeInfo,hi,Result.andThen]
   exact y9.lay hl aO (O:=[]) (cs:=[.slice none 0 0]) (by simp [n8,Ty.agg]) (.inl ⟨rfl,⟨none,0,rfl,λ _=>rfl⟩,rfl⟩) dY F4.nil
  ·have hr:=Lib.run_append_grow_zeros (P:=E.P) w T U o.type et i (n8 t0 (zc t0)) k kd h1 hU hi kT none 0 0 [] (run_firstCells_none w.drew _ 0 0 0) N (by omega) (by rw [eA]; exact h2) (by omega) (by omega) (by rw [lO]; omega) (by rw [lO]; exact growslice_fits (by omega) (by simpa using gP))
   simp only [Nat.zero_add] at hr;have kg:=grownCap_ge w N 0 et;have fQ:=grownCap_le_maxLen w N 0 et (by unfold maxLen; omega);generalize kX:grownCap w N 0 et=gc at hr kg fQ;have jc:(n8 t0 (zc t0)).cells=(zc t0).toArray:=(i6.s6 (H:=w.heap) (S:=S) t0).cells;have bY:(([]:List Value).toArray++Builtin.zeroCells (n8 t0 (zc t0)).cells N++Builtin.zeroCells (n8 t0 (zc t0)).cells (gc - N))=((List.replicate N (zc t0)).flatten++(List.replicate (gc - N) (zc t0)).flatten).toArray:=by
    rw [jc,FA,FA]; simp
   rw [bY] at hr;have jt:((List.replicate N (zc t0)).flatten).length=N*t0.size:=by simp [Q8]
   have bh:C9 [] w (w.drew.alloc (.cells ((List.replicate N (zc t0)).flatten++(List.replicate (gc - N) (zc t0)).flatten).toArray et)):=C9.trans C9.drew (C9.push _) (by simp);obtain ⟨O',q1,q2,q3⟩:=EB (w:=w) (t:=t0) (l:=List.replicate N t0.s6) (cap:=gc) h.hs.slt (O:=[]) (cells:=(List.replicate N (zc t0)).flatten++(List.replicate (gc - N) (zc t0)).flatten) (by
    rw [List.length_replicate,List.take_left' jt]; exact j6.Hu N) (by rw [List.length_replicate]; exact kg) fQ (by
    simp only [List.length_append,jt,List.length_flatten,List.map_replicate,List.sum_replicate_nat,Q8];rw [<- Nat.add_mul]; exact Nat.mul_le_mul_right _ (by omega)) et (by simp) (w':=w.drew.alloc (.cells ((List.replicate N (zc t0)).flatten++(List.replicate (gc - N) (zc t0)).flatten).toArray et)) rfl (.inl rfl)
   rw [List.length_replicate] at q1;have aO:(execOp a.eval o).run E.P w=.ok (.value (.slice (some ⟨w.heap.size,0,none⟩) N gc)) (w.drew.alloc (.cells ((List.replicate N (zc t0)).flatten++(List.replicate (gc - N) (zc t0)).flatten).toArray et)):=by
    simp [execOp,ho,resolve,hc,invoke,builtin,aD,eB,eh,dG,hr]
   have aV:w.heap.size<(w.drew.alloc (.cells ((List.replicate N (zc t0)).flatten++(List.replicate (gc - N) (zc t0)).flatten).toArray et)).heap.size:=by
    show w.heap.size<(w.heap.push _).size;simp
   exact y9.lay hl aO (cs:=[.slice (some ⟨w.heap.size,0,none⟩) N gc]) (by simp [n8,Ty.agg]) q1 (dY.vm F4.nil bh) (F4.new dY F4.nil bh aV q2 (q3 List.nodup_nil))
 ·trivial
theorem vg.length {α β:Type} {R:List Value->α->Prop} {R':List Value->β->Prop} {t u:Ty}:∀ {es:List MapEntry} {l:List (α×β)},vg R R' t u es l->es.length=l.length
 | [],l,h=>by rw [show l=[] from h]; rfl
 | _::es,_,⟨x,y,l',cs,ds,rfl,_,_,_,_,h⟩=>by simp [vg.length h]
theorem vg.set {α β:Type} {R:List Value->α->Prop} {R':List Value->β->Prop} {t u:Ty} {e:MapEntry} {x:α} {y:β} {cs ds:List Value} (h1:e.key=n8 t cs) (h2:R cs x) (h3:e.val=n8 u ds) (h4:R' ds y) :
  ∀ {es:List MapEntry} {l:List (α×β)} {i:Nat},i<es.length->vg R R' t u es l->vg R R' t u (es.set i e) (l.set i (x,y))
 | [],_,_,hi,_=>by simp at hi
 | _::es,_,0,_,⟨x',y',l',c,d,rfl,g1,g2,g3,g4,h⟩=>⟨x,y,l',cs,ds,rfl,h1,h2,h3,h4,h⟩
 | _::es,_,i+1,hi,⟨x',y',l',c,d,rfl,g1,g2,g3,g4,h⟩=>⟨x',y',l'.set i (x,y),c,d,rfl,g1,g2,g3,g4,vg.set h1 h2 h3 h4 (by simpa using hi) h⟩
theorem c0l (hE:D0 E B) (h:RS B S ι s a w) {o:Oper} {T:TypeId} {m x y:Operand} (ho:o.op=.mapUpdate T m x y):F0 E.P B o a w (Gg E T (s.ev m) (s.ev x) (s.ev y) s):=trivial
end
end Go.Ex
namespace Go.Ex
section
variable {E:Env} {B:E3} {S S':Nat->Prop} {ι:Ix} {s:St} {a:Act} {w:World} {hp:List (Nat×i7)} {H H':Array Go.Obj}
theorem NR:∀ {n:Nat} {l v:AV} {us:List Value},m0.nth n l=some v->VX H S ι hp l us->∃ u,us[n]?=some u/\VX H S ι hp v [u]
 | 0,l,v,us,h,hl=>by
  cases l<;>simp only [m0.nth] at h<;>first|cases h|skip
  obtain ⟨u,us',rfl,ha,hb⟩:=hl;exact ⟨u,rfl,ha⟩
 | n+1,l,v,us,h,hl=>by
  cases l<;>simp only [m0.nth] at h<;>first|cases h|skip
  obtain ⟨u,us',rfl,ha,hb⟩:=hl;obtain ⟨u2,e,h2⟩:=NR h hb;exact ⟨u2,by simpa using e,h2⟩
theorem TR (h:RS B S ι s a w) {o:Oper} {c:Call} (ho:o.op=.call c) {P:Program} {x:Operand} {l:List Operand} (ha:c.args.toList=x::l) {k:IntKind} {m:Int} (hx:s.ev x=.val (.int k) m) :
  (c.callee=.builtin .max->F0 P B o a w (foldI s k (λ a b=>if a<b then b else a) m l))/\(c.callee=.builtin .min->F0 P B o a w (foldI s k (λ a b=>if b<a then b else a) m l)):=by
 obtain ⟨fg,bx⟩:=VX.H9 (C4 h hx);have aD:c.args.map a.eval=(a.eval x::l.map a.eval).toArray:=by
  apply Array.ext';simp [ha]
 constructor
 ·intro hc
  cases hl:foldI s k (λ a b=>if a<b then b else a) m l with
  | fail y=>trivial
  | F5 p v s'=>exact absurd hl Kf
  | ok v s' =>
   obtain ⟨n,rfl,rfl,hn,aO⟩:=KA (P:=P) (w:=w) h (m2:=Builtin.max2) (by intro x y hx hy; split<;>assumption) (by intro x y; simp [Builtin.max2]) bx hl;refine y9.value (val:=.int k n) ?_ h (VX.int hn);simp [execOp,ho,resolve,hc,invoke,builtin,aD,fg,Builtin.max_,aO]
 ·intro hc
  cases hl:foldI s k (λ a b=>if b<a then b else a) m l with
  | fail y=>trivial
  | F5 p v s'=>exact absurd hl Kf
  | ok v s' =>
   obtain ⟨n,rfl,rfl,hn,aO⟩:=KA (P:=P) (w:=w) h (m2:=Builtin.min2) (by intro x y hx hy; split<;>assumption) (by intro x y; simp [Builtin.min2]) bx hl;refine y9.value (val:=.int k n) ?_ h (VX.int hn);simp [execOp,ho,resolve,hc,invoke,builtin,aD,fg,Builtin.min_,aO]
theorem Qr {i:Nat} {p:List Step} {lo:Nat} {t:Ty} {m:List t.den} {s':St} (hf:vU s i p lo t m=some s'):t.shared=true:=by
 unfold vU at hf;split at hf
 ·split at hf
  ·split at hf
   ·split at hf
    ·split at hf
     ·rename_i hc
      simp only [Bool.and_eq_true] at hc;exact hc.1
     ·cases hf
    ·cases hf
   ·cases hf
  ·cases hf
 ·cases hf
theorem Tl {T:TypeId} {x y:AV} {p:Prop} {v:AV} {s':St} (hI:wV E T x y s=.F5 p v s'):∃ i lo hi q t0 bts t m l,x=.sub i [] lo hi/\look T E.tt=some ⟨.d0 q t0,bts⟩/\y.vo s t0=some (⟨t,m⟩,[])/\s.obj i=some (.own (.d0 true t) l) /\
  vU s i [] hi.toNat t m=some s'/\I8 E T (.d0 true t)=true/\p=(hi+(List.length m:Int)<=(List.length l:Int))/\v=.sub i [] lo (hi+(List.length m:Int)):=by
 unfold wV at hI;split at hI
 ·rename_i i lo hi q t0 bts hT
  split at hI
  ·rename_i t m u l cp aS
   split at hI
   ·rename_i s1 hf bz hd
    cases hI;obtain rfl:=of_decide_eq_true hd;exact ⟨i,lo,hi,q,t0,bts,t,m,l,rfl,hT,cp,aS,hf,bz,rfl,rfl⟩
   ·cases hI
  ·cases hI
 ·cases hI
theorem b8C {T:TypeId} {x y:AV} {r:Prop×AV×St} (hI:(wV E T x y s).get=some r):wV E T x y s=.F5 r.1 r.2.1 r.2.2:=by
 unfold wV at hI ⊢
 repeat' split at hI
 all_goals first|(cases hI; done)|(cases hI; rfl)
theorem c3U {i:Nat} {lo:Nat} {t:Ty} {m l:List t.den} {s':St} (aS:s.obj i=some (.own (.d0 true t) l)) (hf:vU s i [] lo t m=some s'):s'=(s.Z5 i true).w8 i (.own (.d0 true t) (List.take lo l++m++List.drop (lo+m.length) l)):=by
 unfold vU at hf;rw [aS] at hf;simp only [i7.ty,i7.x,C2] at hf;rw [dif_pos trivial] at hf;simp only [s9,if_true] at hf;split at hf
 ·cases hf; rfl
 ·cases hf
theorem b4J (hE:D0 E B) (h:RS B S ι s a w) {o:Oper} {c:Call} (ho:o.op=.call c) (hc:c.callee=.builtin .append) {x y:Operand} {T U:TypeId} (ha:c.args.toList=[x,y]) (eY:c.argTypes.toList=[T,U])
  (hk:(∃ e',E.P.underlying U=some (.slice e'))\/E.P.underlying U=some .string):F0 E.P B o a w (wV E T (s.ev x) (s.ev y) s):=by
 cases hI:wV E T (s.ev x) (s.ev y) s with
 | fail why=>trivial
 | ok v s' =>
  exfalso;unfold wV at hI
  repeat' split at hI
  all_goals cases hI
 | F5 p v s' =>
  intro hp;obtain ⟨i,lo,hi,q,t0,bts,t,m,l,hx,hT,cp,aS,hf,bz,rfl,rfl⟩:=Tl hI;obtain ⟨Og,news,eH,hN,_,lS⟩:=Jw (P:=E.P) h hk cp (h.ev y);have cd:=Qr hf;have qK:Og=[]:=j6.N5 (λ _ _ _ hr=>i6.N5 cd hr) hN;subst qK;have jm:look i s.hp=some (.own (.d0 true t) l):=aS;obtain ⟨e,v',h1,h2,h3,h4,h5,h6⟩:=C4 h hx;rw [jm] at h1; cases h1;have fI:a.eval x=v':=by simpa using h3
  rcases h6 with ⟨t1,l1,a0,cap,k1,k2,k3,c0,A,k4,kA,k5,k6⟩|⟨n,t1,l1,b,off,k1,_,k3,_⟩
  rotate_left
  ·exfalso
   simp only [Loc,Place,y8,VR] at k3;simp at k3
  have k1':l4 (.d0 true t) l []=some ⟨.d0 true t1,l1⟩:=k1;rw [C2] at k1'; cases k1';have bZ:l.length<=cap:=by
   obtain ⟨O2,_,_,m3⟩:=G4 h.hs jm h2 k1 k3;rcases m3 with ⟨_,_,hl⟩|⟨b2,o2,cap2,O',c1,c2,_⟩
   ·rw [hl]; exact Nat.zero_le _
   ·simp only [List.cons.injEq,Value.slice.injEq,and_true] at c1
    rw [c1.2.2]; exact c2
  have hp:hi+(m.length:Int)<=(l.length:Int):=hp;have dX:VX w.heap S ι s.hp (.sub i [] hi (hi+(m.length:Int))) [.slice (a0.map (·.add (hi.toNat*t.size))) m.length (cap - hi.toNat)] :=
   ⟨_,_,jm,h2,rfl,by omega,by omega,.inl ⟨t,l,a0,cap,k1,hp,k3,cap - hi.toNat,_,by rw [show (hi+(m.length:Int) - hi).toNat=m.length by omega],λ _=>rfl,by omega,by omega⟩⟩
  have dY:(AV.sub i [] hi (hi+(m.length:Int))).wu s=some (i,[],hi,hi+(m.length:Int)):=by
   simp only [AV.wu,St.part,aS,i7.ty,i7.x,C2]
  obtain ⟨w',ι',A',c',e1,cn,bK⟩:=Lk (P:=E.P) h dX dY (by omega) hN hf;simp only [Value.slice.injEq] at e1;obtain ⟨e1,_,_⟩:=e1;obtain ⟨et,k',g1,g2,g3⟩:=F7 (D4 hE bz);obtain ⟨inf,mV,eA,kT⟩:=W8 g3;have aD:c.args=#[x,y]:=by rw [<- ha]
  have eB:c.argTypes=#[T,U]:=by rw [<- eY]
  have cu:(hi - lo).toNat+m.length<=c0:=by omega
  have aO:(Builtin.append_ #[T,U] o.type #[a.eval x,a.eval y]).run E.P w=.ok (.slice A ((hi - lo).toNat+m.length) c0) w':=by
   rw [fI,k4];rw [<- eA] at eH;by_cases ib:m=[]
   ·subst ib
    have cX:news=[]:=hN.2;subst cX;have rR:w'=w:=by
     rcases bK with ⟨_,_,rfl⟩|⟨A1,_,bK⟩
     ·rfl
     ·simpa [storeCells] using bK.symm
    subst rR;have iV:=eH.len;have eO:=eH.cells;simp only [List.length_nil,Nat.add_zero] at iV eO cu;rcases eH.kind with ⟨e',eU⟩|eU<;>cases A<;>simp [Builtin.append_,run_underlying g1,run_underlying eU,sizeOf,typeInfo,mV,iV,eO,storeCells,cu]
   ·have ia:1<=m.length:=List.length_pos_iff.2 ib
    rcases bK with ⟨_,js,_⟩|⟨A1,uj,bK⟩
    ·exact absurd js ib
    subst uj;obtain ⟨O2,_,_,m3⟩:=G4 h.hs jm h2 k1 k3;rcases m3 with ⟨_,_,hl⟩|⟨b2,o2,cap2,O',c1,c2,_⟩
    ·have hl:l=[]:=hl
     rw [hl] at hp; simp at hp; omega
    ·simp only [List.cons.injEq,Value.slice.injEq,and_true,true_and] at c1
     obtain ⟨rfl,rfl⟩:=c1;have hA:=kA (by omega);subst hA;simp only [Option.map_some,Option.some.injEq] at e1;subst e1;have gE:((⟨b2,o2,none⟩:Addr).add (lo.toNat*t.size)).add ((hi - lo).toNat*t.size)=(⟨b2,o2,none⟩:Addr).add (hi.toNat*t.size):=by
      rw [Addr.H6,Addr.H6,Addr.H6,Nat.add_assoc,<- Nat.add_mul,show lo.toNat+(hi - lo).toNat=hi.toNat by omega]
     rw [<- gE] at bK;simp only [Option.map_some];generalize uU:((⟨b2,o2,none⟩:Addr).add (lo.toNat*t.size))=AA at bK ⊢;rw [<- eA] at bK;rcases eH.kind with ⟨e',eU⟩|eU<;>simp [Builtin.append_,run_underlying g1,run_underlying eU,sizeOf,typeInfo,mV,eH.len,cu,eH.cells,bK]
  have fN:(execOp a.eval o).run E.P w=.ok (.value (.slice A ((hi - lo).toNat+m.length) c0)) w':=by
   simp [execOp,ho,resolve,hc,invoke,builtin,aD,eB,aO]
  intro next Q jS
  unfold Oper.wp;rw [fN];refine jS S ι' w' _ cn ?_;have lG:=c3U aS hf;have mb:s'.ev x=.sub i [] lo hi:=by
   cases x with
   | tmp n =>
    have ri:Nat.beq n I7=false:=by
     cases hb:Nat.beq n I7 with
     | true=>simp [St.ev,hb] at hx
     | false=>rfl
    have nP:(look n s.fr).getD .any=.sub i [] lo hi:=by
     have h9:=hx;simp only [St.ev,ri] at h9;exact h9
    show (match Nat.beq n I7 with|true=>AV.any|false=>s'.get n)=_;rw [ri];show (look n s'.fr).getD .any=_;rw [lG];show (look n (mapA (AV.map (AV.xK i true)) s.fr)).getD .any=_;rw [O6];cases nX:look n s.fr with
    | none=>rw [nX] at nP; cases nP
    | some u9 =>
     rw [nX] at nP;have:u9=.sub i [] lo hi:=nP;subst this;simp [AV.map,AV.xK,AV.j5]
   | const v9=>exact absurd hx (by
     simp only [St.ev];intro h9;unfold ofConst at h9
     repeat' split at h9
     all_goals cases h9)
   | global g=>cases hx
   | func f=>cases hx
  have qW:=cn.ev x;rw [mb,fI,k4] at qW;obtain ⟨e9,v9,r1,r2,r3,r4,r5,r6⟩:=qW;have mA:look i s'.hp=some (.own (.d0 true t) (List.take hi.toNat l++m++List.drop (hi.toNat+m.length) l)):=by
   rw [lG];show look i (Ex.put i _ _)=_;rw [p7,if_pos rfl]
  rw [mA] at r1; cases r1;have mN:(List.take hi.toNat l++m++List.drop (hi.toNat+m.length) l).length=l.length:=by
   simp only [List.length_append,List.length_take,List.length_drop]; omega
  rcases r6 with ⟨t2,l2,a2,cap2,q1,q2,q3,c2,A2,q4,qA,q5,q6⟩|⟨n,t2,l2,b,off,q1,_,q3,_⟩
  ·have q1':l4 (.d0 true t) (List.take hi.toNat l++m++List.drop (hi.toNat+m.length) l) []=some ⟨.d0 true t2,l2⟩:=q1
   rw [C2] at q1'; cases q1';have r3':Value.slice A (hi - lo).toNat c0=v9:=by simpa using r3
   rw [q4] at r3';simp only [Value.slice.injEq,true_and] at r3';obtain ⟨rfl,rfl⟩:=r3';exact ⟨_,_,mA,r2,rfl,r4,by omega,.inl ⟨t,_,a2,cap2,q1,by rw [mN]; exact hp,q3,c0,A,by rw [show (hi+(m.length:Int) - lo).toNat=(hi - lo).toNat+m.length by omega],qA,by omega,q6⟩⟩
  ·exfalso
   simp only [Loc,Place,y8,VR] at q3;simp at q3
theorem c1s (hE:D0 E B) (h:RS B S ι s a w) {o:Oper} {c:Call} (ho:o.op=.call c) (hc:c.callee=.builtin .copy) {x y:Operand} {T U:TypeId} (ha:c.args.toList=[x,y]) (hT:c.argTypes.toList=[T,U]):F0 E.P B o a w (zY E T (s.ev x) (s.ev y) s):=by
 unfold zY
 split
 ·rename_i i p lo hi t m hd fo
  split
  ·rename_i s' hf bz
   obtain ⟨et,k',g1,_,g3⟩:=F7 (D4 hE bz);obtain ⟨A2,c2,ey,hA⟩:=Eo h.hs (h.ev y) fo;have hlen:=Iv h.hs (h.ev y) fo;have aD:c.args=#[x,y]:=by rw [<- ha]
   have eB:c.argTypes=#[T,U]:=by rw [<- hT]
   have cd:t.shared=true:=Qr hf;obtain ⟨e,t9,l9,A9,cap9,c9,A8,z1,z2,z3,z4,z5,z6,z7,z8,z9,Uu⟩:=Iu h (h.ev x) hd;have eH:∃ news,(Builtin.firstCells t.size (List.take (hi - lo).toNat m).length (a.eval y)).run E.P w=.ok news.toArray w/\j6 (i6 w.heap S t) t.size [] news (List.take (hi - lo).toNat m):=by
    rw [ey];rcases hA with rfl|⟨b,off,O',rfl,k1,k2,k3,k4⟩
    ·refine ⟨[],?_,by rw [List.take_nil]; exact ⟨rfl,rfl⟩⟩
     rw [List.take_nil];cases A2 with
     | none=>exact run_firstCells_none w t.size 0 0 c2
     | some A=>exact run_firstCells_some w t.size 0 A 0 c2 [] (by simp) (by simp)
    ·have hr:=ZX cd k3 (k:=(List.take (hi - lo).toNat m).length)
     have e9:List.take (List.take (hi - lo).toNat m).length m=List.take (hi - lo).toNat m:=by
      rw [List.length_take];rcases Nat.le_total (hi - lo).toNat m.length with h9|h9
      ·rw [Nat.min_eq_left h9]
      ·rw [Nat.min_eq_right h9,List.take_length,List.take_of_length_le h9]
     rw [e9] at hr;refine ⟨_,run_firstCells_some w t.size _ _ _ c2 _ (j6.length (λ _ _ _ h=>h.length) hr) (λ j u hu=>?_),hr⟩;rw [Addr.H6];refine M5 (n:=List.length m*t.size) ?_;rw [List.getElem?_take] at hu;split at hu
     ·exact hu
     ·cases hu
   obtain ⟨news,fh,lM⟩:=eH;have ia:((List.take (hi - lo).toNat m).length:Int)<=hi - lo:=by rw [List.length_take]; omega
   obtain ⟨w',ι',A',c',e1,cn,bK⟩:=Lk (P:=E.P) h (h.ev x) hd ia lM hf;have mI:Nat.min m.length (hi - lo).toNat=(List.take (hi - lo).toNat m).length:=by rw [List.length_take,Nat.min_comm]
   have aO:(Builtin.copy_ #[T,U] o.type #[a.eval x,a.eval y]).run E.P w=.ok (.int .i64 ((List.take (hi - lo).toNat m).length:Int)) w':=by
    have kN:=fh;rw [ey,List.length_take] at kN;rw [e1,ey];rcases bK with ⟨rfl,_,rfl⟩|⟨A,rfl,bK⟩
    ·simp only [Builtin.copy_]
     simp [s5 g1,Builtin.lenOf,mI,run_sizeOf g3,kN,goInt]
    ·simp [Builtin.copy_,s5 g1,Builtin.lenOf,mI,run_sizeOf g3,kN,bK,goInt]
   have fN:(execOp a.eval o).run E.P w=.ok (.value (.int .i64 ((List.take (hi - lo).toNat m).length:Int))) w':=by
    simp [execOp,ho,resolve,hc,invoke,builtin,aD,eB,aO]
   intro next Q jS
   unfold Oper.wp;rw [fN];refine jS S ι' w' _ cn (VX.int ?_);have:(List.take (hi - lo).toNat m).length<=m.length:=by rw [List.length_take]; omega
   unfold maxLen at hlen;unfold r9;simp only [IntKind.min,IntKind.max,IntKind.signed,IntKind.bits];simp;omega
  ·trivial
 ·trivial
theorem b8k (hE:D0 E B) (h:RS B S ι s a w) {o:Oper} {c:Call} (ho:o.op=.call c) (hc:c.callee=.builtin .clear) {x:Operand} {T:TypeId} (ha:c.args.toList=[x]) (hT:c.argTypes.toList=[T]):F0 E.P B o a w (Ad E T (s.ev x) s):=by
 unfold Ad
 split
 ·rename_i i p lo hi q t bts hd tN
  split
  ·rename_i s' hf
   obtain ⟨et,k',g1,_,g3⟩:=F7 (r7 hE tN);have aD:c.args=#[x]:=by rw [<- ha]
   have eB:c.argTypes=#[T]:=by rw [<- hT]
   obtain ⟨e,t9,l9,A9,cap9,c9,A8,z1,z2,z3,z4,z5,z6,z7,z8,z9,Uu⟩:=Iu h (h.ev x) hd;have oZ:j6 (i6 w.heap S t) t.size [] (List.replicate (hi - lo).toNat (zc t)).flatten (List.replicate (hi - lo).toNat t.s6):=(i6.s6 (H:=w.heap) (S:=S) (.arr (hi - lo).toNat t)).2;obtain ⟨w',ι',A',c',e1,cn,bK⟩:=Lk (P:=E.P) h (h.ev x) hd (by rw [List.length_replicate]; omega) oZ hf;have jc:(n8 t (zc t)).cells=(zc t).toArray:=(i6.s6 (H:=w.heap) (S:=S) t).cells;have aO:(Builtin.clear_ #[T] o.type #[a.eval x]).run E.P w=.ok (.tuple #[]) w':=by
    rw [e1];rcases bK with ⟨rfl,_,rfl⟩|⟨A,rfl,bK⟩
    ·simp [Builtin.clear_,s5 g1]
    ·by_cases h0:(hi - lo).toNat=0
     ·rw [h0] at bK ⊢
      simp [storeCells] at bK;subst bK;simp [Builtin.clear_,s5 g1]
     ·obtain ⟨n,hn⟩:∃ n,(hi - lo).toNat=n+1:=⟨(hi - lo).toNat - 1,by omega⟩
      rw [hn] at bK ⊢;simp [Builtin.clear_,s5 g1,Cu g3,jc,FA,bK]
   have fN:(execOp a.eval o).run E.P w=.ok (.value (.tuple #[])) w':=by
    simp [execOp,ho,resolve,hc,invoke,builtin,aD,eB,aO]
   intro next Q jS
   unfold Oper.wp;rw [fN];exact jS S ι' w' _ cn rfl
  ·trivial
 ·trivial
theorem c1Q (hE:D0 E B) (h:RS B S ι s a w) {o:Oper} {c:Call} (ho:o.op=.call c):F0 E.P B o a w (m0 E o s):=by
 unfold m0;rw [ho];simp only
 split
 ·rename_i f hf
  split
  ·rename_i g caps hg
   obtain ⟨us,he,bZ⟩:=C4 h hg;exact Lh hE h ho hf (by simpa using he) bZ
  ·rename_i g b hg
   refine F0.yc (λ hb=>?_);have hv:=Ie h hg;rw [hb] at hv;exact Lh hE h ho hf (us:=[]) hv rfl
  ·rename_i g t y hg
   refine F0.yc (λ hy=>?_);obtain ⟨p,e,hp⟩:=Jt (C4 h hg) hy;exact Lh hE h ho hf (us:=[p]) (by simpa using e) ⟨p,[],rfl,hp,rfl⟩
  ·trivial
 ·rename_i hf
  split
  ·rename_i x T ha hT
   split
   ·rename_i q u y hx
    split
    ·rename_i hk
     obtain ⟨cs,e,hR⟩:=C4 h hx;obtain ⟨b,cap,hv,hl⟩:=BV hR;have e:a.eval x=n8 (.d0 q u) cs:=by simpa using e
     exact zn hE h ho hf ha hT hk (.inl ⟨q,u,b,0,cap,rfl,by rw [e,hv],rfl⟩) hl
    ·trivial
   ·rename_i u y hx
    split
    ·rename_i hk
     obtain ⟨cs,e,hR⟩:=C4 h hx;obtain ⟨b,cap,hv,hl⟩:=NQ hR;have e:a.eval x=n8 (.B8 u) cs:=by simpa using e
     exact zn hE h ho hf ha hT hk (.inl ⟨false,u,b,0,cap,rfl,by rw [e,hv],rfl⟩) hl
    ·trivial
   ·rename_i y hx
    split
    ·rename_i hk
     obtain ⟨hv,hl⟩:=VX.zj (C4 h hx);exact zn hE h ho hf ha hT hk (.inr (.inl ⟨y,rfl,hv,rfl⟩)) (by unfold maxLen at hl; omega)
    ·trivial
   ·rename_i n u y hx
    split
    ·rename_i hk
     split
     ·rename_i hn
      exact zn hE h ho hf ha hT hk (.inr (.inr ⟨u,rfl⟩)) hn
     ·trivial
    ·trivial
   ·rename_i d p hx
    split
    ·rename_i q u z cO
     split
     ·rename_i hk
      obtain ⟨e,u',y,cs,k1,k2,k3,k4,k5⟩:=C4 h hx;have hg:=H8 k1 cO;rw [k3] at hg; cases hg;obtain ⟨O2,m1,m2,m3⟩:=G4 h.hs k1 k2 k3 k4;obtain ⟨b,cap,hv,hl⟩:=BV m3;have k5:a.eval x=n8 (.d0 q u) cs:=by simpa using k5
      exact zn hE h ho hf ha hT hk (.inl ⟨q,u,b,0,cap,rfl,by rw [k5,hv],rfl⟩) hl
     ·trivial
    ·rename_i u z cO
     split
     ·rename_i hk
      obtain ⟨e,u',y,cs,k1,k2,k3,k4,k5⟩:=C4 h hx;have hg:=H8 k1 cO;rw [k3] at hg; cases hg;obtain ⟨O2,m1,m2,m3⟩:=G4 h.hs k1 k2 k3 k4;obtain ⟨b,cap,hv,hl⟩:=NQ m3;have k5:a.eval x=n8 (.B8 u) cs:=by simpa using k5
      exact zn hE h ho hf ha hT hk (.inl ⟨false,u,b,0,cap,rfl,by rw [k5,hv],rfl⟩) hl
     ·trivial
    ·rename_i k u z cO
     split
     ·rename_i hk
      intro hn;have hm:(s.ev x).mp s=some ⟨(k,u),z⟩:=by rw [hx]; simp only [AV.mp,cO]
      have aD:c.args=#[x]:=by rw [<- ha]
      have eB:c.argTypes=#[T]:=by rw [<- hT]
      obtain ⟨K,V,n,h1,_⟩:=Js (D4 hE hk);refine y9.value (val:=.int .i64 (List.length (Option.getD (z:Option (List (k.den×u.den))) []))) ?_ h (VX.int (by unfold r9; simp [IntKind.min,IntKind.max,IntKind.signed,IntKind.bits]; omega));have aO:(Builtin.len_ #[T] o.type #[a.eval x]).run E.P w=.ok (.int .i64 (List.length (Option.getD (z:Option (List (k.den×u.den))) []))) w:=by
       rcases We h.hs (h.ev x) hm with ⟨h2,h3⟩|⟨l,b,es,ck,h2,h3,h4,h5⟩
       ·subst h2
        rw [h3];simp [Builtin.len_,s5 h1,goInt]
       ·subst h2
        rw [h3];have te:=MapKept.run_getObj_map (P:=E.P) h4;have hl:=vg.length h5;rw [Array.length_toList] at hl;simp [Builtin.len_,s5 h1,goInt,te,hl]
      simp [execOp,ho,resolve,hf,invoke,builtin,aD,eB,aO]
     ·trivial
    ·trivial
   ·rename_i d p lo hi hx
    split
    ·rename_i u y hw
     split
     ·rename_i hk
      obtain ⟨A,c,e,_,hl,h0,h1,_⟩:=Ed h.hs (C4 h hx) hw;have hm:=Iv h.hs (C4 h hx) (l:=y) hw;have:=zn hE h ho hf ha hT hk (n:=y.length) (.inl ⟨true,u,A,0,c,rfl,e,rfl⟩) (by unfold maxLen at hm; omega);rw [hl] at this;exact this
     ·trivial
    ·trivial
   ·rename_i hx
    split
    ·rename_i q u bts qF
     have eh:[a.eval x]=[Value.slice none 0 0]:=C4 h hx;have eh:a.eval x=Value.slice none 0 0:=by simpa using eh
     have aD:c.args=#[x]:=by rw [<- ha]
     have eB:c.argTypes=#[T]:=by rw [<- hT]
     refine y9.value (val:=.int .i64 0) ?_ h (VX.int (by unfold r9; simp [IntKind.min,IntKind.max,IntKind.signed,IntKind.bits]));have:=IA (w:=w) (ty:=o.type) (n:=0) (r7 hE qF) (.inl ⟨q,u,none,0,0,rfl,eh,rfl⟩);simp [execOp,ho,resolve,hf,invoke,builtin,aD,eB,this]
    ·trivial
   ·trivial
  ·trivial
 ·rename_i hf
  split
  ·rename_i x T ha hT
   split
   ·rename_i q u bts hx qF
    obtain ⟨et,k',f1,_⟩:=F7 (r7 hE qF);have eh:a.eval x=Value.slice none 0 0:=by simpa using (show [a.eval x]=[Value.slice none 0 0] from C4 h hx)
    have aD:c.args=#[x]:=by rw [<- ha]
    have eB:c.argTypes=#[T]:=by rw [<- hT]
    refine y9.value (val:=.int .i64 0) ?_ h (VX.int (by unfold r9; simp [IntKind.min,IntKind.max,IntKind.signed,IntKind.bits]));simp [execOp,ho,resolve,hf,invoke,builtin,aD,eB,Builtin.cap_,s5 f1,eh,goInt]
   ·trivial
  ·trivial
 ·rename_i hf
  split
  ·rename_i x y T U ha hT
   split
   ·rename_i q u bts hU
    obtain ⟨et,k',f1,_⟩:=F7 (r7 hE hU)
    split
    ·exact b4J hE h ho hf ha hT (.inl ⟨et,f1⟩)
    ·exact c2f hE h ho hf ha hT ⟨et,f1⟩
   ·rename_i bts hU
    exact a72 hE h ho hf ha hT (.inr (X3 (r7 hE hU)))
   ·rename_i kd bts hU
    exact b4I hE h ho hf ha hT (yx (r7 hE hU))
   ·trivial
  ·trivial
 ·rename_i hf
  split
  ·rename_i x l ha
   split
   ·rename_i k m hx
    exact (TR h ho ha hx).1 hf
   ·trivial
  ·trivial
 ·rename_i hf
  split
  ·rename_i x l ha
   split
   ·rename_i k m hx
    exact (TR h ho ha hx).2 hf
   ·trivial
  ·trivial
 ·rename_i hf
  split
  ·rename_i x y T U ha hT; exact c1s hE h ho hf ha hT
  ·trivial
 ·rename_i hf
  split
  ·rename_i x T ha hT; exact b8k hE h ho hf ha hT
  ·trivial
 ·trivial
theorem YW (hE:D0 E B) (h:RS B S ι s a w) (o:Oper) (iz:∀ c x y,o.op≠.pick c x y):F0 E.P B o a w (m0 E o s):=by
 cases ho:o.op with
 | move x=>unfold m0; rw [ho]; exact y9.value (by simp [execOp,ho]) h (h.ev x)
 | assign x=>unfold m0; rw [ho]; exact y9.value (by simp [execOp,ho]) h (h.ev x)
 | alloc T=>exact b8F hE h ho
 | box T x=>exact Zb hE h ho
 | makeSlice T x y=>exact b0W hE h ho
 | slice T x lo hi mx =>
  have:m0 E o s=yq E T (s.ev x) lo hi mx s:=by unfold m0; rw [ho]
  rw [this]; exact b5g hE h ho
 | build T parts=>exact b8A hE h ho
 | buildSlice T n parts=>exact a9T hE h ho
 | makeMap T r=>exact b4u hE h ho
 | lookup T x y ok =>
  have:m0 E o s=IC E T (s.ev x) (s.ev y) ok s:=by unfold m0; rw [ho]
  rw [this]; exact b4v hE h ho
 | mapUpdate T m x y =>
  have:m0 E o s=Gg E T (s.ev m) (s.ev x) (s.ev y) s:=by unfold m0; rw [ho]
  rw [this]; exact c0l hE h ho
 | load T x =>
  have:m0 E o s=Y5 E T (s.ev x) s:=by unfold m0; rw [ho]
  rw [this];cases hl:Y5 E T (s.ev x) s with
  | fail why=>trivial
  | ok v s'=>exact b7X hE h ho hl
  | F5 p v s' =>
   exfalso;unfold Y5 at hl
   repeat' split at hl
   all_goals cases hl
 | store T x y =>
  unfold m0; rw [ho];simp only
  split
  ·rename_i i p hx; exact b5e hE h ho hx
  ·trivial
 | nilCheck x =>
  unfold m0; rw [ho];simp only
  split
  ·rename_i i p hx
   have hv:=C4 h hx;obtain ⟨e,b,off,h1,h2,h3,h4⟩:=hv;have h4:a.eval x=.pointer (some ⟨b,off,none⟩):=by simpa using h4
   exact y9.value (val:=.pointer (some ⟨b,off,none⟩)) (by simp only [execOp,ho,h4]; rfl) h ⟨e,b,off,h1,h2,h3,rfl⟩
  ·rename_i t y hx
   obtain ⟨b,off,e,h1,h2,h3⟩:=C4 h hx;have e:a.eval x=.pointer (some ⟨b,off,none⟩):=by simpa using e
   exact y9.value (val:=.pointer (some ⟨b,off,none⟩)) (by simp only [execOp,ho,e]; rfl) h ⟨b,off,rfl,h1,h2,h3⟩
  ·rename_i t y hx
   intro hy;obtain ⟨b,off,e,h1,h2,h3⟩:=Ef (C4 h hx) hy;have e:a.eval x=.pointer (some ⟨b,off,none⟩):=by simpa using e
   exact y9.value (val:=.pointer (some ⟨b,off,none⟩)) (by simp only [execOp,ho,e]; rfl) h ⟨b,off,rfl,h1,h2,h3⟩
  ·rename_i f t y hx
   intro hy;have hv:=C4 h hx;obtain ⟨p,e,-⟩:=Jt hv hy;exact y9.value (val:=a.eval x) (by simp only [execOp,ho,e]; rfl) h hv
  ·rename_i f l hx
   obtain ⟨us,e,h1⟩:=C4 h hx;have e:a.eval x=.func (.func f) #[] us.toArray:=by simpa using e
   exact y9.value (val:=.func (.func f) #[] us.toArray) (by simp only [execOp,ho,e]; rfl) h ⟨us,rfl,h1⟩
  ·rename_i g b hx
   intro hb;have hv:=Ie h hx;have hb:b=true:=hb;subst hb;exact y9.value (val:=.func (.func g) #[] #[]) (by simp only [execOp,ho,hv]; rfl) h ⟨[fnV g true],rfl,rfl,rfl⟩
  ·trivial
 | binOp op T x y T' =>
  have:m0 E o s=wH E T op (s.ev x) (s.ev y) s:=by unfold m0; rw [ho]
  rw [this]; exact c1Z hE h ho
 | unOp op T x =>
  have:m0 E o s=unA op (s.ev x) s:=by unfold m0; rw [ho]
  rw [this]; exact c0m h ho
 | convert T' T x=>exact b4C hE h ho
 | fieldAddr T x n=>exact b1a hE h ho
 | indexAddr T x y=>exact b03 hE h ho
 | field T x n=>exact b75 hE h ho
 | index T x y=>exact b72 hE h ho
 | extract x n =>
  unfold m0; rw [ho];simp only
  split
  ·rename_i l hx
   split
   ·rename_i v hn
    obtain ⟨us,e,hl⟩:=C4 h hx;have e:a.eval x=.tuple us.toArray:=by simpa using e
    obtain ⟨u,h1,h2⟩:=NR hn hl;have he:execOp a.eval o=(do pure (.value (<- Instr.extract (a.eval x) n))):=by simp [execOp,ho]
    refine I3 he h (val:=u) ?_ h2;rw [e]; simp [Instr.extract,h1]
   ·trivial
  ·trivial
 | makeFunc fn first caps =>
  unfold m0;rw [ho];cases fn with
  | func f =>
   simp only
   split
   ·rename_i hf
    have hf:first=#[]:=by simpa using hf
    have:=h.J7 caps.toList;refine y9.value (val:=.func (.func f) #[] (caps.toList.map a.eval).toArray) ?_ h ⟨_,rfl,this⟩;simp [execOp,ho,Instr.makeFunc,hf,<- Array.toList_map]
   ·trivial
  | _=>trivial
 | call c=>exact c1Q hE h ho
 | pick c x y=>exact absurd ho (iz c x y)
 | _=>unfold m0; rw [ho]; trivial
theorem Ln (hE:D0 E B) (hn:B.n=E.nt) (h:RS B S ι s a w) (o:Oper) {k:St->Tree (E.rs++E6 E.ps)} {L:Code->List Item->St->Prop} {Rt:DL (E.rs++E6 E.ps)->Prop} (ht:(yR E o s k).holds L Rt) {next:Act->World->Prop} {Q:Exit->Act->World->Prop}
  (hk:∀ S' ι' s' a' w',RS B S' ι' s' a' w'->(k s').holds L Rt->next a' w'):o.wp E.P a w next Q:=by
 unfold yR at ht;split at ht
 ·exact ht.elim
 ·rename_i hd
  rw [<- hn] at hd;split at ht
  ·rename_i c x y ho
   split at ht
   ·rename_i g hg
    have cP:=VX.Aq (C4 h hg);have aO:(execOp a.eval o).run E.P w=.ok (.value (if g then a.eval x else a.eval y)) w:=by
     simp only [execOp,ho,cP,asBool];cases g<;>simp
    unfold Oper.wp;rw [aO];cases g with
    | true=>exact hk S ι _ _ _ (h.put hd (h.ev x)) ht
    | false=>exact hk S ι _ _ _ (h.put hd (h.ev y)) ht
   ·exact ht.elim
  ·rename_i sB
   have hs:=YW hE h o (λ c x y e=>sB c x y e);split at ht
   ·exact ht.elim
   ·rename_i v s' e
    rw [e] at hs;exact hs next Q (λ S' ι' w' val h1 h2=>hk S' ι' _ _ _ (h1.put hd h2) ht)
   ·rename_i p v s' e
    rw [e] at hs;exact hs ht.1 next Q (λ S' ι' w' val h1 h2=>hk S' ι' _ _ _ (h1.put hd h2) (ht.2 ht.1))
theorem c2X {ops:Array Oper} {o:Oper} {j:Nat} {want:Bool} (hg:o.guard=some (j,want)) {g:Nat} (hs:AF ops j=some g) {tmps:Array Value} :
  Region.wanted o (yielded ops tmps)=((match tmps[g]? with|some (.bool b)=>some b|_=>none) == some want):=by
 have:((ops[j]?).bind (·.dst)).bind (tmps[·]?)=tmps[g]?:=by
  have:(ops[j]?).bind (·.dst)=some g:=hs;rw [this]; rfl
 simp only [Region.wanted,hg,yielded,this];rfl
theorem getD_some {l:Array Value} {g:Nat} {v:Value} (h:l.getD g undef=v) (hv:v≠undef):l[g]?=some v:=by
 simp only [Array.getD_eq_getD_getElem?] at h;cases hl:l[g]? with
 | none=>rw [hl] at h; exact absurd h.symm hv
 | some x=>rw [hl] at h; simp at h; rw [h]
theorem Lm (hE:D0 E B) (hn:B.n=E.nt) (h:RS B S ι s a w) {ops:Array Oper} (o:Oper) {k:St->Tree (E.rs++E6 E.ps)} {L:Code->List Item->St->Prop} {Rt:DL (E.rs++E6 E.ps)->Prop} (ht:(yo E ops o s k).holds L Rt) {next:Act->World->Prop} {Q:Exit->Act->World->Prop}
  (hk:∀ S' ι' s' a' w',RS B S' ι' s' a' w'->(k s').holds L Rt->next a' w') :
  if Region.wanted o (yielded ops a.tmps) then o.wp E.P a w next Q else next (a.put o.dst undef) w:=by
 unfold yo at ht;split at ht
 ·rename_i hg
  simp only [Region.wanted,hg,if_true];exact Ln hE hn h o ht hk
 ·rename_i j want hg
  split at ht
  ·exact ht.elim
  ·rename_i g hs
   rw [c2X hg hs];have hv:=h.ev (.tmp g);split at ht
   ·rename_i vs cP
    rw [cP] at hv;have hv:[a.tmps.getD g undef]=[Value.tuple vs]:=hv;have hv:a.tmps.getD g undef=.tuple vs:=by simpa using hv
    have gL:((match a.tmps[g]? with|some (.bool b)=>some b|_=>none) == some want)=false:=by
     simp only [Array.getD_eq_getD_getElem?] at hv;cases hl:a.tmps[g]? with
     | none=>rfl
     | some x=>rw [hl] at hv; simp at hv; rw [hv]; rfl
    rw [gL];split at ht
    ·rename_i hd
     rw [<- hn] at hd;exact hk S ι _ _ _ (h.put hd (v:=.raw undef) (val:=undef) (by rfl)) ht
    ·exact ht.elim
   ·rename_i b cP
    rw [cP] at hv;have hb:=VX.Aq hv;have cm:=getD_some hb (by simp [undef]);rw [cm];split at ht
    ·exact ht.elim
    ·rename_i hd
     rw [<- hn] at hd;have oc:∀ c,b=c->RS B S ι (s.put (some g) (.val .bool c)) a w:=by
      rintro c rfl;have bc:g<a.tmps.size:=by
       rcases Nat.lt_or_ge g a.tmps.size with h1|h1
       ·exact h1
       ·rw [Array.getElem?_eq_none h1] at cm; cases cm
      have:=h.put (d:=some g) (v:=.val .bool b) (val:=.bool b) (by simp [G8,Nat.blt_eq,<- h.sz,bc]) VX.bool;have e:a.put (some g) (.bool b)=a:=by
       simp only [Act.put];have:a.tmps.setIfInBounds g (.bool b)=a.tmps:=by
        apply Array.ext_getElem?;intro i;rw [Array.getElem?_setIfInBounds]
        split
        ·rename_i e; subst e; exact cm.symm
        ·rfl
       rw [this]
      rw [e] at this;exact this
     cases b with
     | true =>
      cases want with
      | true=>exact Ln hE hn (oc true rfl) o ht hk
      | false=>exact hk S ι _ _ _ ((oc true rfl).put hd (v:=.raw undef) (val:=undef) (by rfl)) ht
     | false =>
      cases want with
      | false=>exact Ln hE hn (oc false rfl) o ht hk
      | true=>exact hk S ι _ _ _ ((oc false rfl).put hd (v:=.raw undef) (val:=undef) (by rfl)) ht
   ·exact ht.elim
theorem b0D {P:Program} {T et:TypeId} (h1:P.underlying T=some (.slice et)) (d:Nat) (A:Option Addr) (n c:Nat):(Op.equalIn (d+1) T (.slice A n c) (.slice none 0 0)).run P w=.ok A.isNone w:=by
 cases A<;>simp [Op.equalIn,s5 h1]
theorem Zc (hE:D0 E B) (h:RS B S ι s a w) {o:Oper} {p:Prop} {v1 v2:AV} (hb:brA E s o=some (p,v1,v2)) :
  ∃ val,(execOp a.eval o).run E.P w=.ok (.value val) w/\((p/\VX w.heap S ι s.hp v1 [val])\/VX w.heap S ι s.hp v2 [val]):=by
 unfold brA at hb;split at hb
 ·rename_i op T x y T' ho
  have key:∀ (b:Bool),(op=.eql/\b=true\/op=.neq/\b=false)->(match s.ev y,look T E.tt with
   | .raw (.slice none 0 0),some ⟨.d0 _ _,_⟩=>(match (s.ev x).els s with
    | some r=>some (r.2=[],AV.val .bool b,AV.val .bool (!b))
    | none=>none)
   | _,_=>none)=some (p,v1,v2)->∃ val,(execOp a.eval o).run E.P w=.ok (.value val) w/\((p/\VX w.heap S ι s.hp v1 [val])\/VX w.heap S ι s.hp v2 [val]):=by
   intro b cy hb;split at hb
   ·rename_i q u bts hy hT
    split at hb
    ·rename_i r hr
     obtain ⟨t0,l0⟩:=r;cases hb;have lV:[a.eval y]=[Value.slice none 0 0]:=C4 h hy;have lV:a.eval y=.slice none 0 0:=by simpa using lV
     obtain ⟨A,c,e,hA⟩:=Eo h.hs (h.ev x) hr;obtain ⟨et,k2,h1,_,_⟩:=F7 (Ee (t:=.d0 q u) (u:=.d0 true u) rfl (r7 hE hT));have hg:(eqGuard op T x y (a.eval x) (a.eval y)).run E.P w=.ok () w:=by rw [e,lV]; cases op<;>rfl
     have heq:(Op.equal T (.slice A (List.length l0) c) (.slice none 0 0)).run E.P w=.ok A.isNone w:=b0D h1 9999 A _ c;have eK:A=none->l0=[]:=by
      rintro rfl;rcases hA with h2|⟨b2,off2,O2,h2,_⟩
      ·exact h2
      ·cases h2
     have eM:∀ n:Bool,(n=A.isNone/\op=.eql/\b=true\/n=(!A.isNone)/\op=.neq/\b=false)->(l0=[]/\VX w.heap S ι s.hp (.val .bool b) [.bool n])\/VX w.heap S ι s.hp (.val .bool (!b)) [.bool n]:=by
      intro n hn;cases A with
      | none=>rcases hn with ⟨rfl,_,rfl⟩|⟨rfl,_,rfl⟩<;>exact .inl ⟨eK rfl,VX.bool⟩
      | some A=>rcases hn with ⟨rfl,_,rfl⟩|⟨rfl,_,rfl⟩<;>exact .inr VX.bool
     rcases cy with ⟨rfl,rfl⟩|⟨rfl,rfl⟩
     ·exact ⟨.bool A.isNone,by rw [N0 ho hg (r:=.ok (.bool A.isNone) w)]; rfl; rw [e,lV]; simp [binOp,heq],eM _ (.inl ⟨rfl,rfl,rfl⟩)⟩
     ·exact ⟨.bool (!A.isNone),by rw [N0 ho hg (r:=.ok (.bool (!A.isNone)) w)]; rfl; rw [e,lV]; simp [binOp,heq],eM _ (.inr ⟨rfl,rfl,rfl⟩)⟩
    ·cases hb
   ·cases hb
  split at hb
  ·exact key true (.inl ⟨rfl,rfl⟩) hb
  ·exact key false (.inr ⟨rfl,rfl⟩) hb
  ·cases hb
 ·cases hb
end
end Go.Ex
