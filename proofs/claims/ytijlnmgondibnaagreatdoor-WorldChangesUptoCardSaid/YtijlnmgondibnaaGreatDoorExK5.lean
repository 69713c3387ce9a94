import Derived.Test.YtijlnmgondibnaaGreatDoorExK4
import Derived.DeepKeys
import Derived.Laws.StructEq
import Derived.MapKept
import Derived.WideKeyRuns
import Derived.Lib.AppendZerosOnto
import Derived.Tactics
set_option linter.unusedVariables false
set_option linter.unusedSimpArgs false
set_option linter.unusedSectionVars false
namespace Go.Ex
section
variable {H H':Array Go.Obj} {S:Nat->Prop}
theorem V4.u5 {q:Bool} {b n:Nat} (h:H'[b]?=H[b]?):V4 q H b n->V4 q H' b n:=by
 rintro ⟨arr,T,⟨fz,e,ef⟩,hn⟩;exact ⟨arr,T,⟨fz,by rw [h]; exact e,ef⟩,hn⟩
theorem P5.u5 {b n:Nat} (h:H'[b]?=H[b]?):P5 H b n->P5 H' b n:=by
 rintro ⟨arr,T,⟨fz,e,ef⟩,hn⟩;exact ⟨arr,T,⟨fz,by rw [h]; exact e,ef⟩,hn⟩
theorem j5.u5 {t:Ty} {O:List Nat} {cs:List Value} {l:List t.den} (h:j5 (g9 H S t) t.size O cs l) (hH:∀ c,c∈O\/S c->H'[c]?=H[c]?):j5 (g9 H' S t) t.size O cs l :=
 j5.mono (L:=O) (λ _ h=>h) (λ _ _ _ hO hr=>hr.u5 (λ c hc=>hH c (hc.imp (hO c) id)) (λ _ h=>h)) h
theorem w5.u5:∀ {t:Ty} {p:List Step} {b off:Nat} {O:List Nat} {x:t.den},w5 H S t p b off O x->(∀ c,c=b\/c∈O\/S c->H'[c]?=H[c]?) ->
  w5 H' S t p b off O x/\y8 H' t p b off=y8 H t p b off:=by
 intro t
 induction t with
 | pair a c iha ihc =>
  intro p b off O x hR hH
  match p,hR with
  | [],hR=>exact ⟨hR,by rw [y9,y9]⟩
  | .l8 0::p,⟨O1,O2,e,h1,h2⟩ =>
   subst e;obtain ⟨k1,k2⟩:=iha h1 (λ c hc=>hH c (hc.imp id (Or.imp (λ h=>by simp [h]) id)));refine ⟨⟨O1,O2,rfl,k1,?_⟩,k2⟩;rw [l6 (hH b (.inl rfl))];exact h2.u5 (λ c hc=>hH c (.inr (hc.imp (λ h=>by simp [h]) id))) (λ _ h=>h)
  | .l8 (n+1)::p,⟨O1,O2,e,h1,h2⟩ =>
   subst e;obtain ⟨k1,k2⟩:=ihc h2 (λ c hc=>hH c (hc.imp id (Or.imp (λ h=>by simp [h]) id)));refine ⟨⟨O1,O2,rfl,?_,k1⟩,k2⟩;rw [l6 (hH b (.inl rfl))];exact h1.u5 (λ c hc=>hH c (.inr (hc.imp (λ h=>by simp [h]) id))) (λ _ h=>h)
  | .idx i::p,hR=>simp [w5] at hR
 | arr n t ih =>
  intro p b off O x hR hH
  match p,hR with
  | [],hR=>exact ⟨hR,by rw [y9,y9]⟩
  | .l8 i::p,hR=>simp [w5] at hR
  | .idx i::p,⟨hl,hi,O1,O2,O3,e,h1,h2,h3⟩ =>
   subst e;obtain ⟨k1,k2⟩:=ih h2 (λ c hc=>hH c (hc.imp id (Or.imp (λ h=>by simp [h]) id)));refine ⟨⟨hl,hi,O1,O2,O3,rfl,?_,k1,?_⟩,k2⟩
   ·rw [l6 (hH b (.inl rfl))]
    exact h1.u5 (λ c hc=>hH c (.inr (hc.imp (λ h=>by simp [h]) id)))
   ·rw [l6 (hH b (.inl rfl))]
    exact h3.u5 (λ c hc=>hH c (.inr (hc.imp (λ h=>by simp [h]) id)))
 | d0 o t ih =>
  intro p b off O x hR hH
  match p,hR with
  | [],hR=>exact ⟨by cases o<;>exact hR,by rw [y9,y9]⟩
  | .l8 i::p,hR=>cases o<;>simp [w5] at hR
  | .idx i::p,hR =>
   cases o with
   | false=>simp [w5] at hR
   | true =>
    obtain ⟨hi,b1,o1,cap,O1,O2,O3,e,e1,e2,e3,e4,h1,h2,h3⟩:=hR;subst e;have dE:H'[b1]?=H[b1]?:=hH b1 (by simp);obtain ⟨k1,k2⟩:=ih h2 (λ c hc=>hH c (hc.elim (λ h=>.inr (.inl (by simp [h]))) (λ h=>.inr (h.imp (λ h=>by simp [h]) id))));refine ⟨⟨hi,b1,o1,cap,O1,O2,O3,rfl,by rw [Q5 (hH b (.inl rfl))]; exact e1,e2,e3,e4.u5 dE,?_,k1,?_⟩,?_⟩
    ·rw [l6 dE]
     exact h1.u5 (λ c hc=>hH c (.inr (hc.imp (λ h=>by simp [h]) id)))
    ·rw [l6 dE]
     exact h3.u5 (λ c hc=>hH c (.inr (hc.imp (λ h=>by simp [h]) id)))
    ·simp only [y8,Q5 (hH b (.inl rfl)),e1]
     exact k2
 | _ =>
  intro p b off O x hR hH
  match p,hR with
  | [],hR=>exact ⟨hR,by rw [y9,y9]⟩
  | .l8 i::p,hR=>simp [w5] at hR
  | .idx i::p,hR=>simp [w5] at hR
end
section
variable {S:Nat->Prop} {ι:Ix} {H H':Array Go.Obj}
theorem w5.move {i:Nat} {e:i6} {p:List Step} (hk:(∃ t x,e=.var t x)\/∃ t x j q,e=.own (.d0 true t) x/\p=.idx j::q) {O:List Nat} (hR:w5 (VH H ι i e) S e.ty p (VR H ι i e).1 (VR H ι i e).2 O e.x)
  (hO:∀ c∈O,c<H.size) (hS:∀ c,S c->c<H.size) (aW:H.size<=H'.size) (hH:∀ c,(c=(VR H ι i e).1/\c<H.size)\/c∈O\/S c->H'[c]?=H[c]?) (bI:(∃ t x,e=.var t x)->(VR H ι i e).1<H.size) :
  w5 (VH H' ι i e) S e.ty p (VR H' ι i e).1 (VR H' ι i e).2 O e.x/\y8 (VH H' ι i e) e.ty p (VR H' ι i e).1 (VR H' ι i e).2=y8 (VH H ι i e) e.ty p (VR H ι i e).1 (VR H ι i e).2:=by
 rcases hk with ⟨t,x,rfl⟩|⟨t,x,j,q,rfl,rfl⟩
 ·exact w5.u5 (H:=H) hR (λ c hc=>hH c (hc.imp (λ h=>⟨h,h▸bI ⟨_,_,rfl⟩⟩) id))
 ·have hg:∀ c,c∈O\/S c->(VH H' ι i (.own (.d0 true t) x))[c]?=(VH H ι i (.own (.d0 true t) x))[c]?:=λ c hc=>by
   have h1:c<H.size:=hc.elim (hO c) (hS c);rw [G4 h1,G4 (aAr h1 aW)];exact hH c (.inr hc)
  obtain ⟨hi,b1,o1,cap,O1,O2,O3,e0,e1,e2,e3,e4,h1,h2,h3⟩:=hR;subst e0;have dE:=hg b1 (by simp);obtain ⟨k1,k2⟩:=w5.u5 h2 (H':=VH H' ι i (.own (.d0 true t) x)) (λ c hc=>hg c (hc.elim (λ h=>.inl (by simp [h])) (λ h=>h.imp (λ h=>by simp [h]) id)));have dL:(w6 (VH H' ι i (.own (.d0 true t) x)) (VR H' ι i (.own (.d0 true t) x)).1)[(VR H' ι i (.own (.d0 true t) x)).2]?=some (.slice (some ⟨b1,o1,none⟩) (List.length x) cap):=by
   refine Eq.trans ?_ (show (w6 (VH H ι i (.own (.d0 true t) x)) (VR H ι i (.own (.d0 true t) x)).1)[(VR H ι i (.own (.d0 true t) x)).2]?=some (.slice (some ⟨b1,o1,none⟩) (List.length x) cap) from e1);simp only [VH,VR,wH]
  refine ⟨⟨hi,b1,o1,cap,O1,O2,O3,rfl,dL,e2,e3,e4.u5 dE,?_,k1,?_⟩,?_⟩
  ·rw [l6 dE]; exact h1.u5 (λ c hc=>hg c (hc.imp (λ h=>by simp [h]) id))
  ·rw [l6 dE]; exact h3.u5 (λ c hc=>hg c (hc.imp (λ h=>by simp [h]) id))
  ·have e1':(w6 (VH H ι i (.own (.d0 true t) x)) (VR H ι i (.own (.d0 true t) x)).1)[(VR H ι i (.own (.d0 true t) x)).2]?=some (.slice (some ⟨b1,o1,none⟩) (List.length x) cap):=e1
   simp only [i6.ty,y8,dL,e1'];exact k2
theorem X1.refl {b off n m:Nat} (h:P5 H b m):X1 H H b off n:=by
 obtain ⟨arr,T,⟨fz,e,ef⟩,_⟩:=h;exact ⟨⟨arr,arr,T,⟨fz,⟨e,ef⟩,e⟩,rfl,λ _ _=>rfl⟩,λ _ _ _=>rfl⟩
theorem Sd:∀ {t:Ty} {x:t.den} {p:List Step} {u:Ty} {y:u.den},x8 t x p->j9 t x p=some ⟨u,y⟩->u6 t x p u y=some ⟨t,x⟩:=by
 intro t;have set_self:∀ {α:Type} {l:List α} {i:Int} {d:α},(0<=i/\i<List.length l)->List.set l i.toNat (List.getD l i.toNat d)=l:=by
  intro α l i d h;have h1:i.toNat<l.length:=by omega
  rw [aAb,aAf h1]; simp
 induction t with
 | pair a c iha ihc =>
  intro x p u y ho hg
  match p,ho,hg with
  | [],_,hg=>simp only [j9,aAc] at hg; cases hg; simp [u6]
  | .l8 0::p,ho,hg=>simp only [u6,iha (x:=x.1) ho hg]
  | .l8 (n+1)::p,ho,hg=>simp only [u6,ihc (x:=x.2) (p:=.l8 n::p) ho hg]
  | .idx i::p,ho,_=>simp [x8] at ho
 | arr n t ih =>
  intro x p u y ho hg
  match p,ho,hg with
  | [],_,hg=>simp only [j9,aAc] at hg; cases hg; simp [u6]
  | .l8 i::p,ho,_=>simp [x8] at ho
  | .idx i::p,ho,hg =>
   simp only [u6,ih ho.2 hg,dif_pos];by_cases hl:i<List.length x
   ·rw [set_self ⟨ho.1.1,hl⟩]
   ·rw [List.set_eq_of_length_le (by have:=ho.1.1; omega)]
 | d0 o t ih =>
  intro x p u y ho hg
  match p,ho,hg with
  | [],_,hg=>rw [C1] at hg; cases hg; cases o<;>simp [u6]
  | .l8 i::p,ho,_=>cases o<;>simp [x8] at ho
  | .idx i::p,ho,hg =>
   cases o with
   | false=>simp [x8] at ho
   | true =>
    simp only [u6,ih ho.2 hg,dif_pos];rw [set_self ho.1]
 | _ =>
  intro x p u y ho hg
  match p,ho,hg with
  | [],_,hg=>simp only [j9,aAc] at hg; cases hg; simp [u6]
  | .idx i::p,ho,_=>simp [x8] at ho
  | .l8 i::p,ho,_=>simp [x8] at ho
theorem OB.set {i:Nat} {e:i6} (ho:OB H S ι i e) (bO:∀ c∈l7 ι i e,¬ S c/\c<H.size) (hS:∀ c,S c->c<H.size) {p:List Step} (hk:(∃ t x,e=.var t x)\/∃ t x j q,e=.own (.d0 true t) x/\p=.idx j::q) (aM:x8 e.ty e.x p) {u:Ty} {y:u.den} (hg:j9 e.ty e.x p=some ⟨u,y⟩)
  {b off:Nat} (hl:Loc H ι i e p=some (b,off)) (aW:H.size<=H'.size) {Op:List Nat} (gJ:g9 H S u Op (e8 H b off u.size) y) (hH:∀ c,c<H.size->c∉Op->H'[c]?=H[c]?) {y':u.den} (fE:g9 H' S u Op (e8 H' b off u.size) y') {r:Sigma Ty.den} (aK:u6 e.ty e.x p u y'=some r) :
  OB H' S ι i (e.E3 r)/\Loc H' ι i e p=some (b,off):=by
 have he:e≠.M0:=K9 hl;have fw:=ho.zy he hS aM hg hl gJ;obtain ⟨Om,m1,mn,m2,m3,m4,m5⟩:=N5 he ho hS aM hg hl;obtain ⟨O,hO,hR,hb,aJ,bf,gi,dV⟩:=ho.see he hS;obtain ⟨O1,O3,b',aA,e1,e2,e3,e4,e5,e6⟩:=focus hR hb aM hg
 obtain ⟨cd,dm⟩:=C8 hl;rw [I2 he] at cd;rw [e3] at cd; cases cd;have cq:(O1++O3).Nodup:=(e1.nodup_iff).1 ((hO.nodup_iff).2 (aAs.1 aJ).2);have bn:∀ c∈O1,c∈ι.own i:=λ c hc=>hO.mem_iff.1 (e1.mem_iff.2 (by simp [hc]));have cK:∀ c∈O3,c∈ι.own i:=λ c hc=>hO.mem_iff.1 (e1.mem_iff.2 (by simp [hc]));have bI:=(aAs.1 aJ).1;have de:∀ c∈ι.own i,c∈l7 ι i e:=by intro c hc; cases e<;>simp [l7,hc]
 have e4':g9 H S u O3 (e8 H b off u.size) y:=by
  rw [l6 (G4 dm)] at e4;exact (wx (λ c hc=>ho.U5 he (cK c hc)) hS).1 e4
 obtain rfl:Op=O3:=gJ.det e4';have fa:∀ c∈O1,c<H.size:=λ c hc=>ho.U5 he (bn c hc);have dN:∀ c,(c=(VR H ι i e).1/\c<H.size)\/c∈O1\/S c->H'[c]?=H[c]?:=by
  rintro c (⟨rfl,h1⟩|h1|h1)
  ·exact hH _ h1 (λ h=>bI (cK _ h))
  ·exact hH c (fa c h1) (λ h=>(aAg.1 cq).2.2 c h1 c h rfl)
  ·exact hH c (hS c h1) (λ h=>(bO c (de c (cK c h))).1 h1)
 have jO:(∃ t x,e=.var t x)->(VR H ι i e).1<H.size:=by rintro ⟨t,x,rfl⟩; exact bf
 obtain ⟨n1,n2⟩:=w5.move (H':=H') hk e2 fa hS aW dN jO;have cS:(VR H' ι i e).2+e.ty.size<=(w6 (VH H' ι i e) (VR H' ι i e).1).length/\(VR H' ι i e).1<(VH H' ι i e).size/\¬ S (VR H' ι i e).1/\(VR H' ι i e).1∉O1:=by
  rcases hk with ⟨t,x,rfl⟩|⟨t,x,j,q,rfl,rfl⟩
  ·have hr:=jO ⟨_,_,rfl⟩
   refine ⟨?_,aAr hr aW,(bO _ (by simp [l7,VR])).1,λ h=>bI (bn _ h)⟩;have:=Q5 (dN _ (.inl ⟨rfl,hr⟩));show (VR H ι i (.var t x)).2+_<=(w6 H' (VR H ι i (.var t x)).1).length;rw [this]; exact hb
  ·refine ⟨?_,by simp [VH,VR,BW],λ h=>by have:=hS _ h; simp only [VR] at this; omega,λ h=>by have:=fa _ h; simp only [VR] at this; omega⟩
   simp only [VH,VR,wH] at hb ⊢; exact hb
 have fX:P5 (VH H' ι i e) b (off+u.size):=P5.u5 (H:=H') (G4 (aAr dm aW)) (m5.u5 (hH b dm fw));have tW:g9 (VH H' ι i e) S u Op (e8 (VH H' ι i e) b off u.size) y':=by
  rw [l6 (G4 (aAr dm aW))];exact (wx (λ c hc=>aAr (ho.U5 he (cK c hc)) aW) (λ c hc=>aAr (hS c hc) aW)).2 fE
 obtain ⟨O4,f1,f2,f3⟩:=Ca n1 hg (n2.trans e3) cS.1 cS.2.1 (aAg.1 cq).1 cS.2.2.2 (λ c hc=>⟨(bO c (de c (bn c hc))).1,aAr (fa c hc) (aAv aW xq)⟩) cS.2.2.1
  (λ c hc=>aAr (hS c hc) (aAv aW xq)) (λ _ h=>h) (X1.refl fX) tW aK
 have bU:∀ c∈O4,c∈ι.own i:=λ c hc=>(aAi.1 (f1.mem_iff.1 hc)).elim (bn c) (cK c);have gX:O4.Nodup:=(f1.nodup_iff).2 cq;have f2':=(wx (λ c hc=>aAr (ho.U5 he (bU c hc)) aW) (λ c hc=>aAr (hS c hc) aW)).1 f2;have lM:O4.Perm (ι.own i):=f1.trans (e1.symm.trans hO);refine ⟨?_,wv (by rw [I2 he,n2]; exact e3) (aAr dm aW)⟩;have fM:r.1.size=e.ty.size:=F9 f3;cases e with
 | var t x =>
  obtain ⟨_,hf,gy⟩:=ho;have hf:P5 H (ι.root i).1 ((ι.root i).2+t.size):=hf;refine ⟨⟨O4,lM,f2'⟩,?_,gy⟩;have fM:r.1.size=t.size:=fM;show P5 H' (ι.root i).1 ((ι.root i).2+r.1.size);rw [fM];exact hf.u5 (dN _ (.inl ⟨rfl,jO ⟨_,_,rfl⟩⟩))
 | own t x =>
  obtain ⟨⟨O',_,fE⟩,gy⟩:=ho;refine ⟨⟨O4,lM,?_⟩,gy⟩;have fM:r.1.size=t.size:=fM;have:e8 (VH H' ι i (.own t x)) (VR H' ι i (.own t x)).1 (VR H' ι i (.own t x)).2 r.1.size=ι.cells i:=by
   simp only [VH,VR,e8,wH,aCb];exact aAu (by rw [fE.length,fM]; exact aAj _)
  have f2'':g9 H' S r.1 O4 (e8 (VH H' ι i (.own t x)) (VR H' ι i (.own t x)).1 (VR H' ι i (.own t x)).2 r.1.size) r.2:=f2';rw [this] at f2'';exact f2''
 | M0=>exact absurd rfl he
theorem OB.same {i:Nat} {e:i6} (ho:OB H S ι i e) (bO:∀ c∈l7 ι i e,¬ S c/\c<H.size) (hS:∀ c,S c->c<H.size) {p:List Step} (hk:(∃ t x,e=.var t x)\/∃ t x j q,e=.own (.d0 true t) x/\p=.idx j::q) (aM:x8 e.ty e.x p) {u:Ty} {y:u.den} (hg:j9 e.ty e.x p=some ⟨u,y⟩)
  {b off:Nat} (hl:Loc H ι i e p=some (b,off)) (aW:H.size<=H'.size) {Op:List Nat} (gJ:g9 H S u Op (e8 H b off u.size) y) (hH:∀ c,c<H.size->c∉Op->H'[c]?=H[c]?) (fE:g9 H' S u Op (e8 H' b off u.size) y) :
  OB H' S ι i e/\Loc H' ι i e p=some (b,off):=by
 have h1:=OB.set ho bO hS hk aM hg hl aW gJ hH fE (Sd aM hg);have he:=K9 hl;have e9:e.E3 ⟨e.ty,e.x⟩=e:=by cases e<;>first|rfl|exact absurd rfl he
 rw [e9] at h1;exact h1
end
section
variable {E:Env} {B:E6} {S:Nat->Prop} {ι:Ix} {s:St} {a:Act} {w:World}
theorem Cj {H:Array Go.Obj} {i:Nat} {e:i6} (ho:OB H S ι i e) (hS:∀ c,S c->c<H.size) {p:List Step} (ki:(∃ t x,e=.var t x)\/∃ t x j q,e=.own (.d0 true t) x/\p=.idx j::q) (aM:x8 e.ty e.x p) {u:Ty} {y:u.den} (hg:j9 e.ty e.x p=some ⟨u,y⟩) :
  ∃ b off,Loc H ι i e p=some (b,off):=by
 have cF:e≠.M0:=by rcases ki with ⟨_,_,rfl⟩|⟨_,_,_,_,rfl,_⟩<;>(intro h; cases h)
 obtain ⟨O,hO,hR,eu,gy,pL,gi,dV⟩:=ho.see cF hS;obtain ⟨O1,O3,b',aA,g1,g2,g3,g4,g5,g6⟩:=focus hR eu aM hg
 have ch:∀ c∈O1,c<H.size:=λ c hc=>ho.U5 cF (hO.mem_iff.1 (g1.mem_iff.2 (by simp [hc])));refine ⟨b',aA,wv (by rw [I2 cF]; exact g3) ?_⟩;rcases ki with ⟨t,x,rfl⟩|⟨t,x,j,q,rfl,rfl⟩
 ·rcases w5.range g2 hg g3 with ⟨h1,_⟩|h1
  ·rw [h1]; exact ho.2.1.lt
  ·exact ch _ h1
 ·obtain ⟨hi,c1,o1,cap,P1,P2,P3,e,e1,e2,e3,e4,e5,e6,e7⟩:=g2
  subst e;have e1':(w6 (VH H ι i (.own (.d0 true t) x)) (VR H ι i (.own (.d0 true t) x)).1)[(VR H ι i (.own (.d0 true t) x)).2]?=some (.slice (some ⟨c1,o1,none⟩) (List.length x) cap):=e1;simp only [i6.ty,y8,e1'] at g3;rcases w5.range e6 hg g3 with ⟨h1,_⟩|h1
  ·rw [h1]; exact ch _ (by simp)
  ·exact ch _ (by simp [h1])
theorem c1u {e:i6} {p:List Step} {r:Sigma Ty.den} (h:zf e p r=true):(∃ t x,e=.var t x)\/∃ t x,e=.own (.d0 true t) x/\(p=[]\/∃ j q,p=.idx j::q):=by
 unfold zf at h;split at h
 ·exact .inl ⟨_,_,rfl⟩
 ·simp only [aAa] at h
  obtain ⟨_,h⟩:=h;split at h
  ·exact .inr ⟨_,_,rfl,.inl rfl⟩
  ·exact .inr ⟨_,_,rfl,.inr ⟨_,_,rfl⟩⟩
  ·cases h
 ·cases h
theorem TG {e:i6} {p:List Step} {r:Sigma Ty.den} (h:zf e p r=true):BF e (e.E3 r):=by
 unfold zf at h;obtain ⟨r1,r2⟩:=r;split at h
 ·rename_i t x
  obtain rfl:r1=t:=of_decide_eq_true h;exact .inl ⟨r1,x,r2,rfl,rfl⟩
 ·rename_i t x
  simp only [aAa] at h;obtain rfl:r1=.d0 true t:=of_decide_eq_true h.1;exact .inr (.inl ⟨t,x,r2,rfl,rfl⟩)
 ·cases h
theorem b8B {P:Program} (h:RS B S ι s a w) {i:Nat} {e:i6} (he:look i s.hp=some e) {p:List Step} (aM:x8 e.ty e.x p) {t0:Ty} {l:List t0.den} (hg:j9 e.ty e.x p=some ⟨.d0 true t0,l⟩) (cg:t0.shared=true)
  {b1 o1 cap:Nat} (hc:Cells w.heap ι i e p (.d0 true t0) [.slice (some ⟨b1,o1,none⟩) l.length cap]) (lE:1<=cap) {lo:Nat} {m:List t0.den} (iX:lo+m.length<=l.length) {news:List Value} (hN:j5 (g9 w.heap S t0) t0.size [] news m)
  {r:Sigma Ty.den} (aK:u6 e.ty e.x p (.d0 true t0) (l.take lo++m++l.drop (lo+m.length))=some r) (bQ:zf e p r=true) :
  ∃ w' ι',(storeCells ⟨b1,o1+lo*t0.size,none⟩ news).run P w=.ok () w'/\RS B S ι' ((s.X3 i e.vB).w8 i (e.E3 r)) a w':=by
 have cF:e≠.M0:=Ct hc;obtain ⟨Op,m1,mn,hR⟩:=H5 h.hs he aM hg hc;have bO:∀ c∈l7 ι i e,¬ S c/\c<w.heap.size:=λ c cU=>⟨(h.hs.bl i e he c cU).1,(h.hs.bl i e he c cU).2.2⟩;have fD:=hR;rcases hR with ⟨_,⟨A,c,e0,ep⟩,_⟩|⟨b2,o2,cap2,O',c1,c2,c3,c4,c5,rfl,c7⟩
 ·simp only [aBa,Value.slice.injEq,and_true] at e0
  have:=ep rfl; omega
 simp only [aBa,Value.slice.injEq,aAc,Addr.mk.injEq,and_true,true_and] at c1;obtain ⟨⟨rfl,rfl⟩,rfl⟩:=c1;have gK:O'=[]:=j5.O7 (λ _ _ _ hr=>g9.O7 cg hr) c5;subst gK;have dE:b1∈l7 ι i e:=G6 (m1 b1 (by simp));have gU:=(bO b1 dE).2;have gk:news.length=m.length*t0.size:=j5.length (λ _ _ _ h=>h.length) hN;have sS:lo*t0.size+m.length*t0.size<=l.length*t0.size:=by rw [<- aBl]; exact aAm _ iX
 have sR:l.length*t0.size<=cap*t0.size:=aAm _ c2;obtain ⟨arr,T',⟨fz,e1,ef⟩,hn⟩:=c7;have dL:w6 w.heap b1=arr.toList:=by simp only [w6,e1]
 have jq:=FM (P:=P) b1 (o1+lo*t0.size) T' fz news 0 arr w ⟨e1,ef.imp id (·.2)⟩ (by omega) (λ v hv=>(j5.plain (λ _ _ _ hr=>hr.plain) hN v hv).1);simp only [aDt] at jq;have iD:arr.toList.take (o1+lo*t0.size)++news++arr.toList.drop (o1+lo*t0.size+news.length)=over (w6 w.heap b1) (o1+lo*t0.size) news:=by rw [dL]; rfl
 rw [iD] at jq;obtain ⟨ff,hcs⟩:=Fb (w:=w) (b:=b1) (off:=o1+lo*t0.size) (cs:=news) ⟨arr,T',⟨fz,e1,ef.imp id (·.2)⟩,by omega⟩;generalize gN:w.setRow b1 (over (w6 w.heap b1) (o1+lo*t0.size) news).toArray=w' at jq ff hcs;have aW:w'.heap.size=w.heap.size:=by rw [<- gN]; exact setRow_size
 have bj:D0 [b1] w w':=⟨by rw [<- gN]; rfl,.of (by rw [<- gN]; rfl) (by rw [<- gN]; rfl),by rw [<- gN]; rfl,by rw [aW]; exact aAj _,λ c _ cx=>by rw [<- gN]; exact setRow_other (by simpa using cx)⟩;have dV:V4 t0.isB w'.heap b1 (o1+cap*t0.size):=ff.He ⟨arr,T',⟨fz,e1,ef⟩,hn⟩;have hlen:(l.take lo++m++l.drop (lo+m.length)).length=l.length:=by simp only [aAe,aAk,aAq]; omega
 have kM:∀ {O:List Nat} {cs:List Value} {y:t0.den},g9 w.heap S t0 O cs y->g9 w'.heap S t0 O cs y:=by
  intro O cs y hr;have hO:=g9.O7 cg hr;subst hO;refine hr.u5 (λ c cU=>bj.frame c ?_ ?_) (λ _ h=>h)
  ·rcases cU with h9|h9
   ·cases h9
   ·exact h.hs.slt c h9
  ·rcases cU with h9|h9
   ·cases h9
   ·rintro h8
    have:c=b1:=by simpa using h8
    exact (bO b1 dE).1 (this▸h9)
 have iI:∀ {cs:List Value} {l':List t0.den},j5 (g9 w.heap S t0) t0.size [] cs l'->j5 (g9 w'.heap S t0) t0.size [] cs l':=λ hr=>j5.mono (L:=[]) (λ _ h=>h) (λ _ _ _ _ hr=>kM hr) hr;have eH:∀ {k:Nat} {l':List t0.den} {O:List Nat} {cs:List Value},k<=l'.length->j5 (g9 w.heap S t0) t0.size O cs l'->j5 (g9 w.heap S t0) t0.size [] (cs.take (k*t0.size)) (l'.take k)/\j5 (g9 w.heap S t0) t0.size [] (cs.drop (k*t0.size)) (l'.drop k):=by
  intro k
  induction k with
  | zero =>
   intro l' O cs _ hr;have:=j5.O7 (λ _ _ _ hr=>g9.O7 cg hr) hr;subst this;simp only [aFa,aFv,aCb];exact ⟨⟨rfl,rfl⟩,hr⟩
  | succ k ih =>
   intro l' O cs hk hr
   match l',hk,hr with
   | x::l',hk,⟨O1,O2,_,r1,r2⟩ =>
    obtain ⟨q1,q2⟩:=ih (by simpa using hk) r2;have e9:=g9.O7 cg r1;subst e9;refine ⟨⟨[],[],rfl,?_,?_⟩,?_⟩
    ·rw [aCn,aCc (by rw [aBf]; omega)]; exact r1
    ·rw [aDk,show (k+1)*t0.size - t0.size=k*t0.size by rw [aBf]; omega]; exact q1
    ·rw [aBj,show t0.size+k*t0.size=(k+1)*t0.size by rw [aBf]; omega] at q2; exact q2
 have bN:e8 w'.heap b1 o1 (l.length*t0.size)=(e8 w.heap b1 o1 (l.length*t0.size)).take (lo*t0.size)++news++(e8 w.heap b1 o1 (l.length*t0.size)).drop ((lo+m.length)*t0.size):=by
  have e3:l.length*t0.size=lo*t0.size+(news.length+(l.length - (lo+m.length))*t0.size):=by
   rw [gk,<- aBl,<- aBl]; congr 1; omega
  have e4:o1+lo*t0.size+news.length=o1+(lo+m.length)*t0.size:=by rw [gk,aBl]; omega
  rw [n7 _ _ _ _ (by omega),o6];have e5:l.length*t0.size - (lo+m.length)*t0.size=(l.length - (lo+m.length))*t0.size:=by rw [Nat.sub_mul]
  rw [e5]
  conv=>lhs; rw [e3]
  rw [Lz,Lz,hcs,e4,ff.cells gU (λ _=>.inl (aAj _)),ff.cells gU (λ _=>.inr (by rw [gk,aBl]; omega)),aAl]
 have qH:j5 (g9 w'.heap S t0) t0.size [] (e8 w'.heap b1 o1 (l.length*t0.size)) (l.take lo++m++l.drop (lo+m.length)):=by
  rw [bN];exact j5.append (λ _ _ _ h=>h.length) (j5.append (λ _ _ _ h=>h.length) (iI (eH (by omega) c5).1) (iI hN)) (iI (eH (by omega) c5).2)
 have fE:g9 w'.heap S (.d0 true t0) [b1] [.slice (some ⟨b1,o1,none⟩) l.length cap] (l.take lo++m++l.drop (lo+m.length)):=by
  refine .inr ⟨b1,o1,cap,[],by rw [hlen],by rw [hlen]; exact c2,c3,?_,by rw [hlen]; exact qH,rfl,dV⟩;rw [hlen];have:=dV.free.w6;omega
 have ud:∃ O,OB w'.heap S (ι.C6 i O) i (e.E3 r)/\∀ c∈l7 (ι.C6 i O) i (e.E3 r),c∈l7 ι i e:=by
  have bm:∀ (ob:OB w'.heap S ι i (e.E3 r)),∃ O,OB w'.heap S (ι.C6 i O) i (e.E3 r)/\∀ c∈l7 (ι.C6 i O) i (e.E3 r),c∈l7 ι i e:=by
   intro ob;refine ⟨ι.own i,?_,?_⟩
   ·cases e<;>simpa [OB,Ix.C6,i6.E3] using ob
   ·intro c cU
    cases e with
    | var t x=>simpa [l7,Ix.C6,i6.E3] using cU
    | own t x=>simpa [l7,Ix.C6,i6.E3] using cU
    | M0=>exact absurd rfl cF
  obtain ⟨b0,off0,cd,gF⟩:=hc;rcases c1u bQ with ⟨t,x,rfl⟩|⟨t,x,rfl,hp⟩
  ·
   have mE:=aM;obtain ⟨b,off,hl⟩:=Cj (h.hs.ob i _ he) h.hs.slt (.inl ⟨_,_,rfl⟩) aM hg;have iB:=(C8 hl).1;rw [cd] at iB; cases iB;have dK:=(C8 hl).2;obtain ⟨Oq,q1,q2,q3,q4,q5,q6⟩:=N5 cF (h.hs.ob i _ he) h.hs.slt aM hg hl;have nq:e8 w.heap b0 off0 1=[.slice (some ⟨b1,o1,none⟩) l.length cap]:=by
    rw [l6 (G4 dK)] at gF; exact gF.symm
   have qJ:Oq=[b1]:=by
    have q3':g9 w.heap S (.d0 true t0) Oq [.slice (some ⟨b1,o1,none⟩) l.length cap] l:=by rw [<- nq]; exact q3
    exact q3'.det fD
   subst qJ;have lr:=(h.hs.ob i _ he).zy cF h.hs.slt aM hg hl q3;have lk:e8 w'.heap b0 off0 1=[.slice (some ⟨b1,o1,none⟩) l.length cap]:=by
    rw [l6 (bj.frame b0 dK lr)]; exact nq
   exact bm (OB.set (h.hs.ob i _ he) bO h.hs.slt (.inl ⟨_,_,rfl⟩) aM hg hl (by rw [aW]; exact aAj _) q3 (λ c cD kq=>bj.frame c cD kq) (by
    show g9 w'.heap S (.d0 true t0) [b1] (e8 w'.heap b0 off0 1) _;rw [lk]; exact fE) aK).1
  ·
   rcases hp with rfl|⟨j,q,rfl⟩
   ·have kl:j9 (.d0 true t) x []=some ⟨.d0 true t0,l⟩:=hg
    rw [C1] at kl;simp only [aAc,Sigma.mk.injEq,Ty.d0.injEq,true_and] at kl;obtain ⟨rfl,qS⟩:=kl;obtain rfl:x=l:=eq_of_heq qS;obtain ⟨⟨O9,sC,qI⟩,pF⟩:=h.hs.ob i _ he;have iN:ι.cells i=[.slice (some ⟨b1,o1,none⟩) (List.length x) cap]:=by
     rw [I2 cF,y9] at cd;cases cd;have rp:(ι.cells i).length=1:=qI.length;simp only [VH,VR,e8,wH,aCb,Ty.size] at gF;rw [aAu (by omega)] at gF;exact gF.symm
    have jR:u6 (.d0 true t) x [] (.d0 true t) (x.take lo++m++x.drop (lo+m.length))=some r:=aK;have hr:r=⟨.d0 true t,x.take lo++m++x.drop (lo+m.length)⟩:=by
     simp only [u6,if_true,aAc] at jR;exact jR.symm
    subst hr;rw [iN] at qI;have ue:O9=[b1]:=qI.det fD;subst ue;refine bm ⟨⟨[b1],sC,?_⟩,pF⟩;rw [iN]; exact fE
   ·obtain ⟨b,off,hl⟩:=Cj (h.hs.ob i _ he) h.hs.slt (.inr ⟨_,_,_,_,rfl,rfl⟩) aM hg
    have iB:=(C8 hl).1;rw [cd] at iB; cases iB;have dK:=(C8 hl).2;obtain ⟨Oq,q1,q2,q3,q4,q5,q6⟩:=N5 cF (h.hs.ob i _ he) h.hs.slt aM hg hl;have nq:e8 w.heap b0 off0 1=[.slice (some ⟨b1,o1,none⟩) l.length cap]:=by
     rw [l6 (G4 dK)] at gF; exact gF.symm
    have qJ:Oq=[b1]:=by
     have q3':g9 w.heap S (.d0 true t0) Oq [.slice (some ⟨b1,o1,none⟩) l.length cap] l:=by rw [<- nq]; exact q3
     exact q3'.det fD
    subst qJ;have lr:=(h.hs.ob i _ he).zy cF h.hs.slt aM hg hl q3;have lk:e8 w'.heap b0 off0 1=[.slice (some ⟨b1,o1,none⟩) l.length cap]:=by
     rw [l6 (bj.frame b0 dK lr)]; exact nq
    exact bm (OB.set (h.hs.ob i _ he) bO h.hs.slt (.inr ⟨_,_,_,_,rfl,rfl⟩) aM hg hl (by rw [aW]; exact aAj _) q3 (λ c cD kq=>bj.frame c cD kq) (by
     show g9 w'.heap S (.d0 true t0) [b1] (e8 w'.heap b0 off0 1) _;rw [lk]; exact fE) aK).1
 obtain ⟨O,aS,oz⟩:=ud;refine ⟨w',_,jq,h.renew he (TG bQ) F2.nil (L:=l7 ι i e) (bj.mono (by simpa using dE)) (λ b hb=>.inl hb) (λ _ h=>h) (λ _ h=>.inl h) (O':=O) aS (λ c cU=>?_)⟩;have:=h.hs.bl i e he c (oz c cU);exact ⟨this.1,.inr (oz c cU),by rw [aW]; exact this.2.2⟩
theorem c1t (h:RS B S ι s a w) {i:Nat} {e:i6} (he:look i s.hp=some e) {p:List Step} {r:Sigma Ty.den} (bQ:zf e p r=true) (hr:e.E3 r=e):∃ ι',RS B S ι' ((s.X3 i e.vB).w8 i (e.E3 r)) a w:=by
 have eP:=TG bQ;rw [hr] at eP ⊢;have hs:ι.C6 i (ι.own i)=ι:=by
  cases ι with
  | mk r c o =>
   simp only [Ix.C6,Ix.mk.injEq,true_and]
   funext j
   split
   ·rename_i e9; rw [e9]
   ·rfl
 exact ⟨_,h.renew he eP F2.nil (L:=l7 ι i e) ⟨rfl,.refl _,rfl,aAj _,λ _ _ _=>rfl⟩ (λ b hb=>.inl hb) (λ _ h=>h) (λ _ h=>.inl h) (O':=ι.own i) (by rw [hs]; exact h.hs.ob i e he) (λ c cU=>by
  rw [hs] at cU;have:=h.hs.bl i e he c cU;exact ⟨this.1,.inr cU,this.2.2⟩)⟩
theorem Jc (h:RS B S ι s a w) {v:AV} {val:Value} (hv:VX w.heap S ι s.hp v [val]) {i:Nat} {p:List Step} {lo hi:Int} (hd:v.wC s=some (i,p,lo,hi)) :
  ∃ e t0 l A cap c A',look i s.hp=some e/\x8 e.ty e.x p/\j9 e.ty e.x p=some ⟨.d0 true t0,l⟩/\Cells w.heap ι i e p (.d0 true t0) [.slice A (List.length l) cap]/\0<=lo/\lo<=hi/\hi<=(List.length l:Int) /\
   val=.slice A' (hi - lo).toNat c/\(c≠0->A'=A.map (·.add (lo.toNat*t0.size)))/\(hi - lo).toNat<=c:=by
 unfold AV.wC at hd;split at hd
 ·rename_i j q
  split at hd
  ·rename_i t0 l cQ
   cases hd;obtain ⟨e,u,y,cs,h1,h2,h3,h4,h5⟩:=hv;have hg:=I3 h1 cQ;rw [h3] at hg; cases hg;obtain ⟨O2,m1,m2,m3⟩:=H5 h.hs h1 h2 h3 h4;obtain ⟨A,cap,hcs,hle⟩:∃ A cap,cs=[.slice A (List.length l) cap]/\List.length l<=cap:=by
    rcases m3 with ⟨_,⟨A,c,e0,ep⟩,hl⟩|⟨b2,o2,cap2,O',c1,c2,_⟩
    ·subst hl; exact ⟨A,c,e0,aAz _⟩
    ·exact ⟨_,_,c1,c2⟩
   subst hcs;refine ⟨e,t0,l,A,cap,cap,A,h1,h2,h3,h4,aEb _,by omega,aEb _,?_,λ _=>?_,by omega⟩
   ·have h5:val=.slice A (List.length l) cap:=by simpa [l5,Ty.agg] using h5
    rw [h5,show ((List.length l:Int) - 0).toNat=List.length l by omega]
   ·cases A with
    | none=>rfl
    | some A=>simp [Addr.add]
  ·cases hd
 ·rename_i j q lo' cN
  split at hd
  ·rename_i t0 l cQ
   cases hd;obtain ⟨e,v',h1,h2,h3,h4,h5,h6⟩:=hv;have hg:=I3 h1 cQ;cases h3;rcases h6 with ⟨t1,l1,A,cap,k1,k2,k3,c,A',k4,k5,k6,k7⟩|⟨n,t1,l1,b,off,k1,_,_,_⟩
   ·rw [k1] at hg; cases hg
    exact ⟨e,t0,l,A,cap,c,A',h1,h2,k1,k3,h4,h5,k2,k4,k5,k6⟩
   ·rw [k1] at hg; cases hg
  ·cases hd
 ·cases hd
theorem c3I {t:Ty} {O:List Nat} {cs:List Value} {l:List t.den} (cg:t.shared=true) (hr:j5 (g9 w.heap S t) t.size O cs l):∀ {k:Nat},j5 (g9 w.heap S t) t.size [] (cs.take (k*t.size)) (l.take k):=by
 have hO:=j5.O7 (λ _ _ _ hr=>g9.O7 cg hr) hr;subst hO;intro k
 induction k generalizing cs l with
 | zero=>simp only [aFa,aFv]; exact ⟨rfl,rfl⟩
 | succ k ih =>
  match l,hr with
  | [],⟨_,e⟩=>subst e; simp only [aGx]; exact ⟨rfl,rfl⟩
  | x::l,⟨O1,O2,e,r1,r2⟩ =>
   obtain ⟨rfl,rfl⟩:=aBm.1 e.symm;refine ⟨[],[],rfl,?_,?_⟩
   ·rw [aCn,aCc (by rw [aBf]; omega)]; exact r1
   ·rw [aDk,show (k+1)*t.size - t.size=k*t.size by rw [aBf]; omega]; exact ih r2
theorem LA {P:Program} (h:RS B S ι s a w) {v:AV} {val:Value} (hv:VX w.heap S ι s.hp v [val]) {i:Nat} {p:List Step} {lo hi:Int} (hd:v.wC s=some (i,p,lo,hi)) {t:Ty} {m:List t.den} (hm:(m.length:Int)<=hi - lo) {news:List Value} (hN:j5 (g9 w.heap S t) t.size [] news m)
  {s':St} (hf:vZ s i p lo.toNat t m=some s'):∃ w' ι' A' c,val=.slice A' (hi - lo).toNat c/\RS B S ι' s' a w'/\((A'=none/\m=[]/\w'=w)\/∃ A,A'=some A/\(storeCells A news).run P w=.ok () w'):=by
 obtain ⟨e,t0,l,A,cap,c,A',h1,h2,h3,h4,h5,h6,h7,h8,h9,jf⟩:=Jc h hv hd;unfold vZ at hf;have aS:s.obj i=some e:=h1;rw [aS] at hf;simp only [h3] at hf;split at hf
 ·rename_i ht
  subst ht;split at hf
  ·rename_i r aK
   split at hf
   ·rename_i hc
    simp only [aAa] at hc;cases hf;have aK:u6 e.ty e.x p (.d0 true t) (l.take lo.toNat++m++l.drop (lo.toNat+m.length))=some r:=aK;by_cases ie:m=[]
    ·subst ie
     have da:news=[]:=hN.2;subst da;have bm:u6 e.ty e.x p (.d0 true t) l=some r:=by
      rw [<- aK]; congr 1; simp
     have hr:r=⟨e.ty,e.x⟩:=by
      have:=Sd h2 h3;rw [bm] at this; cases this; rfl
     have oO:e.E3 r=e:=by
      rw [hr];cases e with
      | M0=>rfl
      | _=>rfl
     obtain ⟨ι',cn⟩:=c1t h h1 hc.2 oO;refine ⟨w,ι',A',c,h8,cn,?_⟩;cases A' with
     | none=>exact .inl ⟨rfl,rfl,rfl⟩
     | some A=>exact .inr ⟨A,rfl,by simp [storeCells]⟩
    ·have ic:1<=m.length:=aCd.2 ie
     have ep:c≠0:=by omega
     have hA:=h9 ep;obtain ⟨Op,m1,mn,hR⟩:=H5 h.hs h1 h2 h3 h4;rcases hR with ⟨_,⟨A9,c9,e0,uV⟩,hl⟩|⟨b2,o2,cap2,O',c1,c2,c3,_⟩
     ·rw [hl] at h7; simp at h7; omega
     ·simp only [aBa,Value.slice.injEq,and_true,true_and] at c1
      obtain ⟨rfl,rfl⟩:=c1;obtain ⟨w',ι',k1,k2⟩:=b8B (P:=P) h h1 h2 h3 hc.1 h4 (c3.2 rfl) (lo:=lo.toNat) (m:=m) (by omega) hN aK hc.2;refine ⟨w',ι',A',c,h8,k2,.inr ⟨⟨b2,o2+lo.toNat*t.size,none⟩,by rw [hA]; simp [Addr.I1],k1⟩⟩
   ·cases hf
  ·cases hf
 ·cases hf
end
end Go.Ex
namespace Go.Ex
theorem Sk {P:Program} {k:Nat} {T:TypeId} {t:Ty} (h:o8 P k T (.hole t)=true):∃ e,P.underlying T=some (.slice e):=by
 cases k with
 | zero=>simp [o8] at h
 | succ k =>
  obtain ⟨d,h1,h2⟩:=R8 h;simp only [o8,aAa,h1] at h;obtain ⟨_,h⟩:=h;cases d<;>first|(exact (aAy h).elim)|skip
  ·exact ⟨_,h1⟩
  ·rename_i fs
   have h:n6 (o8 P k) fs.toList 0 (.hole t)=true:=h;cases hf:fs.toList<;>(rw [hf] at h; simp [n6] at h)
theorem QI {P:Program} {k:Nat} {T:TypeId} {t:Ty} (h:o8 P k T (.B9 t)=true):∃ e,P.underlying T=some (.slice e):=by
 cases k with
 | zero=>simp [o8] at h
 | succ k =>
  obtain ⟨d,h1,h2⟩:=R8 h;simp only [o8,aAa,h1] at h;obtain ⟨_,h⟩:=h;cases d<;>first|(exact (aAy h).elim)|skip
  ·exact ⟨_,h1⟩
  ·rename_i fs
   have h:n6 (o8 P k) fs.toList 0 (.B9 t)=true:=h;cases hf:fs.toList<;>(rw [hf] at h; simp [n6] at h)
section
variable {E:Env} {B:E6} {S S':Nat->Prop} {ι:Ix} {s:St} {a:Act} {w:World} {hp:List (Nat×i6)} {H H':Array Go.Obj}
theorem TQ {P:Program} {e:TypeId} {t:Ty} {n d:Nat} (hT:o8 P n e t=true)
  (hA:∀ {cs cs':List Value} {x y:t.den},g9 H S t [] cs x->g9 H' S' t [] cs' y->(Op.equalIn d e (l5 t cs) (l5 t cs')).run P w=.ok (F5 t x y) w) {cs cs':List Value} :
  ∀ {l l':List t.den} {k:Nat},l.length=l'.length->j5 (g9 H S t) t.size [] (cs.drop (k*t.size)) l->j5 (g9 H' S' t) t.size [] (cs'.drop (k*t.size)) l' ->
   (Op.eqItems d e t.size cs.toArray cs'.toArray (List.range' k l.length)).run P w=.ok (F5.xD (F5 t) l l') w
 | [],[],k,_,_,_=>by simp [Op.eqItems,F5.xD]
 | [],_::_,_,h,_,_=>by cases h
 | _::_,[],_,h,_,_=>by cases h
 | x::l,y::l',k,hl,⟨O1,O2,e1,h1,h2⟩,⟨O3,O4,e2,h3,h4⟩=>by
  obtain ⟨rfl,rfl⟩:=aBm.1 e1.symm;obtain ⟨rfl,rfl⟩:=aBm.1 e2.symm;have p1:=ya (w:=w) hT h1;have p2:=ya (w:=w) hT h3;have e3:=hA h1 h3;have hk:k*t.size+t.size=(k+1)*t.size:=by rw [aBf]
  rw [aBj,hk] at h2 h4;have ih:=TQ hT hA (l:=l) (l':=l') (k:=k+1) (by simpa using hl) h2 h4;simp only [aAh,aGj,Op.eqItems,Sem.run_bind,p1,p2,Result.andThen,e3,F5.xD];cases hq:F5 t x y with
  | true=>simpa using ih
  | false=>simp
theorem run_eq {P:Program}:∀ (t:Ty),
  (∀ {n m d:Nat} {T:TypeId} {cs cs':List Value} {x y:t.den},o8 P n T t=true->V9 P m T t=true->t.ht<d->g9 H S t [] cs x->g9 H' S' t [] cs' y->(Op.equalIn d T (l5 t cs) (l5 t cs')).run P w=.ok (F5 t x y) w) /\
  (∀ {n m d off:Nat} {fs:List Field} {cs cs':List Value} {x y:t.den},n6 (o8 P n) fs off t=true->yj (V9 P m) fs t=true->t.ht<=d->g9 H S t [] ((cs.drop off).take t.size) x->g9 H' S' t [] ((cs'.drop off).take t.size) y ->
   (Op.eqFields d cs.toArray cs'.toArray fs).run P w=.ok (F5 t x y) w):=by
 intro t;have strct:∀ {t:Ty},t.agg=true->(∀ n u,t≠.arr n u) ->
  (∀ {n m d off:Nat} {fs:List Field} {cs cs':List Value} {x y:t.den},n6 (o8 P n) fs off t=true->yj (V9 P m) fs t=true->t.ht<=d->g9 H S t [] ((cs.drop off).take t.size) x->g9 H' S' t [] ((cs'.drop off).take t.size) y ->
   (Op.eqFields d cs.toArray cs'.toArray fs).run P w=.ok (F5 t x y) w) ->
  (∀ {n m d:Nat} {T:TypeId} {cs cs':List Value} {x y:t.den},o8 P n T t=true->V9 P m T t=true->t.ht<d->g9 H S t [] cs x->g9 H' S' t [] cs' y->(Op.equalIn d T (l5 t cs) (l5 t cs')).run P w=.ok (F5 t x y) w):=by
  intro t dp lO hB n m d T cs cs' x y hT hq hd h1 h2;obtain ⟨fs,k',g1,g2⟩:=LI hT dp lO;have gm:P.underlying T=some (.struct (P.fieldsOf T)):=by simp [Program.fieldsOf,g1]
  have fW:P.fieldsOf T=fs:=by rw [g1] at gm; cases gm; rfl
  cases m with
  | zero=>simp [V9] at hq
  | succ m =>
   have hq:(!P.stoodInHeld T && yj (V9 P m) fs.toList t)=true:=by
    simp only [V9,g1] at hq;exact hq
   simp only [aAa,aAt] at hq;obtain ⟨d,rfl⟩:∃ e,d=e+1:=⟨d - 1,by omega⟩;have hv:∀ cs,l5 t cs=.agg cs.toArray:=by intro cs; simp [l5,dp]
   rw [hv,hv,run_equalIn_struct w d T _ _ gm hq.1,fW];refine hB g2 hq.2 (by omega) ?_ ?_
   ·rw [aCb,aAu (by rw [h1.length]; exact aAj _)]; exact h1
   ·rw [aCb,aAu (by rw [h2.length]; exact aAj _)]; exact h2
 induction t with
 | int k =>
  refine ⟨?_,by intro n m d off fs cs cs' x y h; cases fs<;>simp [n6] at h⟩;rintro n m d T cs cs' x y hT _ hd ⟨_,rfl,_⟩ ⟨_,rfl,_⟩;obtain ⟨d,rfl⟩:∃ e,d=e+1:=⟨d - 1,by omega⟩;exact run_equalIn_int w d T k k x y (xw hT)
 | bool =>
  refine ⟨?_,by intro n m d off fs cs cs' x y h; cases fs<;>simp [n6] at h⟩;rintro n m d T cs cs' x y hT _ hd ⟨_,rfl⟩ ⟨_,rfl⟩;obtain ⟨d,rfl⟩:∃ e,d=e+1:=⟨d - 1,by omega⟩;exact run_equalIn_bool (AI hT) d x y
 | str =>
  refine ⟨?_,by intro n m d off fs cs cs' x y h; cases fs<;>simp [n6] at h⟩;rintro n m d T cs cs' x y hT _ hd ⟨_,rfl,_⟩ ⟨_,rfl,_⟩;obtain ⟨d,rfl⟩:∃ e,d=e+1:=⟨d - 1,by omega⟩;have:=run_equalIn_string w d T (⟨(x:yY).toArray⟩:ByteArray) ⟨(y:yY).toArray⟩ (U9 hT);refine Eq.trans this ?_;rw [ByteArray.toList_eq,ByteArray.toList_eq];congr 1;show ((x:yY) == y)=decide ((x:yY)=y);rw [Bool.eq_iff_iff]; simp
 | unit =>
  have hB:∀ {n m d off:Nat} {fs:List Field} {cs cs':List Value} {x y:Ty.unit.den},n6 (o8 P n) fs off .unit=true->yj (V9 P m) fs .unit=true->Ty.unit.ht<=d->g9 H S .unit [] ((cs.drop off).take Ty.unit.size) x->g9 H' S' .unit [] ((cs'.drop off).take Ty.unit.size) y ->
   (Op.eqFields d cs.toArray cs'.toArray fs).run P w=.ok (F5 .unit x y) w:=by
   intro n m d off fs cs cs' x y h _ _ _ _;cases fs with
   | nil=>simp [Op.eqFields,F5]
   | cons f fs=>simp [n6] at h
  exact ⟨strct rfl (by simp) hB,hB⟩
 | pair p q ihp ihq =>
  have hB:∀ {n m d off:Nat} {fs:List Field} {cs cs':List Value} {x y:(Ty.pair p q).den},n6 (o8 P n) fs off (.pair p q)=true->yj (V9 P m) fs (.pair p q)=true->(Ty.pair p q).ht<=d ->
    g9 H S (.pair p q) [] ((cs.drop off).take (Ty.pair p q).size) x->g9 H' S' (.pair p q) [] ((cs'.drop off).take (Ty.pair p q).size) y->(Op.eqFields d cs.toArray cs'.toArray fs).run P w=.ok (F5 (.pair p q) x y) w:=by
   rintro n m d off fs cs cs' x y hf hq hd ⟨O1,O2,e1,h1,h2⟩ ⟨O3,O4,e2,h3,h4⟩;obtain ⟨rfl,rfl⟩:=aBm.1 e1.symm;obtain ⟨rfl,rfl⟩:=aBm.1 e2.symm;cases fs with
   | nil=>simp [n6] at hf
   | cons f fs =>
    simp only [n6,aAa] at hf;simp only [yj,aAa] at hq;obtain ⟨⟨⟨⟨g1,_⟩,g3⟩,g4⟩,g5⟩:=hf;have g1:f.offset=off:=aAd g1;have oc:p.ht+1<=d/\q.ht<=d:=by
     have:max (p.ht+1) q.ht<=d:=hd;omega
    have aW:(Ty.pair p q).size=p.size+q.size:=rfl;rw [aCn,aCc (by omega)] at h1 h3;rw [aDk,aBj,aW,aCs] at h2 h4;rw [<- g1] at h1 h3;have p1:=ya (w:=w) g3 h1;have p2:=ya (w:=w) g3 h3;have e3:=ihp.1 (d:=d) g3 hq.1 (by omega) h1 h3;have ih:=ihq.2 (d:=d) (cs:=cs) (cs':=cs') g5 hq.2 oc.2 h2 h4;have hn:f.name≠ "_":=by simpa using g4
    simp only [Op.eqFields,hn,ne_eq,not_false_eq_true,if_true,Sem.run_bind,p1,p2,Result.andThen,e3,F5];cases hh:F5 p x.1 y.1 with
    | true=>simpa using ih
    | false=>simp
  exact ⟨strct rfl (by simp) hB,hB⟩
 | arr k t ih =>
  refine ⟨?_,by intro n m d off fs cs cs' x y h; cases fs<;>simp [n6] at h⟩;rintro n m d T cs cs' x y hT hq hd ⟨h1,h2⟩ ⟨h3,h4⟩;obtain ⟨e,k',g1,g2,g3⟩:=Y0 hT;cases m with
  | zero=>simp [V9] at hq
  | succ m =>
   have hq:V9 P m e t=true:=by simpa only [V9,g1] using hq
   obtain ⟨d,rfl⟩:∃ e,d=e+1:=⟨d - 1,by omega⟩;obtain ⟨i,hi,tg,_⟩:=X5 g3;have hc:P.cellsOf e=t.size:=by simp [Program.cellsOf,hi,tg]
   have hv:∀ cs,l5 (.arr k t) cs=.agg cs.toArray:=λ cs=>rfl;have kn:t.ht<d:=by have:t.ht+1<d+1:=hd; omega
   rw [hv,hv,run_equalIn_array w d _ _ g1 hi,hc,aEs];have:=TQ (w:=w) (cs:=cs) (cs':=cs') (l:=x) (l':=y) (k:=0) g3 (λ a b=>ih.1 g3 hq kn a b) (by rw [h1,h3]) (by simpa using h2) (by simpa using h4);rw [h1] at this;exact this
 | fn f =>
  refine ⟨?_,by intro n m d off fs cs cs' x y h; cases fs<;>simp [n6] at h⟩;rintro n m d T cs cs' x y hT hq;obtain ⟨_,_,_,g1⟩:=Oy hT;cases m<;>simp [V9,g1] at hq
 | map o a b =>
  refine ⟨?_,by intro n m d off fs cs cs' x y h; cases fs<;>simp [n6] at h⟩;rintro n m d T cs cs' x y hT hq;obtain ⟨_,_,_,g1,_⟩:=EF hT;cases m<;>simp [V9,g1] at hq
 | box o g t =>
  refine ⟨?_,by intro n m d off fs cs cs' x y h; cases fs<;>simp [n6] at h⟩;rintro n m d T cs cs' x y hT hq;cases g with
  | none =>
   obtain ⟨_,_,g1,_⟩:=JY hT;cases m<;>simp [V9,g1] at hq
  | some f =>
   obtain ⟨_,_,_,g1⟩:=Sj hT;cases m<;>simp [V9,g1] at hq
 | d0 o t ih =>
  refine ⟨?_,by intro n m d off fs cs cs' x y h; cases fs<;>simp [n6] at h⟩;rintro n m d T cs cs' x y hT hq;obtain ⟨e,k',g1,_⟩:=G5 hT;cases m<;>simp [V9,g1] at hq
 | hole t ih =>
  refine ⟨?_,by intro n m d off fs cs cs' x y h; cases fs<;>simp [n6] at h⟩;rintro n m d T cs cs' x y hT hq;obtain ⟨e,g1⟩:=Sk hT;cases m<;>simp [V9,g1] at hq
 | B9 t ih =>
  refine ⟨?_,by intro n m d off fs cs cs' x y h; cases fs<;>simp [n6] at h⟩;rintro n m d T cs cs' x y hT hq;obtain ⟨e,g1⟩:=QI hT;cases m<;>simp [V9,g1] at hq
theorem Rn (hE:D3 E B) (h:RS B S ι s a w) {o:Oper} {op:BinOp} {T T':TypeId} {x y:Operand} (ho:o.op=.binOp op T x y T') {t u:Ty} {p:t.den} {q:u.den} (hx:s.ev x=.val t p) (hy:s.ev y=.val u q):F1 E.P B o a w (eqA E T op t p u q s):=by
 unfold eqA
 split
 ·rename_i hu
  subst hu;have core:(u.agg && I6 E T u && V9 E.P 100 T u && !(E.P.eqGuardType E.P.depth T) && Nat.blt u.ht 100)=true ->
    ∃ cs cs',a.eval x=.agg cs/\a.eval y=.agg cs'/\(∀ op,(eqGuard op T x y (a.eval x) (a.eval y)).run E.P w=.ok () w)/\(Op.equalIn 10000 T (.agg cs) (.agg cs')).run E.P w=.ok (F5 u p q) w:=by
   intro hc;simp only [aAa,aAt,aDf] at hc;obtain ⟨⟨⟨⟨c1,c2⟩,c3⟩,c4⟩,c5⟩:=hc;obtain ⟨cs,e1,h1⟩:=C3 h hx;obtain ⟨cs',e2,h2⟩:=C3 h hy;have hv:∀ cs,l5 u cs=.agg cs.toArray:=by intro cs; simp [l5,c1]
   have e1:a.eval x=.agg cs.toArray:=by rw [hv] at e1; simpa using e1
   have e2:a.eval y=.agg cs'.toArray:=by rw [hv] at e2; simpa using e2
   refine ⟨_,_,e1,e2,λ op=>by rw [e1,e2]; exact run_eqGuard_agg w op T x y _ _ c4,?_⟩;have:=(run_eq (P:=E.P) (w:=w) (H:=w.heap) (H':=w.heap) (S:=S) (S':=S) u).1 (d:=10000) (D6 hE c2) c3 (by omega) h1 h2
   rwa [hv,hv] at this
  split
  ·rename_i hc
   obtain ⟨cs,cs',e1,e2,hg,he⟩:=core hc;refine y7.value (val:=.bool (F5 u p q)) ?_ h VX.bool;rw [U3 ho (hg .eql) (r:=.ok (.bool (F5 u p q)) w)]; rfl;rw [e1,e2,run_eql_struct,he]; rfl
  ·rename_i hc
   obtain ⟨cs,cs',e1,e2,hg,he⟩:=core hc;refine y7.value (val:=.bool (!(F5 u p q))) ?_ h VX.bool;rw [U3 ho (hg .neq) (r:=.ok (.bool (!(F5 u p q))) w)]; rfl;rw [e1,e2,run_neq_struct,he]; rfl
  ·trivial
 ·trivial
theorem c05 (hE:D3 E B) (h:RS B S ι s a w) {o:Oper} {op:BinOp} {T T':TypeId} {x y:Operand} (ho:o.op=.binOp op T x y T') {i:Nat} {p:List Step} (ex:s.ev x=.ptr i p) (ey:s.ev y=.raw (.pointer none)):F1 E.P B o a w (zS E T op s):=by
 have hx:=h.ev x;have hy:=h.ev y;rw [ex] at hx; rw [ey] at hy;obtain ⟨e,b,off,-,-,-,hx⟩:=hx;have hx:a.eval x=.pointer (some ⟨b,off,none⟩):=by simpa using hx
 have hy:a.eval y=.pointer none:=by
  have hy:[a.eval y]=[Value.pointer none]:=hy;simpa using hy
 have hg:(eqGuard op T x y (a.eval x) (a.eval y)).run E.P w=.ok () w:=by rw [hx,hy]; cases op<;>rfl
 have run:∀ {o':Bool} {t:Ty} {n:Nat},look T E.tt=some ⟨.box o' none t,n⟩->(Op.equal T (.pointer (some ⟨b,off,none⟩)) (.pointer none)).run E.P w=.ok false w:=by
  intro o' t n hl;obtain ⟨e',k',h1,-⟩:=JY (r7 (B:=B) hE hl);have key:∀ d,(Op.equalIn (d+1) T (.pointer (some ⟨b,off,none⟩)) (.pointer none)).run E.P w=.ok false w:=λ d=>by simp [Op.equalIn,p9 h1]
  exact key 9999
 unfold zS
 split
 ·rename_i hl
  exact y7.value (by rw [U3 ho hg (r:=.ok (.bool false) w)]; rfl; rw [hx,hy]; simp [binOp,run hl]) h VX.bool
 ·rename_i hl
  exact y7.value (by rw [U3 ho hg (r:=.ok (.bool true) w)]; rfl; rw [hx,hy]; simp [binOp,run hl]) h VX.bool
 ·trivial
theorem c2x (hE:D3 E B) (h:RS B S ι s a w) {o:Oper} {op:BinOp} {T T':TypeId} {x y:Operand} (ho:o.op=.binOp op T x y T'):F1 E.P B o a w (wP E T op (s.ev x) (s.ev y) s):=by
 unfold wP
 split
 ·rename_i e1 e2; exact c05 hE h ho e1 e2
 ·rename_i e1 e2; exact Rn hE h ho e1 e2
 ·rename_i e1 e2; exact Rn hE h ho e1 e2
 ·exact c2y hE h ho
end
end Go.Ex
namespace Go.Ex
section
variable {E:Env} {B:E6} {S S':Nat->Prop} {ι:Ix} {s:St} {a:Act} {w:World} {hp:List (Nat×i6)} {H H':Array Go.Obj}
theorem Sx {t:Ty} (hk:t.key=true) {cs cs':List Value} {x y:t.den} (h1:g9 H S t [] cs x) (h2:g9 H' S' t [] cs' y) (he:F5 t x y=true):cs=cs':=by
 unfold Ty.key at hk;split at hk
 ·obtain ⟨_,rfl,_⟩:=h1
  obtain ⟨_,rfl,_⟩:=h2;rw [show x=y from of_decide_eq_true he]
 ·obtain ⟨_,rfl⟩:=h1
  obtain ⟨_,rfl⟩:=h2;rw [show x=y from eq_of_beq he]
 ·obtain ⟨_,rfl,_⟩:=h1
  obtain ⟨_,rfl,_⟩:=h2;rw [show x=y from of_decide_eq_true he]
 ·rename_i n k
  obtain ⟨_,h1⟩:=h1;obtain ⟨_,h2⟩:=h2;rw [AK h1,AK h2];have:∀ l m:List Int,F5.xD (F5 (.int k)) l m=true->l=m:=by
   intro l
   induction l with
   | nil=>intro m h; cases m<;>first|rfl|cases h
   | cons a l ih =>
    intro m h;cases m with
    | nil=>cases h
    | cons b m =>
     simp only [F5.xD,aAa] at h;rw [show a=b from of_decide_eq_true h.1,ih m h.2]
  rw [this x y he]
 ·cases hk
theorem Zp {t:Ty} (hk:t.key=true) {cs:List Value} {x:t.den} (h1:g9 H S t [] cs x) {P:Program}:(Instr.keyThatStays (l5 t cs) (l5 t cs)).run P w=.ok (l5 t cs) w:=by
 have:Instr.sameBits 10000 (l5 t cs) (l5 t cs)=true:=by
  unfold Ty.key at hk;split at hk
  ·obtain ⟨_,rfl,_⟩:=h1; simp [l5,Ty.agg,Instr.sameBits]
  ·obtain ⟨_,rfl⟩:=h1; simp [l5,Ty.agg,Instr.sameBits]
  ·obtain ⟨_,rfl,_⟩:=h1; exact MapKept.sameBits_self (d:=.string) (k:=.string ⟨(show yY from x).toArray⟩) trivial _
  ·rename_i n k
   obtain ⟨_,h1⟩:=h1;rw [AK h1];show Instr.sameBits (9999+1) (.agg _) (.agg _)=true;simp only [Instr.sameBits,beq_self_eq_true,aEj,aBh];rintro ⟨p,q⟩ lL;have hz:∀ l:List Int,(p,q)∈(l.map (Value.int k)).zip (l.map (Value.int k))->∃ n,p=.int k n/\q=.int k n:=by
    intro l
    induction l with
    | nil=>intro h; cases h
    | cons n l ih =>
     intro h;simp only [aDb,List.zip_cons_cons,aAp,aAx] at h;exact h.elim (λ h=>⟨n,h.1,h.2⟩) ih
   obtain ⟨n,rfl,rfl⟩:=hz _ (by simpa using lL);simp [Instr.sameBits]
  ·cases hk
 simp [Instr.keyThatStays,this]
theorem ET {t:Ty} {n:Nat} {K:TypeId} (hk:t.key=true) (hT:o8 E.P n K t=true) {cs:List Value} {x:t.den} (h1:g9 H S t [] cs x) (em:Bool):(Instr.checkKey em 10000 K (l5 t cs)).run E.P w=.ok () w:=by
 have simple:∀ {t:Ty} {n:Nat} {K:TypeId} (m:Nat),(t=.bool\/t=.str\/∃ k,t=.int k)->o8 E.P n K t=true->∀ {v:Value},(Instr.checkKey em (m+1) K v).run E.P w=.ok () w:=by
  intro t n K m ht hT v;rcases ht with rfl|rfl|⟨k,rfl⟩
  ·simp [Instr.checkKey,p9 (AI hT)]
  ·simp [Instr.checkKey,p9 (U9 hT)]
  ·simp [Instr.checkKey,p9 (xw hT)]
 unfold Ty.key at hk;split at hk
 ·exact simple 9999 (.inr (.inr ⟨_,rfl⟩)) hT
 ·exact simple 9999 (.inl rfl) hT
 ·exact simple 9999 (.inr (.inl rfl)) hT
 ·rename_i m k
  obtain ⟨e,k',g1,_,g3⟩:=Y0 hT;obtain ⟨hl,hr⟩:=h1;have hcs:=AK hr;show (Instr.checkKey em (9998+1+1) K (.agg cs.toArray)).run E.P w=.ok () w;rw [Instr.checkKey];simp only [Sem.run_bind,p9 g1,Result.andThen_ok];simp only [Std.Legacy.Range.forIn_eq_forIn_range',Std.Legacy.Range.size,Nat.sub_zero,Nat.add_one_sub_one,Nat.div_one];have each:∀ j∈List.range' 0 m,(part e cs.toArray (j*1)).run E.P w=.ok (l5 (.int k) ((cs.drop (j*1)).take 1)) w:=by
   intro j hj;simp only [aGd,aEo] at hj;have hlen:List.length x=m:=hl;refine ya (H:=H) (u:=.int k) (z:=List.getD x j 0) (O:=[]) (S:=S) g3 ?_;have gl:j<List.length x:=by omega
   have:(cs.drop (j*1)).take 1=[.int k (List.getD x j 0)]:=by
    rw [hcs,aHt,<- List.map_drop,<- List.map_take,aDy gl,aFx,aFv];simp [aAb,aAf gl]
   rw [show (Ty.int k).size=1 from rfl,this];refine ⟨rfl,rfl,?_⟩;have cT:=j5.split (d:=(0:Int)) (i:=j) gl hr;obtain ⟨_,_,_,_,_,h9,_⟩:=cT;exact h9.2.2
  generalize List.range' 0 m=is at each
  induction is with
  | nil=>simp
  | cons j is ih =>
   have hs:(sizeOf e).run E.P w=.ok 1 w:=run_sizeOf g3;have hp:=each j (by simp);have hc:=simple 9998 (.inr (.inr ⟨k,rfl⟩)) g3 (v:=l5 (.int k) ((cs.drop (j*1)).take 1));simp only [List.forIn_cons,Sem.run_bind,hs,Result.andThen_ok,hp,hc,Sem.run_pure];exact ih (λ i hi=>each i (by simp [hi]))
 ·cases hk
theorem EM {t u:Ty} {n:Nat} {K:TypeId} (hk:t.key=true) (hT:o8 E.P n K t=true) (hq:V9 E.P 100 K t=true) {cs:List Value} {x:t.den} (h1:g9 H S t [] cs x) :
  ∀ {es:List MapEntry} {l:List (t.den×u.den)} (i:Nat),S3 (g9 H' S' t []) (g9 H' S' u []) t u es l ->
   ∃ r,(Instr.findAsking K (l5 t cs) es i).run E.P w=.ok r w/\(i=0->(Instr.findKey K (l5 t cs) es).run E.P w=.ok r w) /\
    ((posOf (F5 t) x l i=none/\r=none)\/∃ j y e ds,posOf (F5 t) x l i=some (i+j,y)/\r=some (i+j,e.val)/\es[j]?=some e/\e.key=l5 t cs/\e.val=l5 u ds/\g9 H' S' u [] ds y):=by
 have oc:t.ht<10000:=by
  unfold Ty.key at hk; split at hk<;>first|(cases hk; done)|simp [Ty.ht]
 have qy:∀ {es:List MapEntry} {l:List (t.den×u.den)} (i:Nat),S3 (g9 H' S' t []) (g9 H' S' u []) t u es l ->
   ∃ r,(Instr.findAsking K (l5 t cs) es i).run E.P w=.ok r w /\
    ((posOf (F5 t) x l i=none/\r=none)\/∃ j y e ds,posOf (F5 t) x l i=some (i+j,y)/\r=some (i+j,e.val)/\es[j]?=some e/\e.key=l5 t cs/\e.val=l5 u ds/\g9 H' S' u [] ds y):=by
  intro es
  induction es with
  | nil =>
   intro l i h;rw [show l=[] from h];exact ⟨none,rfl,.inl ⟨rfl,rfl⟩⟩
  | cons e es ih =>
   rintro l i ⟨x',y',l',c1,d1,rfl,e1,e2,e3,e4,e5⟩;have hr:(Op.equal K (l5 t cs) e.key).run E.P w=.ok (F5 t x x') w:=by
    rw [e1]; exact (run_eq (w:=w) t).1 hT hq oc h1 e2
   cases hb:F5 t x x' with
   | true =>
    have:l5 t cs=l5 t c1:=by rw [Sx hk h1 e2 hb]
    refine ⟨some (i,e.val),?_,.inr ⟨0,y',e,d1,by simp [posOf,hb],rfl,rfl,by rw [e1,this],e3,e4⟩⟩;simp only [Instr.findAsking,Sem.run_bind,hr,hb,Result.andThen_ok,if_true,Sem.run_pure]
   | false =>
    obtain ⟨r,r1,r2⟩:=ih (i+1) e5;refine ⟨r,?_,?_⟩
    ·simp only [Instr.findAsking,Sem.run_bind,hr,hb,Result.andThen_ok,aCk,if_false]; exact r1
    ·rcases r2 with ⟨r2,r3⟩|⟨j,y,e0,ds,r2,r3,r4,r5⟩
     ·exact .inl ⟨by simp only [posOf,hb]; exact r2,r3⟩
     ·exact .inr ⟨j+1,y,e0,ds,by simp only [posOf,hb]; rw [r2]; congr 2; omega,by rw [r3]; congr 2; omega,by simpa using r4,r5⟩
 have pC:∀ (d:TypeDesc),E.P.underlying K=some d->MapKept.IsKey d (l5 t cs)->(∀ {cs':List Value} {x':t.den},g9 H' S' t [] cs' x'->MapKept.IsKey d (l5 t cs')/\(l5 t cs'=l5 t cs->F5 t x x'=true))->∀ {es:List MapEntry} {l:List (t.den×u.den)} (i:Nat),S3 (g9 H' S' t []) (g9 H' S' u []) t u es l ->
   ∃ r,(Instr.findNow d (l5 t cs) es i)=some r/\(Instr.findAsking K (l5 t cs) es i).run E.P w=.ok r w:=by
  intro d hd kZ bD es
  induction es with
  | nil=>intro l i h; exact ⟨none,rfl,rfl⟩
  | cons e es ih =>
   rintro l i ⟨x',y',l',c1,d1,rfl,e1,e2,e3,e4,e5⟩;have hr:(Op.equal K (l5 t cs) e.key).run E.P w=.ok (F5 t x x') w:=by
    rw [e1]; exact (run_eq (w:=w) t).1 hT hq oc h1 e2
   obtain ⟨a1,a2⟩:=bD e2;have re:Instr.sameNow d (l5 t cs) e.key=some (F5 t x x'):=by
    rw [e1];rcases MapKept.findNow_spec kZ [⟨l5 t c1,e.val,0⟩] 0 (by intro q hq; simp at hq; subst hq; exact a1) with ⟨b1,b2⟩|⟨j,e9,b1,b2,b3⟩
    ·have bt:=b2 _ (aBg.2 rfl)
     have:Instr.sameNow d (l5 t cs) (l5 t c1)=some false:=by
      simp only [Instr.findNow] at b1;cases hs:Instr.sameNow d (l5 t cs) (l5 t c1) with
      | none=>rw [hs] at b1; cases b1
      | some b=>cases b with
       | true=>rw [hs] at b1; cases b1
       | false=>rfl
     rw [this];cases hb:F5 t x x' with
     | false=>rfl
     | true=>exact absurd (by rw [Sx hk h1 e2 hb]) bt
    ·have:j=0:=by
      cases j with
      | zero=>rfl
      | succ j=>simp at b2
     subst this;simp only [aFk,aAc] at b2;subst b2;have b3:l5 t c1=l5 t cs:=b3;rw [a2 b3];simp only [Instr.findNow] at b1;cases hs:Instr.sameNow d (l5 t cs) (l5 t c1) with
     | none=>rw [hs] at b1; cases b1
     | some b=>cases b with
      | true=>rfl
      | false=>rw [hs] at b1; cases b1
   cases hb:F5 t x x' with
   | true =>
    refine ⟨some (i,e.val),?_,?_⟩
    ·simp only [Instr.findNow,re,hb]
    ·simp only [Instr.findAsking,Sem.run_bind,hr,hb,Result.andThen_ok,if_true,Sem.run_pure]
   | false =>
    obtain ⟨r,r1,r2⟩:=ih (i+1) e5;refine ⟨r,?_,?_⟩
    ·simp only [Instr.findNow,re,hb]; exact r1
    ·simp only [Instr.findAsking,Sem.run_bind,hr,hb,Result.andThen_ok,aCk,if_false]; exact r2
 have pS:∀ {es:List MapEntry} {l:List (t.den×u.den)},S3 (g9 H' S' t []) (g9 H' S' u []) t u es l->(Instr.findKey K (l5 t cs) es).run E.P w=(Instr.findAsking K (l5 t cs) es 0).run E.P w:=by
  intro es l hr;have simple:∀ d:TypeDesc,E.P.underlying K=some d->MapKept.IsKey d (l5 t cs)->(∀ {cs':List Value} {x':t.den},g9 H' S' t [] cs' x'->MapKept.IsKey d (l5 t cs')/\(l5 t cs'=l5 t cs->F5 t x x'=true))->(Instr.findKey K (l5 t cs) es).run E.P w=(Instr.findAsking K (l5 t cs) es 0).run E.P w:=by
   intro d hd h2 h3;obtain ⟨r,r1,r2⟩:=pC d hd h2 h3 0 hr;rw [r2];exact MapKept.run_findKey hd r1
  unfold Ty.key at hk;split at hk
  ·rename_i k
   obtain ⟨_,rfl,_⟩:=h1;refine simple _ (xw hT) rfl (λ hx=>?_);obtain ⟨_,rfl,_⟩:=hx;refine ⟨rfl,λ h=>?_⟩;simp only [l5,Ty.agg,aCk,if_false,aFr,Value.int.injEq,true_and] at h;exact decide_eq_true h.symm
  ·obtain ⟨_,rfl⟩:=h1
   refine simple _ (AI hT) trivial (λ hx=>?_);obtain ⟨_,rfl⟩:=hx;refine ⟨trivial,λ h=>?_⟩;simp only [l5,Ty.agg,aCk,if_false,aFr,Value.bool.injEq] at h;rw [h]; exact beq_self_eq_true _
  ·obtain ⟨_,rfl,_⟩:=h1
   refine simple _ (U9 hT) trivial (λ hx=>?_);obtain ⟨_,rfl,_⟩:=hx;refine ⟨trivial,λ h=>?_⟩;simp only [l5,Ty.agg,aCk,if_false,aFr,Value.string.injEq,ByteArray.mk.injEq] at h;exact decide_eq_true (List.toArray_inj h).symm
  ·obtain ⟨e,k',g1,_,g3⟩:=Y0 hT
   exact run_findKey_eq w (by simp [g1]) _ _
  ·cases hk
 intro es l i hr;obtain ⟨r,r1,r2⟩:=qy i hr;refine ⟨r,r1,λ hi=>?_,r2⟩;subst hi;rw [pS hr]; exact r1
theorem RR (hE:D3 E B) {T:TypeId} {k v:Ty} (h:DI E T k v=true):∃ K V n,E.P.underlying T=some (.map K V)/\k.key=true/\V9 E.P 100 K k=true/\o8 E.P n K k=true/\o8 E.P n V v=true/\v.shared=true:=by
 unfold DI at h;split at h
 ·rename_i o k' v' bts K V hT hu
  simp only [aAa] at h;obtain ⟨⟨⟨h1,h2⟩,h3⟩,h4⟩:=h;have h1:=of_decide_eq_true h1;have h2:=of_decide_eq_true h2;subst h1 h2;obtain ⟨K',V',n,g1,g2,g3,g4,g5⟩:=EF (r7 hE hT);rw [hu] at g1;cases g1;exact ⟨K,V,n,hu,h3,h4,g4,g5,g3⟩
 ·cases h
theorem NC (h:HS B S ι s.hp w) {v:AV} {val:Value} (hv:VX w.heap S ι s.hp v [val]) {k u:Ty} {m:Option (List (k.den×u.den))} (hm:v.mp s=some ⟨(k,u),m⟩) :
  (m=none/\val=.map none)\/∃ l b es ck,m=some l/\val=.map (some b)/\w.heap[b]?=some (.map es ck)/\S3 (g9 w.heap S k []) (g9 w.heap S u []) k u es.toList l:=by
 have key:∀ {o:Bool} {O:List Nat} {cs:List Value},g9 w.heap S (.map o k u) O cs m->val=l5 (.map o k u) cs->(m=none/\val=.map none)\/∃ l b es ck,m=some l/\val=.map (some b)/\w.heap[b]?=some (.map es ck)/\S3 (g9 w.heap S k []) (g9 w.heap S u []) k u es.toList l:=by
  rintro o O cs (⟨h1,_,rfl⟩|⟨l,b,es,ck,h1,rfl,h3,h4,_⟩) e
  ·exact .inl ⟨h1,by simpa [l5,Ty.agg] using e⟩
  ·exact .inr ⟨l,b,es,ck,h1,by simpa [l5,Ty.agg] using e,h3,h4⟩
 unfold AV.mp at hm;split at hm
 ·cases hm
  obtain ⟨cs,e,hR⟩:=hv;exact key hR (by simpa using e)
 ·rename_i i p
  split at hm
  ·rename_i o k' v' m' cQ
   cases hm;obtain ⟨e,u',y,cs,k1,k2,k3,k4,k5⟩:=hv;have hg:=I3 k1 cQ;rw [k3] at hg; cases hg;obtain ⟨O2,m1,m2,m3⟩:=H5 h k1 k2 k3 k4;exact key m3 (by simpa using k5)
  ·cases hm
 ·cases hm
theorem b42 (hE:D3 E B) (h:RS B S ι s a w) {o:Oper} {T:TypeId} {x y:Operand} {ok:Bool} (ho:o.op=.lookup T x y ok):F1 E.P B o a w (zo E T (s.ev x) (s.ev y) ok s):=by
 have he:execOp a.eval o=(do pure (.value (<- Instr.lookup T (a.eval x) (a.eval y) ok))):=by simp [execOp,ho]
 unfold zo
 split
 ·rename_i k u m t z hm hy
  split
  ·rename_i ht
   subst ht;obtain ⟨cs,e,hR⟩:=C3 h hy;have e:a.eval y=l5 t cs:=by simpa using e
   split
   ·rename_i mO
    obtain ⟨K,V,n,g1,g2,g3,g4,g5,g6⟩:=RR hE mO;have ji:(zeroValue V).run E.P w=.ok (l5 u (zc u)) w:=AD g5;have core:∃ val,(Instr.lookup T (a.eval x) (a.eval y) true).run E.P w=.ok (.tuple #[val,.bool (V7 (F5 t) z (m.getD [])).isSome]) w/\(Instr.lookup T (a.eval x) (a.eval y) false).run E.P w=.ok val w /\
      VX w.heap S ι s.hp (.val u ((V7 (F5 t) z (m.getD [])).getD u.s4)) [val]:=by
     rcases NC h.hs (h.ev x) hm with ⟨rfl,ex⟩|⟨l,b,es,ck,rfl,ex,h3,h4⟩
     ·refine ⟨l5 u (zc u),?_,?_,⟨zc u,rfl,g9.s4 u⟩⟩
      ·rw [ex,e]
       have hc:=ET (w:=w) g2 g4 hR true;obtain ⟨r,_,r2,r3⟩:=EM (w:=w) (u:=u) (es:=[]) (l:=[]) (H':=w.heap) (S':=S) g2 g4 g3 hR 0 rfl;have hr:r=none:=by rcases r3 with r3|⟨j,y,e0,ds,_,_,q,_⟩; exact r3.2; simp at q
       subst hr;simp [Instr.lookup,p9 g1,hc,r2 rfl,ji,Result.andThen,V7,posOf]
      ·rw [ex,e]
       have hc:=ET (w:=w) g2 g4 hR true;obtain ⟨r,_,r2,r3⟩:=EM (w:=w) (u:=u) (es:=[]) (l:=[]) (H':=w.heap) (S':=S) g2 g4 g3 hR 0 rfl;have hr:r=none:=by rcases r3 with r3|⟨j,y,e0,ds,_,_,q,_⟩; exact r3.2; simp at q
       subst hr;simp [Instr.lookup,p9 g1,hc,r2 rfl,ji,Result.andThen]
     ·have hc:=λ em=>ET (w:=w) g2 g4 hR em
      obtain ⟨r,_,r2,r3⟩:=EM (w:=w) g2 g4 g3 hR 0 h4;have r2:=r2 rfl;have jD:=MapKept.run_getObj_map (P:=E.P) h3;rcases r3 with ⟨p1,rfl⟩|⟨j,y',e0,ds,p1,rfl,p3,p4,p5,p6⟩
      ·refine ⟨l5 u (zc u),?_,?_,⟨zc u,rfl,?_⟩⟩
       ·rw [ex,e]; simp [Instr.lookup,p9 g1,jD,hc,r2,ji,Result.andThen,V7,p1]
       ·rw [ex,e]; simp [Instr.lookup,p9 g1,jD,hc,r2,ji,Result.andThen]
       ·simp only [V7,aGh,p1,aCr,Option.getD_none]; exact g9.s4 u
      ·refine ⟨e0.val,?_,?_,⟨ds,by rw [p5],?_⟩⟩
       ·rw [ex,e]; simp [Instr.lookup,p9 g1,jD,hc,r2,Result.andThen,V7,p1]
       ·rw [ex,e]; simp [Instr.lookup,p9 g1,jD,hc,r2,Result.andThen]
       ·simp only [V7,aGh,p1,aBe]; exact p6
    obtain ⟨val,c1,c2,c3⟩:=core
    split
    ·refine y7.value (val:=.tuple #[val,.bool (V7 (F5 t) z (m.getD [])).isSome]) ?_ h ⟨[val,.bool (V7 (F5 t) z (m.getD [])).isSome],rfl,⟨_,_,rfl,c3,_,_,rfl,⟨[_],rfl,rfl,rfl⟩,rfl⟩⟩
     rw [he];simp only [Sem.run_bind,Sem.run_pure];rw [c1]; rfl
    ·refine y7.value (val:=val) ?_ h c3
     rw [he];simp only [Sem.run_bind,Sem.run_pure];rw [c2]; rfl
   ·trivial
  ·trivial
 ·trivial
theorem b41 (_hE:D3 E B) (h:RS B S ι s a w) {o:Oper} {T:TypeId} {r:Option Operand} (ho:o.op=.makeMap T r):F1 E.P B o a w (m0 E o s):=by
 unfold m0;rw [ho];simp only
 split
 ·rename_i k v bts d hT hd
  refine F1.lay (λ v' s' hl=>?_);have aP:(execOp a.eval o).run E.P w=.ok (.value (.map (some w.heap.size))) (F7 w (.map #[] 0)):=by
   simp [execOp,ho,Instr.makeMap,newObj,Sem.run,F7]
  have dP:=h.w9 (g:=[]) rfl;have hp:D0 [] w (F7 w (.map #[] 0)):=D0.push _;refine y7.lay hl aP (O:=[w.heap.size]) (cs:=[.map (some w.heap.size)]) (by simp [l5,Ty.agg]) (.inr ⟨[],w.heap.size,#[],0,rfl,rfl,Cl,rfl,rfl⟩) (dP.vn F2.nil hp) (F2.new dP F2.nil hp (by simp [F7]) (by simp) (by simp))
 ·trivial
theorem b5f (hE:D3 E B) (h:RS B S ι s a w) {o:Oper} {c:Call} (ho:o.op=.call c) (hc:c.callee=.builtin .append) {x y:Operand} {T U:TypeId} (ha:c.args.toList=[x,y]) (fb:c.argTypes.toList=[T,U])
  {kd:IntKind} (hU:E.P.underlying U=some (.int kd)):F1 E.P B o a w (Au E T (s.ev x) (s.ev y) o.dst s):=by
 unfold Au
 split
 ·rename_i t0 bts d k n hT hd hx hy
  refine F1.Jl (λ v s' hl hp=>?_);have da:@LE.le Int Int.instLEInt 0 n:=hp.1;obtain ⟨N,rfl⟩:∃ N:Nat,n=((N:Nat):Int):=⟨Int.toNat n,(aEa da).symm⟩;have cF:N<=140737488355328:=by have:@LE.le Int Int.instLEInt (N:Int) 140737488355328:=hp.2.1; omega
  have gS:N*t0.wb<=140737488355328:=by
   have:@LE.le Int Int.instLEInt ((N:Int)*(t0.wb:Nat)) 140737488355328:=hp.2.2;rw [<- Int.natCast_mul] at this;omega
  obtain ⟨et,k2,h1,h2,h3⟩:=G5 (r7 hE hT);obtain ⟨i,hi,eB,kX⟩:=X5 h3;have lT:=KY h3 hi;have eg:a.eval x=.slice none 0 0:=by simpa using (show [a.eval x]=[Value.slice none 0 0] from C3 h hx)
  obtain ⟨dF,_⟩:=VX.I4 (C3 h hy);have aH:c.args=#[x,y]:=by rw [<- ha]
  have eC:c.argTypes=#[T,U]:=by rw [<- fb]
  have dP:=h.w9 (g:=[]) rfl;have e0:List.replicate (Int.toNat (N:Int)) t0.s4=List.replicate N t0.s4:=rfl;by_cases h0:N=0
  ·subst h0
   have aP:(execOp a.eval o).run E.P w=.ok (.value (.slice none 0 0)) w:=by
    have:IntKind.i64.wrap 0=0:=rfl;simp [execOp,ho,resolve,hc,invoke,builtin,aH,eC,Builtin.append_,p9 h1,p9 hU,eg,dF,run_sizeOf h3,asInt,asIntOf,this,typeInfo,hi,Result.andThen]
   exact y7.lay hl aP (O:=[]) (cs:=[.slice none 0 0]) (by simp [l5,Ty.agg]) (.inl ⟨rfl,⟨none,0,rfl,λ _=>rfl⟩,rfl⟩) dP F2.nil
  ·have hr:=Lib.run_append_grow_zeros (P:=E.P) w T U o.type et i (l5 t0 (zc t0)) k kd h1 hU hi kX none 0 0 [] (run_firstCells_none w.drew _ 0 0 0) N (by omega) (by rw [eB]; exact h2) (by omega) (by omega) (by rw [lT]; omega) (by rw [lT]; exact growslice_fits (by omega) (by simpa using gS))
   simp only [aEo] at hr;have kk:=grownCap_ge w N 0 et;have fT:=grownCap_le_maxLen w N 0 et (by unfold maxLen; omega);generalize ld:grownCap w N 0 et=gc at hr kk fT;have jh:(l5 t0 (zc t0)).cells=(zc t0).toArray:=(g9.s4 (H:=w.heap) (S:=S) t0).cells;have cC:(([]:List Value).toArray++Builtin.zeroCells (l5 t0 (zc t0)).cells N++Builtin.zeroCells (l5 t0 (zc t0)).cells (gc - N))=((List.replicate N (zc t0)).flatten++(List.replicate (gc - N) (zc t0)).flatten).toArray:=by
    rw [jh,FL,FL]; simp
   rw [cC] at hr;have jz:((List.replicate N (zc t0)).flatten).length=N*t0.size:=by simp [S4]
   have bj:D0 [] w (w.drew.alloc (.cells ((List.replicate N (zc t0)).flatten++(List.replicate (gc - N) (zc t0)).flatten).toArray et)):=D0.trans D0.drew (D0.push _) (by simp);obtain ⟨O',q1,q2,q3⟩:=EE (w:=w) (t:=t0) (l:=List.replicate N t0.s4) (cap:=gc) h.hs.slt (O:=[]) (cells:=(List.replicate N (zc t0)).flatten++(List.replicate (gc - N) (zc t0)).flatten) (by
    rw [aCg,aDd jz]; exact j5.HD N) (by rw [aCg]; exact kk) fT (by
    simp only [aAe,jz,aHw,List.map_replicate,aHd,S4];rw [<- aBl]; exact aAm _ (by omega)) et (by simp) (w':=w.drew.alloc (.cells ((List.replicate N (zc t0)).flatten++(List.replicate (gc - N) (zc t0)).flatten).toArray et)) rfl (.inl rfl)
   rw [aCg] at q1;have aP:(execOp a.eval o).run E.P w=.ok (.value (.slice (some ⟨w.heap.size,0,none⟩) N gc)) (w.drew.alloc (.cells ((List.replicate N (zc t0)).flatten++(List.replicate (gc - N) (zc t0)).flatten).toArray et)):=by
    simp [execOp,ho,resolve,hc,invoke,builtin,aH,eC,eg,dF,hr]
   have aW:w.heap.size<(w.drew.alloc (.cells ((List.replicate N (zc t0)).flatten++(List.replicate (gc - N) (zc t0)).flatten).toArray et)).heap.size:=by
    show w.heap.size<(w.heap.push _).size;simp
   exact y7.lay hl aP (cs:=[.slice (some ⟨w.heap.size,0,none⟩) N gc]) (by simp [l5,Ty.agg]) q1 (dP.vn F2.nil bj) (F2.new dP F2.nil bj aW q2 (q3 aAw))
 ·trivial
theorem S3.length {α β:Type} {R:List Value->α->Prop} {R':List Value->β->Prop} {t u:Ty}:∀ {es:List MapEntry} {l:List (α×β)},S3 R R' t u es l->es.length=l.length
 | [],l,h=>by rw [show l=[] from h]; rfl
 | _::es,_,⟨x,y,l',cs,ds,rfl,_,_,_,_,h⟩=>by simp [S3.length h]
theorem S3.snoc {α β:Type} {R:List Value->α->Prop} {R':List Value->β->Prop} {t u:Ty} {e:MapEntry} {x:α} {y:β} {cs ds:List Value} (h1:e.key=l5 t cs) (h2:R cs x) (h3:e.val=l5 u ds) (h4:R' ds y) :
  ∀ {es:List MapEntry} {l:List (α×β)},S3 R R' t u es l->S3 R R' t u (es++[e]) (l++[(x,y)])
 | [],l,h=>by rw [show l=[] from h]; exact ⟨x,y,[],cs,ds,rfl,h1,h2,h3,h4,rfl⟩
 | _::es,_,⟨x',y',l',c,d,rfl,g1,g2,g3,g4,h⟩=>⟨x',y',l'++[(x,y)],c,d,rfl,g1,g2,g3,g4,S3.snoc h1 h2 h3 h4 h⟩
theorem S3.set {α β:Type} {R:List Value->α->Prop} {R':List Value->β->Prop} {t u:Ty} {e:MapEntry} {x:α} {y:β} {cs ds:List Value} (h1:e.key=l5 t cs) (h2:R cs x) (h3:e.val=l5 u ds) (h4:R' ds y) :
  ∀ {es:List MapEntry} {l:List (α×β)} {i:Nat},i<es.length->S3 R R' t u es l->S3 R R' t u (es.set i e) (l.set i (x,y))
 | [],_,_,hi,_=>by simp at hi
 | _::es,_,0,_,⟨x',y',l',c,d,rfl,g1,g2,g3,g4,h⟩=>⟨x,y,l',cs,ds,rfl,h1,h2,h3,h4,h⟩
 | _::es,_,i+1,hi,⟨x',y',l',c,d,rfl,g1,g2,g3,g4,h⟩=>⟨x',y',l'.set i (x,y),c,d,rfl,g1,g2,g3,g4,S3.set h1 h2 h3 h4 (by simpa using hi) h⟩
theorem c0J (hE:D3 E B) (h:RS B S ι s a w) {o:Oper} {T:TypeId} {m x y:Operand} (ho:o.op=.mapUpdate T m x y):F1 E.P B o a w (yi E T (s.ev m) (s.ev x) (s.ev y) s):=by
 have he:execOp a.eval o=(do (Instr.mapUpdate T (a.eval m) (a.eval x) (a.eval y)); pure .skip):=by simp [execOp,ho]
 unfold yi
 split
 ·rename_i j t z t' q hm hx hy
  split
  ·rename_i k u l aS
   split
   ·rename_i hu
    subst hu
    split
    ·rename_i nS
     subst nS
     split
     ·rename_i mO
      obtain ⟨K,V,n,g1,g2,g3,g4,g5,g6⟩:=RR hE mO;obtain ⟨cs,ex,hR⟩:=C3 h hx;have ex:a.eval x=l5 t cs:=by simpa using ex
      obtain ⟨ds,ey,hQ⟩:=C3 h hy;have ey:a.eval y=l5 t' ds:=by simpa using ey
      obtain ⟨e,u0,y0,cs0,k1,k2,k3,k4,k5⟩:=C3 h hm;obtain rfl:=wG k1 aS;rw [C1] at k3; cases k3;obtain ⟨⟨O0,p0,hO⟩,aJ⟩:=h.hs.ob j _ k1;have hcs:=U4 k4 hO.length;rcases hO with ⟨h0,_⟩|⟨l0,b,es,ck,h0,ep,h3,h4,rfl⟩
      ·cases h0
      cases h0;have k5:a.eval m=.map (some b):=by
       have:a.eval m=l5 (i6.own (Ty.map true t t') (some l)).ty cs0:=by simpa using k5
       rw [this,hcs,ep]; rfl
      have hb:b∈ι.own j:=p0.mem_iff.1 (by simp);have bO:b<w.heap.size:=(aAo.1 h3).1;have hc:=ET (w:=w) g2 g4 hR false;obtain ⟨r,_,r2,r3⟩:=EM (w:=w) g2 g4 g3 hR 0 h4;have r2:=r2 rfl;have jD:=MapKept.run_getObj_map (P:=E.P) h3;have core:∃ es' ck',(execOp a.eval o).run E.P w=.ok .skip { w with heap:=w.heap.setIfInBounds b (.map es' ck') }/\S3 (g9 w.heap S t []) (g9 w.heap S t' []) t t' es'.toList (vD (F5 t) (I8 rfl z) (I8 rfl q) l):=by
       have rb:=λ o=>MapKept.run_setObj_map (P:=E.P) o h3;rcases r3 with ⟨p1,rfl⟩|⟨i,y',e0,ds0,p1,rfl,p3,p4,p5,p6⟩
       ·refine ⟨es.push { key:=l5 t cs,val:=l5 t' ds,born:=ck },ck+1,?_,?_⟩
        ·rw [he,k5,ex,ey]
         simp [Instr.mapUpdate,p9 g1,jD,hc,r2,rb,Result.andThen]
        ·have:vD (F5 t) (I8 rfl z) (I8 rfl q) l=l++[(z,q)]:=by simp only [vD,I8]; rw [p1]
         rw [this,Array.toList_push];exact S3.snoc rfl hR rfl hQ h4
       ·have hi:i<es.toList.length:=(aDj.1 p3).1
        have pn:es[i]?=some e0:=by simpa using p3
        refine ⟨es.modify i λ e=>{ e with key:=l5 t cs,val:=l5 t' ds },ck,?_,?_⟩
        ·rw [he,k5,ex,ey]
         have lS:=Zp (w:=w) (P:=E.P) g2 hR;simp [Instr.mapUpdate,p9 g1,jD,hc,r2,rb,pn,p4,lS,Result.andThen]
        ·have:vD (F5 t) (I8 rfl z) (I8 rfl q) l=l.set i (z,q):=by simp only [vD,I8]; rw [p1]; simp
         rw [this];have gZ:(es.modify i λ e=>{ e with key:=l5 t cs,val:=l5 t' ds }).toList=es.toList.set i { e0 with key:=l5 t cs,val:=l5 t' ds }:=by
          apply aDu;intro n;simp only [aHm,aEq,aEk];by_cases hn:i=n
          ·subst hn
           have cN:i<es.size:=by simpa using hi
           have tF:es[i]=e0:=by rw [aBy cN] at pn; exact aEv pn
           simp [cN,tF]
          ·simp [hn]
         rw [gZ];exact S3.set rfl hR rfl hQ hi h4
      obtain ⟨es',ck',c1,c2⟩:=core;have bj:D0 [b] w { w with heap:=w.heap.setIfInBounds b (.map es' ck') }:=by
       refine ⟨rfl,.of rfl rfl,rfl,by simp,λ c hc hn=>?_⟩;simp only [aAp,aDq,or_false] at hn;show (w.heap.setIfInBounds b _)[c]?=_;rw [aEn (Ne.symm hn)]
      have im:¬ S b:=(h.hs.bl j _ k1 b (G6 hb)).1;have jQ:∀ c,c∈([]:List Nat)\/S c->(w.heap.setIfInBounds b (.map es' ck'))[c]?=w.heap[c]?:=by
       intro c hc;rcases hc with hc|hc
       ·cases hc
       ·rw [aEn (by rintro rfl; exact im hc)]
      have pa:=h.renew k1 (.inr (.inr ⟨true,t,t',some l,some (vD (F5 t) (I8 rfl z) (I8 rfl q) l),rfl,rfl⟩)) F2.nil (L:=[b]) bj (λ c hc=>.inl (by simp only [aAp,aDq,or_false] at hc; subst hc; exact G6 hb)) (λ _ h=>h) (λ _ h=>.inl h) (O':=[b])
       ⟨⟨[b],by simp [Ix.C6],by
        refine .inr ⟨_,b,es',ck',rfl,by simpa [Ix.C6] using ep,?_,c2.mono (λ _ _ h=>h.u5 jQ (λ _ h=>h)) (λ _ _ h=>h.u5 jQ (λ _ h=>h)),rfl⟩;show (w.heap.setIfInBounds b _)[b]?=_;rw [Array.getElem?_setIfInBounds_self_of_lt bO]⟩,by simp [Ix.C6]⟩
       (λ c hc=>by
        have:c=b:=by simpa [l7,Ix.C6] using hc
        subst this;exact ⟨im,.inr (by simp),by simpa using bO⟩)
      intro next Q hn
      unfold Oper.wp;rw [c1];exact hn S _ _ undef pa rfl
     ·trivial
    ·trivial
   ·trivial
  ·trivial
 ·trivial
end
end Go.Ex
namespace Go.Ex
section
variable {E:Env} {B:E6} {S S':Nat->Prop} {ι:Ix} {s:St} {a:Act} {w:World} {hp:List (Nat×i6)} {H H':Array Go.Obj}
theorem OT:∀ {n:Nat} {l v:AV} {us:List Value},m0.nth n l=some v->VX H S ι hp l us->∃ u,us[n]?=some u/\VX H S ι hp v [u]
 | 0,l,v,us,h,hl=>by
  cases l<;>simp only [m0.nth] at h<;>first|cases h|skip
  obtain ⟨u,us',rfl,ha,hb⟩:=hl;exact ⟨u,rfl,ha⟩
 | n+1,l,v,us,h,hl=>by
  cases l<;>simp only [m0.nth] at h<;>first|cases h|skip
  obtain ⟨u,us',rfl,ha,hb⟩:=hl;obtain ⟨u2,e,h2⟩:=OT h hb;exact ⟨u2,by simpa using e,h2⟩
theorem UG (h:RS B S ι s a w) {o:Oper} {c:Call} (ho:o.op=.call c) {P:Program} {x:Operand} {l:List Operand} (ha:c.args.toList=x::l) {k:IntKind} {m:Int} (hx:s.ev x=.val (.int k) m) :
  (c.callee=.builtin .max->F1 P B o a w (foldI s k (λ a b=>if a<b then b else a) m l))/\(c.callee=.builtin .min->F1 P B o a w (foldI s k (λ a b=>if b<a then b else a) m l)):=by
 obtain ⟨ga,bx⟩:=VX.I4 (C3 h hx);have aH:c.args.map a.eval=(a.eval x::l.map a.eval).toArray:=by
  apply aGw;simp [ha]
 constructor
 ·intro hc
  cases hl:foldI s k (λ a b=>if a<b then b else a) m l with
  | fail y=>trivial
  | F8 p v s'=>exact absurd hl KF
  | ok v s' =>
   obtain ⟨n,rfl,rfl,hn,aP⟩:=Lg (P:=P) (w:=w) h (m2:=Builtin.max2) (by intro x y hx hy; split<;>assumption) (by intro x y; simp [Builtin.max2]) bx hl;refine y7.value (val:=.int k n) ?_ h (VX.int hn);simp [execOp,ho,resolve,hc,invoke,builtin,aH,ga,Builtin.max_,aP]
 ·intro hc
  cases hl:foldI s k (λ a b=>if b<a then b else a) m l with
  | fail y=>trivial
  | F8 p v s'=>exact absurd hl KF
  | ok v s' =>
   obtain ⟨n,rfl,rfl,hn,aP⟩:=Lg (P:=P) (w:=w) h (m2:=Builtin.min2) (by intro x y hx hy; split<;>assumption) (by intro x y; simp [Builtin.min2]) bx hl;refine y7.value (val:=.int k n) ?_ h (VX.int hn);simp [execOp,ho,resolve,hc,invoke,builtin,aH,ga,Builtin.min_,aP]
theorem Qg {i:Nat} {p:List Step} {lo:Nat} {t:Ty} {m:List t.den} {s':St} (hf:vZ s i p lo t m=some s'):t.shared=true:=by
 unfold vZ at hf;split at hf
 ·split at hf
  ·split at hf
   ·split at hf
    ·split at hf
     ·rename_i hc
      simp only [aAa] at hc;exact hc.1
     ·cases hf
    ·cases hf
   ·cases hf
  ·cases hf
 ·cases hf
theorem TW {T:TypeId} {x y:AV} {p:Prop} {v:AV} {s':St} (hI:xf E T x y s=.F8 p v s'):∃ i lo hi q t0 bts t m l,x=.sub i [] lo hi/\look T E.tt=some ⟨.d0 q t0,bts⟩/\y.vw s t0=some (⟨t,m⟩,[])/\s.obj i=some (.own (.d0 true t) l) /\
  vZ s i [] hi.toNat t m=some s'/\I6 E T (.d0 true t)=true/\p=(hi+(List.length m:Int)<=(List.length l:Int))/\v=.sub i [] lo (hi+(List.length m:Int)):=by
 unfold xf at hI;split at hI
 ·rename_i i lo hi q t0 bts hT
  split at hI
  ·rename_i t m u l cp aS
   split at hI
   ·rename_i s1 hf bH hd
    cases hI;obtain rfl:=of_decide_eq_true hd;exact ⟨i,lo,hi,q,t0,bts,t,m,l,rfl,hT,cp,aS,hf,bH,rfl,rfl⟩
   ·cases hI
  ·cases hI
 ·cases hI
theorem b89 {T:TypeId} {x y:AV} {r:Prop×AV×St} (hI:(xf E T x y s).get=some r):xf E T x y s=.F8 r.1 r.2.1 r.2.2:=by
 unfold xf at hI ⊢
 repeat' split at hI
 all_goals first|(cases hI; done)|(cases hI; rfl)
theorem ZG {i:Nat} {lo:Nat} {t:Ty} {m l:List t.den} {s':St} (aS:s.obj i=some (.own (.d0 true t) l)) (hf:vZ s i [] lo t m=some s'):s'=(s.X3 i true).w8 i (.own (.d0 true t) (List.take lo l++m++List.drop (lo+m.length) l)):=by
 unfold vZ at hf;rw [aS] at hf;simp only [i6.ty,i6.x,C1] at hf;rw [dif_pos trivial] at hf;simp only [u6,if_true] at hf;split at hf
 ·cases hf; rfl
 ·cases hf
theorem b5g (hE:D3 E B) (h:RS B S ι s a w) {o:Oper} {c:Call} (ho:o.op=.call c) (hc:c.callee=.builtin .append) {x y:Operand} {T U:TypeId} (ha:c.args.toList=[x,y]) (fb:c.argTypes.toList=[T,U])
  (hk:(∃ e',E.P.underlying U=some (.slice e'))\/E.P.underlying U=some .string):F1 E.P B o a w (xf E T (s.ev x) (s.ev y) s):=by
 cases hI:xf E T (s.ev x) (s.ev y) s with
 | fail why=>trivial
 | ok v s' =>
  exfalso;unfold xf at hI
  repeat' split at hI
  all_goals cases hI
 | F8 p v s' =>
  intro hp;obtain ⟨i,lo,hi,q,t0,bts,t,m,l,hx,hT,cp,aS,hf,bH,rfl,rfl⟩:=TW hI;obtain ⟨Og,news,eI,hN,_,lX⟩:=JA (P:=E.P) h hk cp (h.ev y);have cg:=Qg hf;have qL:Og=[]:=j5.O7 (λ _ _ _ hr=>g9.O7 cg hr) hN;subst qL;have jt:look i s.hp=some (.own (.d0 true t) l):=aS;obtain ⟨e,v',h1,h2,h3,h4,h5,h6⟩:=C3 h hx;rw [jt] at h1; cases h1;have fK:a.eval x=v':=by simpa using h3
  rcases h6 with ⟨t1,l1,a0,cap,k1,k2,k3,c0,A,k4,kA,k5,k6⟩|⟨n,t1,l1,b,off,k1,_,k3,_⟩
  rotate_left
  ·exfalso
   simp only [Loc,Place,y9,VR] at k3;simp at k3
  have k1':j9 (.d0 true t) l []=some ⟨.d0 true t1,l1⟩:=k1;rw [C1] at k1'; cases k1';have cO:l.length<=cap:=by
   obtain ⟨O2,_,_,m3⟩:=H5 h.hs jt h2 k1 k3;rcases m3 with ⟨_,_,hl⟩|⟨b2,o2,cap2,O',c1,c2,_⟩
   ·rw [hl]; exact aAz _
   ·simp only [aBa,Value.slice.injEq,and_true] at c1
    rw [c1.2.2]; exact c2
  have hp:hi+(m.length:Int)<=(l.length:Int):=hp;have dX:VX w.heap S ι s.hp (.sub i [] hi (hi+(m.length:Int))) [.slice (a0.map (·.add (hi.toNat*t.size))) m.length (cap - hi.toNat)] :=
   ⟨_,_,jt,h2,rfl,by omega,by omega,.inl ⟨t,l,a0,cap,k1,hp,k3,cap - hi.toNat,_,by rw [show (hi+(m.length:Int) - hi).toNat=m.length by omega],λ _=>rfl,by omega,by omega⟩⟩
  have dP:(AV.sub i [] hi (hi+(m.length:Int))).wC s=some (i,[],hi,hi+(m.length:Int)):=by
   simp only [AV.wC,St.part,aS,i6.ty,i6.x,C1]
  obtain ⟨w',ι',A',c',e1,cn,bQ⟩:=LA (P:=E.P) h dX dP (by omega) hN hf;simp only [Value.slice.injEq] at e1;obtain ⟨e1,_,_⟩:=e1;obtain ⟨et,k',g1,g2,g3⟩:=G5 (D6 hE bH);obtain ⟨inf,nb,eB,kX⟩:=X5 g3;have aH:c.args=#[x,y]:=by rw [<- ha]
  have eC:c.argTypes=#[T,U]:=by rw [<- fb]
  have cr:(hi - lo).toNat+m.length<=c0:=by omega
  have aP:(Builtin.append_ #[T,U] o.type #[a.eval x,a.eval y]).run E.P w=.ok (.slice A ((hi - lo).toNat+m.length) c0) w':=by
   rw [fK,k4];rw [<- eB] at eI;by_cases ie:m=[]
   ·subst ie
    have da:news=[]:=hN.2;subst da;have rV:w'=w:=by
     rcases bQ with ⟨_,_,rfl⟩|⟨A1,_,bQ⟩
     ·rfl
     ·simpa [storeCells] using bQ.symm
    subst rV;have iY:=eI.len;have ep:=eI.cells;simp only [aCh,aDt] at iY ep cr;rcases eI.kind with ⟨e',eW⟩|eW<;>cases A<;>simp [Builtin.append_,run_underlying g1,run_underlying eW,sizeOf,typeInfo,nb,iY,ep,storeCells,cr]
   ·have ic:1<=m.length:=aCd.2 ie
    rcases bQ with ⟨_,jy,_⟩|⟨A1,ur,bQ⟩
    ·exact absurd jy ie
    subst ur;obtain ⟨O2,_,_,m3⟩:=H5 h.hs jt h2 k1 k3;rcases m3 with ⟨_,_,hl⟩|⟨b2,o2,cap2,O',c1,c2,_⟩
    ·have hl:l=[]:=hl
     rw [hl] at hp; simp at hp; omega
    ·simp only [aBa,Value.slice.injEq,and_true,true_and] at c1
     obtain ⟨rfl,rfl⟩:=c1;have hA:=kA (by omega);subst hA;simp only [aBe,aAc] at e1;subst e1;have gI:((⟨b2,o2,none⟩:Addr).add (lo.toNat*t.size)).add ((hi - lo).toNat*t.size)=(⟨b2,o2,none⟩:Addr).add (hi.toNat*t.size):=by
      rw [Addr.I1,Addr.I1,Addr.I1,aBk,<- aBl,show lo.toNat+(hi - lo).toNat=hi.toNat by omega]
     rw [<- gI] at bQ;simp only [aBe];generalize uZ:((⟨b2,o2,none⟩:Addr).add (lo.toNat*t.size))=AA at bQ ⊢;rw [<- eB] at bQ;rcases eI.kind with ⟨e',eW⟩|eW<;>simp [Builtin.append_,run_underlying g1,run_underlying eW,sizeOf,typeInfo,nb,eI.len,cr,eI.cells,bQ]
  have fP:(execOp a.eval o).run E.P w=.ok (.value (.slice A ((hi - lo).toNat+m.length) c0)) w':=by
   simp [execOp,ho,resolve,hc,invoke,builtin,aH,eC,aP]
  intro next Q jW
  unfold Oper.wp;rw [fP];refine jW S ι' w' _ cn ?_;have lI:=ZG aS hf;have mg:s'.ev x=.sub i [] lo hi:=by
   cases x with
   | tmp n =>
    have rl:Nat.beq n J4=false:=by
     cases hb:Nat.beq n J4 with
     | true=>simp [St.ev,hb] at hx
     | false=>rfl
    have nP:(look n s.fr).getD .any=.sub i [] lo hi:=by
     have h9:=hx;simp only [St.ev,rl] at h9;exact h9
    show (match Nat.beq n J4 with|true=>AV.any|false=>s'.get n)=_;rw [rl];show (look n s'.fr).getD .any=_;rw [lI];show (look n (mapA (AV.map (AV.xQ i true)) s.fr)).getD .any=_;rw [P9];cases rq:look n s.fr with
    | none=>rw [rq] at nP; cases nP
    | some u9 =>
     rw [rq] at nP;have:u9=.sub i [] lo hi:=nP;subst this;simp [AV.map,AV.xQ,AV.i8]
   | const v9=>exact absurd hx (by
     simp only [St.ev];intro h9;unfold ofConst at h9
     repeat' split at h9
     all_goals cases h9)
   | global g=>cases hx
   | func f=>cases hx
  have qX:=cn.ev x;rw [mg,fK,k4] at qX;obtain ⟨e9,v9,r1,r2,r3,r4,r5,r6⟩:=qX;have mF:look i s'.hp=some (.own (.d0 true t) (List.take hi.toNat l++m++List.drop (hi.toNat+m.length) l)):=by
   rw [lI];show look i (Ex.put i _ _)=_;rw [o7,if_pos rfl]
  rw [mF] at r1; cases r1;have mR:(List.take hi.toNat l++m++List.drop (hi.toNat+m.length) l).length=l.length:=by
   simp only [aAe,aAk,aAq]; omega
  rcases r6 with ⟨t2,l2,a2,cap2,q1,q2,q3,c2,A2,q4,qA,q5,q6⟩|⟨n,t2,l2,b,off,q1,_,q3,_⟩
  ·have q1':j9 (.d0 true t) (List.take hi.toNat l++m++List.drop (hi.toNat+m.length) l) []=some ⟨.d0 true t2,l2⟩:=q1
   rw [C1] at q1'; cases q1';have r3':Value.slice A (hi - lo).toNat c0=v9:=by simpa using r3
   rw [q4] at r3';simp only [Value.slice.injEq,true_and] at r3';obtain ⟨rfl,rfl⟩:=r3';exact ⟨_,_,mF,r2,rfl,r4,by omega,.inl ⟨t,_,a2,cap2,q1,by rw [mR]; exact hp,q3,c0,A,by rw [show (hi+(m.length:Int) - lo).toNat=(hi - lo).toNat+m.length by omega],qA,by omega,q6⟩⟩
  ·exfalso
   simp only [Loc,Place,y9,VR] at q3;simp at q3
theorem c1Q (hE:D3 E B) (h:RS B S ι s a w) {o:Oper} {c:Call} (ho:o.op=.call c) (hc:c.callee=.builtin .copy) {x y:Operand} {T U:TypeId} (ha:c.args.toList=[x,y]) (hT:c.argTypes.toList=[T,U]):F1 E.P B o a w (a80 E T (s.ev x) (s.ev y) s):=by
 unfold a80
 split
 ·rename_i i p lo hi t m hd fq
  split
  ·rename_i s' hf bH
   obtain ⟨et,k',g1,_,g3⟩:=G5 (D6 hE bH);obtain ⟨A2,c2,ey,hA⟩:=Ek h.hs (h.ev y) fq;have hlen:=Jd h.hs (h.ev y) fq;have aH:c.args=#[x,y]:=by rw [<- ha]
   have eC:c.argTypes=#[T,U]:=by rw [<- hT]
   have cg:t.shared=true:=Qg hf;obtain ⟨e,t9,l9,A9,cap9,c9,A8,z1,z2,z3,z4,z5,z6,z7,z8,z9,UP⟩:=Jc h (h.ev x) hd;have eI:∃ news,(Builtin.firstCells t.size (List.take (hi - lo).toNat m).length (a.eval y)).run E.P w=.ok news.toArray w/\j5 (g9 w.heap S t) t.size [] news (List.take (hi - lo).toNat m):=by
    rw [ey];rcases hA with rfl|⟨b,off,O',rfl,k1,k2,k3,k4⟩
    ·refine ⟨[],?_,by rw [aGx]; exact ⟨rfl,rfl⟩⟩
     rw [aGx];cases A2 with
     | none=>exact run_firstCells_none w t.size 0 0 c2
     | some A=>exact run_firstCells_some w t.size 0 A 0 c2 [] (by simp) (by simp)
    ·have hr:=c3I cg k3 (k:=(List.take (hi - lo).toNat m).length)
     have e9:List.take (List.take (hi - lo).toNat m).length m=List.take (hi - lo).toNat m:=by
      rw [aAk];rcases Nat.le_total (hi - lo).toNat m.length with h9|h9
      ·rw [aCc h9]
      ·rw [Nat.min_eq_right h9,aDo,aAu h9]
     rw [e9] at hr;refine ⟨_,run_firstCells_some w t.size _ _ _ c2 _ (j5.length (λ _ _ _ h=>h.length) hr) (λ j u hu=>?_),hr⟩;rw [Addr.I1];refine N3 (n:=List.length m*t.size) ?_;rw [aBn] at hu;split at hu
     ·exact hu
     ·cases hu
   obtain ⟨news,fj,lQ⟩:=eI;have ic:((List.take (hi - lo).toNat m).length:Int)<=hi - lo:=by rw [aAk]; omega
   obtain ⟨w',ι',A',c',e1,cn,bQ⟩:=LA (P:=E.P) h (h.ev x) hd ic lQ hf;have mM:Nat.min m.length (hi - lo).toNat=(List.take (hi - lo).toNat m).length:=by rw [aAk,Nat.min_comm]
   have aP:(Builtin.copy_ #[T,U] o.type #[a.eval x,a.eval y]).run E.P w=.ok (.int .i64 ((List.take (hi - lo).toNat m).length:Int)) w':=by
    have kR:=fj;rw [ey,aAk] at kR;rw [e1,ey];rcases bQ with ⟨rfl,_,rfl⟩|⟨A,rfl,bQ⟩
    ·simp only [Builtin.copy_]
     simp [p9 g1,Builtin.lenOf,mM,run_sizeOf g3,kR,goInt]
    ·simp [Builtin.copy_,p9 g1,Builtin.lenOf,mM,run_sizeOf g3,kR,bQ,goInt]
   have fP:(execOp a.eval o).run E.P w=.ok (.value (.int .i64 ((List.take (hi - lo).toNat m).length:Int))) w':=by
    simp [execOp,ho,resolve,hc,invoke,builtin,aH,eC,aP]
   intro next Q jW
   unfold Oper.wp;rw [fP];refine jW S ι' w' _ cn (VX.int ?_);have:(List.take (hi - lo).toNat m).length<=m.length:=by rw [aAk]; omega
   unfold maxLen at hlen;unfold r9;simp only [IntKind.min,IntKind.max,IntKind.signed,IntKind.bits];simp;omega
  ·trivial
 ·trivial
theorem b8R (hE:D3 E B) (h:RS B S ι s a w) {o:Oper} {c:Call} (ho:o.op=.call c) (hc:c.callee=.builtin .clear) {x:Operand} {T:TypeId} (ha:c.args.toList=[x]) (hT:c.argTypes.toList=[T]):F1 E.P B o a w (As E T (s.ev x) s):=by
 unfold As
 split
 ·rename_i i p lo hi q t bts hd tU
  split
  ·rename_i s' hf
   obtain ⟨et,k',g1,_,g3⟩:=G5 (r7 hE tU);have aH:c.args=#[x]:=by rw [<- ha]
   have eC:c.argTypes=#[T]:=by rw [<- hT]
   obtain ⟨e,t9,l9,A9,cap9,c9,A8,z1,z2,z3,z4,z5,z6,z7,z8,z9,UP⟩:=Jc h (h.ev x) hd;have oZ:j5 (g9 w.heap S t) t.size [] (List.replicate (hi - lo).toNat (zc t)).flatten (List.replicate (hi - lo).toNat t.s4):=(g9.s4 (H:=w.heap) (S:=S) (.arr (hi - lo).toNat t)).2;obtain ⟨w',ι',A',c',e1,cn,bQ⟩:=LA (P:=E.P) h (h.ev x) hd (by rw [aCg]; omega) oZ hf;have jh:(l5 t (zc t)).cells=(zc t).toArray:=(g9.s4 (H:=w.heap) (S:=S) t).cells;have aP:(Builtin.clear_ #[T] o.type #[a.eval x]).run E.P w=.ok (.tuple #[]) w':=by
    rw [e1];rcases bQ with ⟨rfl,_,rfl⟩|⟨A,rfl,bQ⟩
    ·simp [Builtin.clear_,p9 g1]
    ·by_cases h0:(hi - lo).toNat=0
     ·rw [h0] at bQ ⊢
      simp [storeCells] at bQ;subst bQ;simp [Builtin.clear_,p9 g1]
     ·obtain ⟨n,hn⟩:∃ n,(hi - lo).toNat=n+1:=⟨(hi - lo).toNat - 1,by omega⟩
      rw [hn] at bQ ⊢;simp [Builtin.clear_,p9 g1,AD g3,jh,FL,bQ]
   have fP:(execOp a.eval o).run E.P w=.ok (.value (.tuple #[])) w':=by
    simp [execOp,ho,resolve,hc,invoke,builtin,aH,eC,aP]
   intro next Q jW
   unfold Oper.wp;rw [fP];exact jW S ι' w' _ cn rfl
  ·trivial
 ·trivial
theorem c2o (hE:D3 E B) (h:RS B S ι s a w) {o:Oper} {c:Call} (ho:o.op=.call c):F1 E.P B o a w (m0 E o s):=by
 unfold m0;rw [ho];simp only
 split
 ·rename_i f hf
  split
  ·rename_i g caps hg
   obtain ⟨us,he,cO⟩:=C3 h hg;exact Ly hE h ho hf (by simpa using he) cO
  ·rename_i g b hg
   refine F1.yd (λ hb=>?_);have hv:=Ic h hg;rw [hb] at hv;exact Ly hE h ho hf (us:=[]) hv rfl
  ·rename_i g t y hg
   refine F1.yd (λ hy=>?_);obtain ⟨p,e,hp⟩:=JZ (C3 h hg) hy;exact Ly hE h ho hf (us:=[p]) (by simpa using e) ⟨p,[],rfl,hp,rfl⟩
  ·trivial
 ·rename_i hf
  split
  ·rename_i x T ha hT
   split
   ·rename_i q u y hx
    split
    ·rename_i hk
     obtain ⟨cs,e,hR⟩:=C3 h hx;obtain ⟨b,cap,hv,hl⟩:=BY hR;have e:a.eval x=l5 (.d0 q u) cs:=by simpa using e
     exact zw hE h ho hf ha hT hk (.inl ⟨q,u,b,0,cap,rfl,by rw [e,hv],rfl⟩) hl
    ·trivial
   ·rename_i u y hx
    split
    ·rename_i hk
     obtain ⟨cs,e,hR⟩:=C3 h hx;obtain ⟨b,cap,hv,hl⟩:=OS hR;have e:a.eval x=l5 (.B9 u) cs:=by simpa using e
     exact zw hE h ho hf ha hT hk (.inl ⟨false,u,b,0,cap,rfl,by rw [e,hv],rfl⟩) hl
    ·trivial
   ·rename_i y hx
    split
    ·rename_i hk
     obtain ⟨hv,hl⟩:=VX.zq (C3 h hx);exact zw hE h ho hf ha hT hk (.inr (.inl ⟨y,rfl,hv,rfl⟩)) (by unfold maxLen at hl; omega)
    ·trivial
   ·rename_i n u y hx
    split
    ·rename_i hk
     split
     ·rename_i hn
      exact zw hE h ho hf ha hT hk (.inr (.inr ⟨u,rfl⟩)) hn
     ·trivial
    ·trivial
   ·rename_i d p hx
    split
    ·rename_i q u z cQ
     split
     ·rename_i hk
      obtain ⟨e,u',y,cs,k1,k2,k3,k4,k5⟩:=C3 h hx;have hg:=I3 k1 cQ;rw [k3] at hg; cases hg;obtain ⟨O2,m1,m2,m3⟩:=H5 h.hs k1 k2 k3 k4;obtain ⟨b,cap,hv,hl⟩:=BY m3;have k5:a.eval x=l5 (.d0 q u) cs:=by simpa using k5
      exact zw hE h ho hf ha hT hk (.inl ⟨q,u,b,0,cap,rfl,by rw [k5,hv],rfl⟩) hl
     ·trivial
    ·rename_i u z cQ
     split
     ·rename_i hk
      obtain ⟨e,u',y,cs,k1,k2,k3,k4,k5⟩:=C3 h hx;have hg:=I3 k1 cQ;rw [k3] at hg; cases hg;obtain ⟨O2,m1,m2,m3⟩:=H5 h.hs k1 k2 k3 k4;obtain ⟨b,cap,hv,hl⟩:=OS m3;have k5:a.eval x=l5 (.B9 u) cs:=by simpa using k5
      exact zw hE h ho hf ha hT hk (.inl ⟨false,u,b,0,cap,rfl,by rw [k5,hv],rfl⟩) hl
     ·trivial
    ·rename_i k u z cQ
     split
     ·rename_i hk
      intro hn;have hm:(s.ev x).mp s=some ⟨(k,u),z⟩:=by rw [hx]; simp only [AV.mp,cQ]
      have aH:c.args=#[x]:=by rw [<- ha]
      have eC:c.argTypes=#[T]:=by rw [<- hT]
      obtain ⟨K,V,n,h1,_⟩:=EF (D6 hE hk);refine y7.value (val:=.int .i64 (List.length (Option.getD (z:Option (List (k.den×u.den))) []))) ?_ h (VX.int (by unfold r9; simp [IntKind.min,IntKind.max,IntKind.signed,IntKind.bits]; omega));have aP:(Builtin.len_ #[T] o.type #[a.eval x]).run E.P w=.ok (.int .i64 (List.length (Option.getD (z:Option (List (k.den×u.den))) []))) w:=by
       rcases NC h.hs (h.ev x) hm with ⟨h2,h3⟩|⟨l,b,es,ck,h2,h3,h4,h5⟩
       ·subst h2
        rw [h3];simp [Builtin.len_,p9 h1,goInt]
       ·subst h2
        rw [h3];have jD:=MapKept.run_getObj_map (P:=E.P) h4;have hl:=S3.length h5;rw [aCw] at hl;simp [Builtin.len_,p9 h1,goInt,jD,hl]
      simp [execOp,ho,resolve,hf,invoke,builtin,aH,eC,aP]
     ·trivial
    ·trivial
   ·rename_i d p lo hi hx
    split
    ·rename_i u y hw
     split
     ·rename_i hk
      obtain ⟨A,c,e,_,hl,h0,h1,_⟩:=Ep h.hs (C3 h hx) hw;have hm:=Jd h.hs (C3 h hx) (l:=y) hw;have:=zw hE h ho hf ha hT hk (n:=y.length) (.inl ⟨true,u,A,0,c,rfl,e,rfl⟩) (by unfold maxLen at hm; omega);rw [hl] at this;exact this
     ·trivial
    ·trivial
   ·rename_i hx
    split
    ·rename_i q u bts qF
     have eg:[a.eval x]=[Value.slice none 0 0]:=C3 h hx;have eg:a.eval x=Value.slice none 0 0:=by simpa using eg
     have aH:c.args=#[x]:=by rw [<- ha]
     have eC:c.argTypes=#[T]:=by rw [<- hT]
     refine y7.value (val:=.int .i64 0) ?_ h (VX.int (by unfold r9; simp [IntKind.min,IntKind.max,IntKind.signed,IntKind.bits]));have:=OL (w:=w) (ty:=o.type) (n:=0) (r7 hE qF) (.inl ⟨q,u,none,0,0,rfl,eg,rfl⟩);simp [execOp,ho,resolve,hf,invoke,builtin,aH,eC,this]
    ·trivial
   ·trivial
  ·trivial
 ·rename_i hf
  split
  ·rename_i x T ha hT
   split
   ·rename_i q u bts hx qF
    obtain ⟨et,k',f1,_⟩:=G5 (r7 hE qF);have eg:a.eval x=Value.slice none 0 0:=by simpa using (show [a.eval x]=[Value.slice none 0 0] from C3 h hx)
    have aH:c.args=#[x]:=by rw [<- ha]
    have eC:c.argTypes=#[T]:=by rw [<- hT]
    refine y7.value (val:=.int .i64 0) ?_ h (VX.int (by unfold r9; simp [IntKind.min,IntKind.max,IntKind.signed,IntKind.bits]));simp [execOp,ho,resolve,hf,invoke,builtin,aH,eC,Builtin.cap_,p9 f1,eg,goInt]
   ·trivial
  ·trivial
 ·rename_i hf
  split
  ·rename_i x y T U ha hT
   split
   ·rename_i q u bts hU
    obtain ⟨et,k',f1,_⟩:=G5 (r7 hE hU)
    split
    ·exact b5g hE h ho hf ha hT (.inl ⟨et,f1⟩)
    ·exact c2D hE h ho hf ha hT ⟨et,f1⟩
   ·rename_i bts hU
    exact Uf hE h ho hf ha hT (.inr (U9 (r7 hE hU)))
   ·rename_i kd bts hU
    exact b5f hE h ho hf ha hT (xw (r7 hE hU))
   ·trivial
  ·trivial
 ·rename_i hf
  split
  ·rename_i x l ha
   split
   ·rename_i k m hx
    exact (UG h ho ha hx).1 hf
   ·trivial
  ·trivial
 ·rename_i hf
  split
  ·rename_i x l ha
   split
   ·rename_i k m hx
    exact (UG h ho ha hx).2 hf
   ·trivial
  ·trivial
 ·rename_i hf
  split
  ·rename_i x y T U ha hT; exact c1Q hE h ho hf ha hT
  ·trivial
 ·rename_i hf
  split
  ·rename_i x T ha hT; exact b8R hE h ho hf ha hT
  ·trivial
 ·trivial
theorem ZS (hE:D3 E B) (h:RS B S ι s a w) (o:Oper) (iC:∀ c x y,o.op≠.pick c x y):F1 E.P B o a w (m0 E o s):=by
 cases ho:o.op with
 | move x=>unfold m0; rw [ho]; exact y7.value (by simp [execOp,ho]) h (h.ev x)
 | assign x=>unfold m0; rw [ho]; exact y7.value (by simp [execOp,ho]) h (h.ev x)
 | alloc T=>exact b9c hE h ho
 | box T x=>exact ZX hE h ho
 | makeSlice T x y=>exact b1e hE h ho
 | slice T x lo hi mx =>
  have:m0 E o s=yA E T (s.ev x) lo hi mx s:=by unfold m0; rw [ho]
  rw [this]; exact b5N hE h ho
 | build T parts=>exact b87 hE h ho
 | buildSlice T n parts=>exact b0i hE h ho
 | makeMap T r=>exact b41 hE h ho
 | lookup T x y ok =>
  have:m0 E o s=zo E T (s.ev x) (s.ev y) ok s:=by unfold m0; rw [ho]
  rw [this]; exact b42 hE h ho
 | mapUpdate T m x y =>
  have:m0 E o s=yi E T (s.ev m) (s.ev x) (s.ev y) s:=by unfold m0; rw [ho]
  rw [this]; exact c0J hE h ho
 | load T x =>
  have:m0 E o s=Z0 E T (s.ev x) s:=by unfold m0; rw [ho]
  rw [this];cases hl:Z0 E T (s.ev x) s with
  | fail why=>trivial
  | ok v s'=>exact b8u hE h ho hl
  | F8 p v s' =>
   exfalso;unfold Z0 at hl
   repeat' split at hl
   all_goals cases hl
 | store T x y =>
  unfold m0; rw [ho];simp only
  split
  ·rename_i i p hx; exact b5M hE h ho hx
  ·trivial
 | nilCheck x =>
  unfold m0; rw [ho];simp only
  split
  ·rename_i i p hx
   have hv:=C3 h hx;obtain ⟨e,b,off,h1,h2,h3,h4⟩:=hv;have h4:a.eval x=.pointer (some ⟨b,off,none⟩):=by simpa using h4
   exact y7.value (val:=.pointer (some ⟨b,off,none⟩)) (by simp only [execOp,ho,h4]; rfl) h ⟨e,b,off,h1,h2,h3,rfl⟩
  ·rename_i t y hx
   obtain ⟨b,off,e,h1,h2,h3⟩:=C3 h hx;have e:a.eval x=.pointer (some ⟨b,off,none⟩):=by simpa using e
   exact y7.value (val:=.pointer (some ⟨b,off,none⟩)) (by simp only [execOp,ho,e]; rfl) h ⟨b,off,rfl,h1,h2,h3⟩
  ·rename_i t y hx
   intro hy;obtain ⟨b,off,e,h1,h2,h3⟩:=Es (C3 h hx) hy;have e:a.eval x=.pointer (some ⟨b,off,none⟩):=by simpa using e
   exact y7.value (val:=.pointer (some ⟨b,off,none⟩)) (by simp only [execOp,ho,e]; rfl) h ⟨b,off,rfl,h1,h2,h3⟩
  ·rename_i f t y hx
   intro hy;have hv:=C3 h hx;obtain ⟨p,e,-⟩:=JZ hv hy;exact y7.value (val:=a.eval x) (by simp only [execOp,ho,e]; rfl) h hv
  ·rename_i f l hx
   obtain ⟨us,e,h1⟩:=C3 h hx;have e:a.eval x=.func (.func f) #[] us.toArray:=by simpa using e
   exact y7.value (val:=.func (.func f) #[] us.toArray) (by simp only [execOp,ho,e]; rfl) h ⟨us,rfl,h1⟩
  ·rename_i g b hx
   intro hb;have hv:=Ic h hx;have hb:b=true:=hb;subst hb;exact y7.value (val:=.func (.func g) #[] #[]) (by simp only [execOp,ho,hv]; rfl) h ⟨[fnV g true],rfl,rfl,rfl⟩
  ·trivial
 | binOp op T x y T' =>
  have:m0 E o s=wP E T op (s.ev x) (s.ev y) s:=by unfold m0; rw [ho]
  rw [this]; exact c2x hE h ho
 | unOp op T x =>
  have:m0 E o s=unA op (s.ev x) s:=by unfold m0; rw [ho]
  rw [this]; exact c0K h ho
 | convert T' T x=>exact b49 hE h ho
 | fieldAddr T x n=>exact b1r hE h ho
 | indexAddr T x y=>exact b1k hE h ho
 | field T x n=>exact b8C hE h ho
 | index T x y=>exact b8z hE h ho
 | extract x n =>
  unfold m0; rw [ho];simp only
  split
  ·rename_i l hx
   split
   ·rename_i v hn
    obtain ⟨us,e,hl⟩:=C3 h hx;have e:a.eval x=.tuple us.toArray:=by simpa using e
    obtain ⟨u,h1,h2⟩:=OT hn hl;have he:execOp a.eval o=(do pure (.value (<- Instr.extract (a.eval x) n))):=by simp [execOp,ho]
    refine I9 he h (val:=u) ?_ h2;rw [e]; simp [Instr.extract,h1]
   ·trivial
  ·trivial
 | makeFunc fn first caps =>
  unfold m0;rw [ho];cases fn with
  | func f =>
   simp only
   split
   ·rename_i hf
    have hf:first=#[]:=by simpa using hf
    have:=h.K3 caps.toList;refine y7.value (val:=.func (.func f) #[] (caps.toList.map a.eval).toArray) ?_ h ⟨_,rfl,this⟩;simp [execOp,ho,Instr.makeFunc,hf,<- Array.toList_map]
   ·trivial
  | _=>trivial
 | call c=>exact c2o hE h ho
 | pick c x y=>exact absurd ho (iC c x y)
 | _=>unfold m0; rw [ho]; trivial
theorem LF (hE:D3 E B) (hn:B.n=E.nt) (h:RS B S ι s a w) (o:Oper) {k:St->Tree (E.rs++E8 E.ps)} {L:Code->List Item->St->Prop} {Rt:DL (E.rs++E8 E.ps)->Prop} (ht:(yZ E o s k).holds L Rt) {next:Act->World->Prop} {Q:Exit->Act->World->Prop}
  (hk:∀ S' ι' s' a' w',RS B S' ι' s' a' w'->(k s').holds L Rt->next a' w'):o.wp E.P a w next Q:=by
 unfold yZ at ht;split at ht
 ·exact ht.elim
 ·rename_i hd
  rw [<- hn] at hd;split at ht
  ·rename_i c x y ho
   split at ht
   ·rename_i g hg
    have cR:=VX.Ay (C3 h hg);have aP:(execOp a.eval o).run E.P w=.ok (.value (if g then a.eval x else a.eval y)) w:=by
     simp only [execOp,ho,cR,asBool];cases g<;>simp
    unfold Oper.wp;rw [aP];cases g with
    | true=>exact hk S ι _ _ _ (h.put hd (h.ev x)) ht
    | false=>exact hk S ι _ _ _ (h.put hd (h.ev y)) ht
   ·exact ht.elim
  ·rename_i sI
   have hs:=ZS hE h o (λ c x y e=>sI c x y e);split at ht
   ·exact ht.elim
   ·rename_i v s' e
    rw [e] at hs;exact hs next Q (λ S' ι' w' val h1 h2=>hk S' ι' _ _ _ (h1.put hd h2) ht)
   ·rename_i p v s' e
    rw [e] at hs;exact hs ht.1 next Q (λ S' ι' w' val h1 h2=>hk S' ι' _ _ _ (h1.put hd h2) (ht.2 ht.1))
theorem c3v {ops:Array Oper} {o:Oper} {j:Nat} {want:Bool} (hg:o.guard=some (j,want)) {g:Nat} (hs:AN ops j=some g) {tmps:Array Value} :
  Region.wanted o (yielded ops tmps)=((match tmps[g]? with|some (.bool b)=>some b|_=>none) == some want):=by
 have:((ops[j]?).bind (·.dst)).bind (tmps[·]?)=tmps[g]?:=by
  have:(ops[j]?).bind (·.dst)=some g:=hs;rw [this]; rfl
 simp only [Region.wanted,hg,yielded,this];rfl
theorem getD_some {l:Array Value} {g:Nat} {v:Value} (h:l.getD g undef=v) (hv:v≠undef):l[g]?=some v:=by
 simp only [aCi] at h;cases hl:l[g]? with
 | none=>rw [hl] at h; exact absurd h.symm hv
 | some x=>rw [hl] at h; simp at h; rw [h]
theorem LD (hE:D3 E B) (hn:B.n=E.nt) (h:RS B S ι s a w) {ops:Array Oper} (o:Oper) {k:St->Tree (E.rs++E8 E.ps)} {L:Code->List Item->St->Prop} {Rt:DL (E.rs++E8 E.ps)->Prop} (ht:(yy E ops o s k).holds L Rt) {next:Act->World->Prop} {Q:Exit->Act->World->Prop}
  (hk:∀ S' ι' s' a' w',RS B S' ι' s' a' w'->(k s').holds L Rt->next a' w') :
  if Region.wanted o (yielded ops a.tmps) then o.wp E.P a w next Q else next (a.put o.dst undef) w:=by
 unfold yy at ht;split at ht
 ·rename_i hg
  simp only [Region.wanted,hg,if_true];exact LF hE hn h o ht hk
 ·rename_i j want hg
  split at ht
  ·exact ht.elim
  ·rename_i g hs
   rw [c3v hg hs];have hv:=h.ev (.tmp g);split at ht
   ·rename_i vs cR
    rw [cR] at hv;have hv:[a.tmps.getD g undef]=[Value.tuple vs]:=hv;have hv:a.tmps.getD g undef=.tuple vs:=by simpa using hv
    have gO:((match a.tmps[g]? with|some (.bool b)=>some b|_=>none) == some want)=false:=by
     simp only [aCi] at hv;cases hl:a.tmps[g]? with
     | none=>rfl
     | some x=>rw [hl] at hv; simp at hv; rw [hv]; rfl
    rw [gO];split at ht
    ·rename_i hd
     rw [<- hn] at hd;exact hk S ι _ _ _ (h.put hd (v:=.raw undef) (val:=undef) (by rfl)) ht
    ·exact ht.elim
   ·rename_i b cR
    rw [cR] at hv;have hb:=VX.Ay hv;have cm:=getD_some hb (by simp [undef]);rw [cm];split at ht
    ·exact ht.elim
    ·rename_i hd
     rw [<- hn] at hd;have og:∀ c,b=c->RS B S ι (s.put (some g) (.val .bool c)) a w:=by
      rintro c rfl;have bf:g<a.tmps.size:=by
       rcases aEd g a.tmps.size with h1|h1
       ·exact h1
       ·rw [aCf h1] at cm; cases cm
      have:=h.put (d:=some g) (v:=.val .bool b) (val:=.bool b) (by simp [H7,aDf,<- h.sz,bf]) VX.bool;have e:a.put (some g) (.bool b)=a:=by
       simp only [Act.put];have:a.tmps.setIfInBounds g (.bool b)=a.tmps:=by
        apply Array.ext_getElem?;intro i;rw [aDc]
        split
        ·rename_i e; subst e; exact cm.symm
        ·rfl
       rw [this]
      rw [e] at this;exact this
     cases b with
     | true =>
      cases want with
      | true=>exact LF hE hn (og true rfl) o ht hk
      | false=>exact hk S ι _ _ _ ((og true rfl).put hd (v:=.raw undef) (val:=undef) (by rfl)) ht
     | false =>
      cases want with
      | false=>exact LF hE hn (og false rfl) o ht hk
      | true=>exact hk S ι _ _ _ ((og false rfl).put hd (v:=.raw undef) (val:=undef) (by rfl)) ht
   ·exact ht.elim
theorem b0V {P:Program} {T et:TypeId} (h1:P.underlying T=some (.slice et)) (d:Nat) (A:Option Addr) (n c:Nat):(Op.equalIn (d+1) T (.slice A n c) (.slice none 0 0)).run P w=.ok A.isNone w:=by
 cases A<;>simp [Op.equalIn,p9 h1]
theorem ZY (hE:D3 E B) (h:RS B S ι s a w) {o:Oper} {p:Prop} {v1 v2:AV} (hb:brA E s o=some (p,v1,v2)) :
  ∃ val,(execOp a.eval o).run E.P w=.ok (.value val) w/\((p/\VX w.heap S ι s.hp v1 [val])\/VX w.heap S ι s.hp v2 [val]):=by
 unfold brA at hb;split at hb
 ·rename_i op T x y T' ho
  have key:∀ (b:Bool),(op=.eql/\b=true\/op=.neq/\b=false)->(match s.ev y,look T E.tt with
   | .raw (.slice none 0 0),some ⟨.d0 _ _,_⟩=>(match (s.ev x).els s with
    | some r=>some (r.2=[],AV.val .bool b,AV.val .bool (!b))
    | none=>none)
   | _,_=>none)=some (p,v1,v2)->∃ val,(execOp a.eval o).run E.P w=.ok (.value val) w/\((p/\VX w.heap S ι s.hp v1 [val])\/VX w.heap S ι s.hp v2 [val]):=by
   intro b cw hb;split at hb
   ·rename_i q u bts hy hT
    split at hb
    ·rename_i r hr
     obtain ⟨t0,l0⟩:=r;cases hb;have ma:[a.eval y]=[Value.slice none 0 0]:=C3 h hy;have ma:a.eval y=.slice none 0 0:=by simpa using ma
     obtain ⟨A,c,e,hA⟩:=Ek h.hs (h.ev x) hr;obtain ⟨et,k2,h1,_,_⟩:=G5 (Er (t:=.d0 q u) (u:=.d0 true u) rfl (r7 hE hT));have hg:(eqGuard op T x y (a.eval x) (a.eval y)).run E.P w=.ok () w:=by rw [e,ma]; cases op<;>rfl
     have heq:(Op.equal T (.slice A (List.length l0) c) (.slice none 0 0)).run E.P w=.ok A.isNone w:=b0V h1 9999 A _ c;have eM:A=none->l0=[]:=by
      rintro rfl;rcases hA with h2|⟨b2,off2,O2,h2,_⟩
      ·exact h2
      ·cases h2
     have eN:∀ n:Bool,(n=A.isNone/\op=.eql/\b=true\/n=(!A.isNone)/\op=.neq/\b=false)->(l0=[]/\VX w.heap S ι s.hp (.val .bool b) [.bool n])\/VX w.heap S ι s.hp (.val .bool (!b)) [.bool n]:=by
      intro n hn;cases A with
      | none=>rcases hn with ⟨rfl,_,rfl⟩|⟨rfl,_,rfl⟩<;>exact .inl ⟨eM rfl,VX.bool⟩
      | some A=>rcases hn with ⟨rfl,_,rfl⟩|⟨rfl,_,rfl⟩<;>exact .inr VX.bool
     rcases cw with ⟨rfl,rfl⟩|⟨rfl,rfl⟩
     ·exact ⟨.bool A.isNone,by rw [U3 ho hg (r:=.ok (.bool A.isNone) w)]; rfl; rw [e,ma]; simp [binOp,heq],eN _ (.inl ⟨rfl,rfl,rfl⟩)⟩
     ·exact ⟨.bool (!A.isNone),by rw [U3 ho hg (r:=.ok (.bool (!A.isNone)) w)]; rfl; rw [e,ma]; simp [binOp,heq],eN _ (.inr ⟨rfl,rfl,rfl⟩)⟩
    ·cases hb
   ·cases hb
  split at hb
  ·exact key true (.inl ⟨rfl,rfl⟩) hb
  ·exact key false (.inr ⟨rfl,rfl⟩) hb
  ·cases hb
 ·cases hb
end
end Go.Ex
