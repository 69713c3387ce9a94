import Derived.Test.YtijlnmgondibnaaGreatDoorExK4
import Derived.DeepKeys
import Derived.Laws.StructEq
import Derived.MapKept
import Derived.WideKeyRuns
import Derived.Lib.AppendZerosOnto
import Derived.Tactics
set_option linter.unusedVariables false
set_option linter.unusedSimpArgs false
set_option linter.unusedSectionVars false
namespace Go.Ex
section
variable {H H':Array Go.Obj} {S:Nat->Prop}
theorem W3.x7 {q:Bool} {b n:Nat} (h:H'[b]?=H[b]?):W3 q H b n->W3 q H' b n:=by
 rintro ⟨arr,T,⟨fz,e,ef⟩,hn⟩;exact ⟨arr,T,⟨fz,by rw [h]; exact e,ef⟩,hn⟩
theorem R0.x7 {b n:Nat} (h:H'[b]?=H[b]?):R0 H b n->R0 H' b n:=by
 rintro ⟨arr,T,⟨fz,e,ef⟩,hn⟩;exact ⟨arr,T,⟨fz,by rw [h]; exact e,ef⟩,hn⟩
theorem j5.x7 {t:Ty} {O:List Nat} {cs:List Value} {l:List t.den} (h:j5 (i6 H S t) t.size O cs l) (hH:∀ c,c∈O\/S c->H'[c]?=H[c]?):j5 (i6 H' S t) t.size O cs l :=
 j5.mono (L:=O) (λ _ h=>h) (λ _ _ _ hO hr=>hr.x7 (λ c hc=>hH c (hc.imp (hO c) id)) (λ _ h=>h)) h
theorem y7.x7:∀ {t:Ty} {p:List Step} {b off:Nat} {O:List Nat} {x:t.den},y7 H S t p b off O x->(∀ c,c=b\/c∈O\/S c->H'[c]?=H[c]?) ->
  y7 H' S t p b off O x/\C6 H' t p b off=C6 H t p b off:=by
 intro t
 induction t with
 | pair a c iha ihc =>
  intro p b off O x hR hH
  match p,hR with
  | [],hR=>exact ⟨hR,by rw [C8,C8]⟩
  | .m0 0::p,⟨O1,O2,e,h1,h2⟩ =>
   subst e;obtain ⟨k1,k2⟩:=iha h1 (λ c hc=>hH c (hc.imp id (Or.imp (λ h=>by simp [h]) id)));refine ⟨⟨O1,O2,rfl,k1,?_⟩,k2⟩;rw [l7 (hH b (.inl rfl))];exact h2.x7 (λ c hc=>hH c (.inr (hc.imp (λ h=>by simp [h]) id))) (λ _ h=>h)
  | .m0 (n+1)::p,⟨O1,O2,e,h1,h2⟩ =>
   subst e;obtain ⟨k1,k2⟩:=ihc h2 (λ c hc=>hH c (hc.imp id (Or.imp (λ h=>by simp [h]) id)));refine ⟨⟨O1,O2,rfl,?_,k1⟩,k2⟩;rw [l7 (hH b (.inl rfl))];exact h1.x7 (λ c hc=>hH c (.inr (hc.imp (λ h=>by simp [h]) id))) (λ _ h=>h)
  | .idx i::p,hR=>simp [y7] at hR
 | arr n t ih =>
  intro p b off O x hR hH
  match p,hR with
  | [],hR=>exact ⟨hR,by rw [C8,C8]⟩
  | .m0 i::p,hR=>simp [y7] at hR
  | .idx i::p,⟨hl,hi,O1,O2,O3,e,h1,h2,h3⟩ =>
   subst e;obtain ⟨k1,k2⟩:=ih h2 (λ c hc=>hH c (hc.imp id (Or.imp (λ h=>by simp [h]) id)));refine ⟨⟨hl,hi,O1,O2,O3,rfl,?_,k1,?_⟩,k2⟩
   ·rw [l7 (hH b (.inl rfl))]
    exact h1.x7 (λ c hc=>hH c (.inr (hc.imp (λ h=>by simp [h]) id)))
   ·rw [l7 (hH b (.inl rfl))]
    exact h3.x7 (λ c hc=>hH c (.inr (hc.imp (λ h=>by simp [h]) id)))
 | d0 o t ih =>
  intro p b off O x hR hH
  match p,hR with
  | [],hR=>exact ⟨by cases o<;>exact hR,by rw [C8,C8]⟩
  | .m0 i::p,hR=>cases o<;>simp [y7] at hR
  | .idx i::p,hR =>
   cases o with
   | false=>simp [y7] at hR
   | true =>
    obtain ⟨hi,b1,o1,cap,O1,O2,O3,e,e1,e2,e3,e4,h1,h2,h3⟩:=hR;subst e;have dK:H'[b1]?=H[b1]?:=hH b1 (by simp);obtain ⟨k1,k2⟩:=ih h2 (λ c hc=>hH c (hc.elim (λ h=>.inr (.inl (by simp [h]))) (λ h=>.inr (h.imp (λ h=>by simp [h]) id))));refine ⟨⟨hi,b1,o1,cap,O1,O2,O3,rfl,by rw [R9 (hH b (.inl rfl))]; exact e1,e2,e3,e4.x7 dK,?_,k1,?_⟩,?_⟩
    ·rw [l7 dK]
     exact h1.x7 (λ c hc=>hH c (.inr (hc.imp (λ h=>by simp [h]) id)))
    ·rw [l7 dK]
     exact h3.x7 (λ c hc=>hH c (.inr (hc.imp (λ h=>by simp [h]) id)))
    ·simp only [C6,R9 (hH b (.inl rfl)),e1]
     exact k2
 | _ =>
  intro p b off O x hR hH
  match p,hR with
  | [],hR=>exact ⟨hR,by rw [C8,C8]⟩
  | .m0 i::p,hR=>simp [y7] at hR
  | .idx i::p,hR=>simp [y7] at hR
end
section
variable {S:Nat->Prop} {ι:Ix} {H H':Array Go.Obj}
theorem y7.move {i:Nat} {e:g9} {p:List Step} (hk:(∃ t x,e=.var t x)\/∃ t x j q,e=.own (.d0 true t) x/\p=.idx j::q) {O:List Nat} (hR:y7 (VH H ι i e) S e.ty p (VR H ι i e).1 (VR H ι i e).2 O e.x)
  (hO:∀ c∈O,c<H.size) (hS:∀ c,S c->c<H.size) (aW:H.size<=H'.size) (hH:∀ c,(c=(VR H ι i e).1/\c<H.size)\/c∈O\/S c->H'[c]?=H[c]?) (bG:(∃ t x,e=.var t x)->(VR H ι i e).1<H.size) :
  y7 (VH H' ι i e) S e.ty p (VR H' ι i e).1 (VR H' ι i e).2 O e.x/\C6 (VH H' ι i e) e.ty p (VR H' ι i e).1 (VR H' ι i e).2=C6 (VH H ι i e) e.ty p (VR H ι i e).1 (VR H ι i e).2:=by
 rcases hk with ⟨t,x,rfl⟩|⟨t,x,j,q,rfl,rfl⟩
 ·exact y7.x7 (H:=H) hR (λ c hc=>hH c (hc.imp (λ h=>⟨h,h▸bG ⟨_,_,rfl⟩⟩) id))
 ·have hg:∀ c,c∈O\/S c->(VH H' ι i (.own (.d0 true t) x))[c]?=(VH H ι i (.own (.d0 true t) x))[c]?:=λ c hc=>by
   have h1:c<H.size:=hc.elim (hO c) (hS c);rw [H7 h1,H7 (aAs h1 aW)];exact hH c (.inr hc)
  obtain ⟨hi,b1,o1,cap,O1,O2,O3,e0,e1,e2,e3,e4,h1,h2,h3⟩:=hR;subst e0;have dK:=hg b1 (by simp);obtain ⟨k1,k2⟩:=y7.x7 h2 (H':=VH H' ι i (.own (.d0 true t) x)) (λ c hc=>hg c (hc.elim (λ h=>.inl (by simp [h])) (λ h=>h.imp (λ h=>by simp [h]) id)));have dS:(y8 (VH H' ι i (.own (.d0 true t) x)) (VR H' ι i (.own (.d0 true t) x)).1)[(VR H' ι i (.own (.d0 true t) x)).2]?=some (.slice (some ⟨b1,o1,none⟩) (List.length x) cap):=by
   refine Eq.trans ?_ (show (y8 (VH H ι i (.own (.d0 true t) x)) (VR H ι i (.own (.d0 true t) x)).1)[(VR H ι i (.own (.d0 true t) x)).2]?=some (.slice (some ⟨b1,o1,none⟩) (List.length x) cap) from e1);simp only [VH,VR,xb]
  refine ⟨⟨hi,b1,o1,cap,O1,O2,O3,rfl,dS,e2,e3,e4.x7 dK,?_,k1,?_⟩,?_⟩
  ·rw [l7 dK]; exact h1.x7 (λ c hc=>hg c (hc.imp (λ h=>by simp [h]) id))
  ·rw [l7 dK]; exact h3.x7 (λ c hc=>hg c (hc.imp (λ h=>by simp [h]) id))
  ·have e1':(y8 (VH H ι i (.own (.d0 true t) x)) (VR H ι i (.own (.d0 true t) x)).1)[(VR H ι i (.own (.d0 true t) x)).2]?=some (.slice (some ⟨b1,o1,none⟩) (List.length x) cap):=e1
   simp only [g9.ty,C6,dS,e1'];exact k2
theorem X7.refl {b off n m:Nat} (h:R0 H b m):X7 H H b off n:=by
 obtain ⟨arr,T,⟨fz,e,ef⟩,_⟩:=h;exact ⟨⟨arr,arr,T,⟨fz,⟨e,ef⟩,e⟩,rfl,λ _ _=>rfl⟩,λ _ _ _=>rfl⟩
theorem SS:∀ {t:Ty} {x:t.den} {p:List Step} {u:Ty} {y:u.den},C1 t x p->j9 t x p=some ⟨u,y⟩->w7 t x p u y=some ⟨t,x⟩:=by
 intro t;have CK:∀ {α:Type} {l:List α} {i:Int} {d:α},(0<=i/\i<List.length l)->List.set l i.toNat (List.getD l i.toNat d)=l:=by
  intro α l i d h;have h1:i.toNat<l.length:=by omega
  rw [aAb,aAf h1]; simp
 induction t with
 | pair a c iha ihc =>
  intro x p u y ho hg
  match p,ho,hg with
  | [],_,hg=>simp only [j9,aAc] at hg; cases hg; simp [w7]
  | .m0 0::p,ho,hg=>simp only [w7,iha (x:=x.1) ho hg]
  | .m0 (n+1)::p,ho,hg=>simp only [w7,ihc (x:=x.2) (p:=.m0 n::p) ho hg]
  | .idx i::p,ho,_=>simp [C1] at ho
 | arr n t ih =>
  intro x p u y ho hg
  match p,ho,hg with
  | [],_,hg=>simp only [j9,aAc] at hg; cases hg; simp [w7]
  | .m0 i::p,ho,_=>simp [C1] at ho
  | .idx i::p,ho,hg =>
   simp only [w7,ih ho.2 hg,dif_pos];by_cases hl:i<List.length x
   ·rw [CK ⟨ho.1.1,hl⟩]
   ·rw [List.set_eq_of_length_le (by have:=ho.1.1; omega)]
 | d0 o t ih =>
  intro x p u y ho hg
  match p,ho,hg with
  | [],_,hg=>rw [D6] at hg; cases hg; cases o<;>simp [w7]
  | .m0 i::p,ho,_=>cases o<;>simp [C1] at ho
  | .idx i::p,ho,hg =>
   cases o with
   | false=>simp [C1] at ho
   | true =>
    simp only [w7,ih ho.2 hg,dif_pos];rw [CK ho.1]
 | _ =>
  intro x p u y ho hg
  match p,ho,hg with
  | [],_,hg=>simp only [j9,aAc] at hg; cases hg; simp [w7]
  | .idx i::p,ho,_=>simp [C1] at ho
  | .m0 i::p,ho,_=>simp [C1] at ho
theorem OB.set {i:Nat} {e:g9} (ho:OB H S ι i e) (bQ:∀ c∈l8 ι i e,¬ S c/\c<H.size) (hS:∀ c,S c->c<H.size) {p:List Step} (hk:(∃ t x,e=.var t x)\/∃ t x j q,e=.own (.d0 true t) x/\p=.idx j::q) (aH:C1 e.ty e.x p) {u:Ty} {y:u.den} (hg:j9 e.ty e.x p=some ⟨u,y⟩)
  {b off:Nat} (hl:Loc H ι i e p=some (b,off)) (aW:H.size<=H'.size) {Op:List Nat} (gW:i6 H S u Op (e8 H b off u.size) y) (hH:∀ c,c<H.size->c∉Op->H'[c]?=H[c]?) {y':u.den} (fO:i6 H' S u Op (e8 H' b off u.size) y') {r:Sigma Ty.den} (aI:w7 e.ty e.x p u y'=some r) :
  OB H' S ι i (e.F1 r)/\Loc H' ι i e p=some (b,off):=by
 have he:e≠.N0:=M6 hl;have fH:=ho.zV he hS aH hg hl gW;obtain ⟨Om,m1,mn,m2,m3,m4,m5⟩:=P6 he ho hS aH hg hl;obtain ⟨O,hO,hR,hb,aK,bf,gB,dZ⟩:=ho.see he hS;obtain ⟨O1,O3,b',ar,e1,e2,e3,e4,e5,e6⟩:=focus hR hb aH hg
 obtain ⟨bV,dq⟩:=E0 hl;rw [J1 he] at bV;rw [e3] at bV; cases bV;have cx:(O1++O3).Nodup:=(e1.nodup_iff).1 ((hO.nodup_iff).2 (aAt.1 aK).2);have bj:∀ c∈O1,c∈ι.own i:=λ c hc=>hO.mem_iff.1 (e1.mem_iff.2 (by simp [hc]));have cO:∀ c∈O3,c∈ι.own i:=λ c hc=>hO.mem_iff.1 (e1.mem_iff.2 (by simp [hc]));have bG:=(aAt.1 aK).1;have dm:∀ c∈ι.own i,c∈l8 ι i e:=by intro c hc; cases e<;>simp [l8,hc]
 have e4':i6 H S u O3 (e8 H b off u.size) y:=by
  rw [l7 (H7 dq)] at e4;exact (wN (λ c hc=>ho.V6 he (cO c hc)) hS).1 e4
 obtain rfl:Op=O3:=gW.det e4';have fh:∀ c∈O1,c<H.size:=λ c hc=>ho.V6 he (bj c hc);have dU:∀ c,(c=(VR H ι i e).1/\c<H.size)\/c∈O1\/S c->H'[c]?=H[c]?:=by
  rintro c (⟨rfl,h1⟩|h1|h1)
  ·exact hH _ h1 (λ h=>bG (cO _ h))
  ·exact hH c (fh c h1) (λ h=>(aAg.1 cx).2.2 c h1 c h rfl)
  ·exact hH c (hS c h1) (λ h=>(bQ c (dm c (cO c h))).1 h1)
 have kk:(∃ t x,e=.var t x)->(VR H ι i e).1<H.size:=by rintro ⟨t,x,rfl⟩; exact bf
 obtain ⟨n1,n2⟩:=y7.move (H':=H') hk e2 fh hS aW dU kk;have cV:(VR H' ι i e).2+e.ty.size<=(y8 (VH H' ι i e) (VR H' ι i e).1).length/\(VR H' ι i e).1<(VH H' ι i e).size/\¬ S (VR H' ι i e).1/\(VR H' ι i e).1∉O1:=by
  rcases hk with ⟨t,x,rfl⟩|⟨t,x,j,q,rfl,rfl⟩
  ·have hr:=kk ⟨_,_,rfl⟩
   refine ⟨?_,aAs hr aW,(bQ _ (by simp [l8,VR])).1,λ h=>bG (bj _ h)⟩;have:=R9 (dU _ (.inl ⟨rfl,hr⟩));show (VR H ι i (.var t x)).2+_<=(y8 H' (VR H ι i (.var t x)).1).length;rw [this]; exact hb
  ·refine ⟨?_,by simp [VH,VR,Cx],λ h=>by have:=hS _ h; simp only [VR] at this; omega,λ h=>by have:=fh _ h; simp only [VR] at this; omega⟩
   simp only [VH,VR,xb] at hb ⊢; exact hb
 have gr:R0 (VH H' ι i e) b (off+u.size):=R0.x7 (H:=H') (H7 (aAs dq aW)) (m5.x7 (hH b dq fH));have um:i6 (VH H' ι i e) S u Op (e8 (VH H' ι i e) b off u.size) y':=by
  rw [l7 (H7 (aAs dq aW))];exact (wN (λ c hc=>aAs (ho.V6 he (cO c hc)) aW) (λ c hc=>aAs (hS c hc) aW)).2 fO
 obtain ⟨O4,f1,f2,f3⟩:=CD n1 hg (n2.trans e3) cV.1 cV.2.1 (aAg.1 cx).1 cV.2.2.2 (λ c hc=>⟨(bQ c (dm c (bj c hc))).1,aAs (fh c hc) (aAx aW xM)⟩) cV.2.2.1
  (λ c hc=>aAs (hS c hc) (aAx aW xM)) (λ _ h=>h) (X7.refl gr) um aI
 have bU:∀ c∈O4,c∈ι.own i:=λ c hc=>(aAi.1 (f1.mem_iff.1 hc)).elim (bj c) (cO c);have iq:O4.Nodup:=(f1.nodup_iff).2 cx;have f2':=(wN (λ c hc=>aAs (ho.V6 he (bU c hc)) aW) (λ c hc=>aAs (hS c hc) aW)).1 f2;have rC:O4.Perm (ι.own i):=f1.trans (e1.symm.trans hO);refine ⟨?_,wL (by rw [J1 he,n2]; exact e3) (aAs dq aW)⟩;have fV:r.1.size=e.ty.size:=H4 f3;cases e with
 | var t x =>
  obtain ⟨_,hf,gJ⟩:=ho;have hf:R0 H (ι.root i).1 ((ι.root i).2+t.size):=hf;refine ⟨⟨O4,rC,f2'⟩,?_,gJ⟩;have fV:r.1.size=t.size:=fV;show R0 H' (ι.root i).1 ((ι.root i).2+r.1.size);rw [fV];exact hf.x7 (dU _ (.inl ⟨rfl,kk ⟨_,_,rfl⟩⟩))
 | own t x =>
  obtain ⟨⟨O',_,fO⟩,gJ⟩:=ho;refine ⟨⟨O4,rC,?_⟩,gJ⟩;have fV:r.1.size=t.size:=fV;have:e8 (VH H' ι i (.own t x)) (VR H' ι i (.own t x)).1 (VR H' ι i (.own t x)).2 r.1.size=ι.cells i:=by
   simp only [VH,VR,e8,xb,aBz];exact aAw (by rw [fO.length,fV]; exact aAk _)
  have f2'':i6 H' S r.1 O4 (e8 (VH H' ι i (.own t x)) (VR H' ι i (.own t x)).1 (VR H' ι i (.own t x)).2 r.1.size) r.2:=f2';rw [this] at f2'';exact f2''
 | N0=>exact absurd rfl he
theorem OB.same {i:Nat} {e:g9} (ho:OB H S ι i e) (bQ:∀ c∈l8 ι i e,¬ S c/\c<H.size) (hS:∀ c,S c->c<H.size) {p:List Step} (hk:(∃ t x,e=.var t x)\/∃ t x j q,e=.own (.d0 true t) x/\p=.idx j::q) (aH:C1 e.ty e.x p) {u:Ty} {y:u.den} (hg:j9 e.ty e.x p=some ⟨u,y⟩)
  {b off:Nat} (hl:Loc H ι i e p=some (b,off)) (aW:H.size<=H'.size) {Op:List Nat} (gW:i6 H S u Op (e8 H b off u.size) y) (hH:∀ c,c<H.size->c∉Op->H'[c]?=H[c]?) (fO:i6 H' S u Op (e8 H' b off u.size) y) :
  OB H' S ι i e/\Loc H' ι i e p=some (b,off):=by
 have h1:=OB.set ho bQ hS hk aH hg hl aW gW hH fO (SS aH hg);have he:=M6 hl;have e9:e.F1 ⟨e.ty,e.x⟩=e:=by cases e<;>first|rfl|exact absurd rfl he
 rw [e9] at h1;exact h1
end
section
variable {E:Env} {B:F5} {S:Nat->Prop} {ι:Ix} {s:St} {a:Act} {w:World}
theorem CU {H:Array Go.Obj} {i:Nat} {e:g9} (ho:OB H S ι i e) (hS:∀ c,S c->c<H.size) {p:List Step} (kE:(∃ t x,e=.var t x)\/∃ t x j q,e=.own (.d0 true t) x/\p=.idx j::q) (aH:C1 e.ty e.x p) {u:Ty} {y:u.den} (hg:j9 e.ty e.x p=some ⟨u,y⟩) :
  ∃ b off,Loc H ι i e p=some (b,off):=by
 have cJ:e≠.N0:=by rcases kE with ⟨_,_,rfl⟩|⟨_,_,_,_,rfl,_⟩<;>(intro h; cases h)
 obtain ⟨O,hO,hR,eB,gJ,pV,gB,dZ⟩:=ho.see cJ hS;obtain ⟨O1,O3,b',ar,g1,g2,g3,g4,g5,g6⟩:=focus hR eB aH hg
 have cp:∀ c∈O1,c<H.size:=λ c hc=>ho.V6 cJ (hO.mem_iff.1 (g1.mem_iff.2 (by simp [hc])));refine ⟨b',ar,wL (by rw [J1 cJ]; exact g3) ?_⟩;rcases kE with ⟨t,x,rfl⟩|⟨t,x,j,q,rfl,rfl⟩
 ·rcases y7.range g2 hg g3 with ⟨h1,_⟩|h1
  ·rw [h1]; exact ho.2.1.lt
  ·exact cp _ h1
 ·obtain ⟨hi,c1,o1,cap,P1,P2,P3,e,e1,e2,e3,e4,e5,e6,e7⟩:=g2
  subst e;have e1':(y8 (VH H ι i (.own (.d0 true t) x)) (VR H ι i (.own (.d0 true t) x)).1)[(VR H ι i (.own (.d0 true t) x)).2]?=some (.slice (some ⟨c1,o1,none⟩) (List.length x) cap):=e1;simp only [g9.ty,C6,e1'] at g3;rcases y7.range e6 hg g3 with ⟨h1,_⟩|h1
  ·rw [h1]; exact cp _ (by simp)
  ·exact cp _ (by simp [h1])
theorem c1J {e:g9} {p:List Step} {r:Sigma Ty.den} (h:zH e p r=true):(∃ t x,e=.var t x)\/∃ t x,e=.own (.d0 true t) x/\(p=[]\/∃ j q,p=.idx j::q):=by
 unfold zH at h;split at h
 ·exact .inl ⟨_,_,rfl⟩
 ·simp only [aAa] at h
  obtain ⟨_,h⟩:=h;split at h
  ·exact .inr ⟨_,_,rfl,.inl rfl⟩
  ·exact .inr ⟨_,_,rfl,.inr ⟨_,_,rfl⟩⟩
  ·cases h
 ·cases h
theorem Ul {e:g9} {p:List Step} {r:Sigma Ty.den} (h:zH e p r=true):BX e (e.F1 r):=by
 unfold zH at h;obtain ⟨r1,r2⟩:=r;split at h
 ·rename_i t x
  obtain rfl:r1=t:=of_decide_eq_true h;exact .inl ⟨r1,x,r2,rfl,rfl⟩
 ·rename_i t x
  simp only [aAa] at h;obtain rfl:r1=.d0 true t:=of_decide_eq_true h.1;exact .inr (.inl ⟨t,x,r2,rfl,rfl⟩)
 ·cases h
theorem b8Z {P:Program} (h:RS B S ι s a w) {i:Nat} {e:g9} (he:look i s.hp=some e) {p:List Step} (aH:C1 e.ty e.x p) {t0:Ty} {l:List t0.den} (hg:j9 e.ty e.x p=some ⟨.d0 true t0,l⟩) (cj:t0.shared=true)
  {b1 o1 cap:Nat} (hc:Cells w.heap ι i e p (.d0 true t0) [.slice (some ⟨b1,o1,none⟩) l.length cap]) (lY:1<=cap) {lo:Nat} {m:List t0.den} (jr:lo+m.length<=l.length) {news:List Value} (hN:j5 (i6 w.heap S t0) t0.size [] news m)
  {r:Sigma Ty.den} (aI:w7 e.ty e.x p (.d0 true t0) (l.take lo++m++l.drop (lo+m.length))=some r) (bO:zH e p r=true) :
  ∃ w' ι',(storeCells ⟨b1,o1+lo*t0.size,none⟩ news).run P w=.ok () w'/\RS B S ι' ((s.vR i e.vQ).y9 i (e.F1 r)) a w':=by
 have cJ:e≠.N0:=Dd hc;obtain ⟨Op,m1,mn,hR⟩:=I2 h.hs he aH hg hc;have bQ:∀ c∈l8 ι i e,¬ S c/\c<w.heap.size:=λ c cX=>⟨(h.hs.bl i e he c cX).1,(h.hs.bl i e he c cX).2.2⟩;have eX:=hR;rcases hR with ⟨_,⟨A,c,e0,eT⟩,_⟩|⟨b2,o2,cap2,O',c1,c2,c3,c4,c5,rfl,c7⟩
 ·simp only [aBc,Value.slice.injEq,and_true] at e0
  have:=eT rfl; omega
 simp only [aBc,Value.slice.injEq,aAc,Addr.mk.injEq,and_true,true_and] at c1;obtain ⟨⟨rfl,rfl⟩,rfl⟩:=c1;have gX:O'=[]:=j5.Q8 (λ _ _ _ hr=>i6.Q8 cj hr) c5;subst gX;have dK:b1∈l8 ι i e:=J8 (m1 b1 (by simp));have ik:=(bQ b1 dK).2;have fy:news.length=m.length*t0.size:=j5.length (λ _ _ _ h=>h.length) hN;have tm:lo*t0.size+m.length*t0.size<=l.length*t0.size:=by rw [<- aBp]; exact aAm _ jr
 have tj:l.length*t0.size<=cap*t0.size:=aAm _ c2;obtain ⟨arr,T',⟨fz,e1,ef⟩,hn⟩:=c7;have dS:y8 w.heap b1=arr.toList:=by simp only [y8,e1]
 have jH:=Gy (P:=P) b1 (o1+lo*t0.size) T' fz news 0 arr w ⟨e1,ef.imp id (·.2)⟩ (by omega) (λ v hv=>(j5.plain (λ _ _ _ hr=>hr.plain) hN v hv).1);simp only [aDu] at jH;have iT:arr.toList.take (o1+lo*t0.size)++news++arr.toList.drop (o1+lo*t0.size+news.length)=over (y8 w.heap b1) (o1+lo*t0.size) news:=by rw [dS]; rfl
 rw [iT] at jH;obtain ⟨fq,cG⟩:=FU (w:=w) (b:=b1) (off:=o1+lo*t0.size) (cs:=news) ⟨arr,T',⟨fz,e1,ef.imp id (·.2)⟩,by omega⟩;generalize hJ:w.setRow b1 (over (y8 w.heap b1) (o1+lo*t0.size) news).toArray=w' at jH fq cG;have aW:w'.heap.size=w.heap.size:=by rw [<- hJ]; exact setRow_size
 have bn:G2 [b1] w w':=⟨by rw [<- hJ]; rfl,.of (by rw [<- hJ]; rfl) (by rw [<- hJ]; rfl),by rw [<- hJ]; rfl,by rw [aW]; exact aAk _,λ c _ cD=>by rw [<- hJ]; exact setRow_other (by simpa using cD)⟩;have dZ:W3 t0.isB w'.heap b1 (o1+cap*t0.size):=fq.HY ⟨arr,T',⟨fz,e1,ef⟩,hn⟩;have hlen:(l.take lo++m++l.drop (lo+m.length)).length=l.length:=by simp only [aAd,aAn,aAo]; omega
 have ld:∀ {O:List Nat} {cs:List Value} {y:t0.den},i6 w.heap S t0 O cs y->i6 w'.heap S t0 O cs y:=by
  intro O cs y hr;have hO:=i6.Q8 cj hr;subst hO;refine hr.x7 (λ c cX=>bn.frame c ?_ ?_) (λ _ h=>h)
  ·rcases cX with h9|h9
   ·cases h9
   ·exact h.hs.slt c h9
  ·rcases cX with h9|h9
   ·cases h9
   ·rintro h8
    have:c=b1:=by simpa using h8
    exact (bQ b1 dK).1 (this▸h9)
 have iY:∀ {cs:List Value} {l':List t0.den},j5 (i6 w.heap S t0) t0.size [] cs l'->j5 (i6 w'.heap S t0) t0.size [] cs l':=λ hr=>j5.mono (L:=[]) (λ _ h=>h) (λ _ _ _ _ hr=>ld hr) hr;have eL:∀ {k:Nat} {l':List t0.den} {O:List Nat} {cs:List Value},k<=l'.length->j5 (i6 w.heap S t0) t0.size O cs l'->j5 (i6 w.heap S t0) t0.size [] (cs.take (k*t0.size)) (l'.take k)/\j5 (i6 w.heap S t0) t0.size [] (cs.drop (k*t0.size)) (l'.drop k):=by
  intro k
  induction k with
  | zero =>
   intro l' O cs _ hr;have:=j5.Q8 (λ _ _ _ hr=>i6.Q8 cj hr) hr;subst this;simp only [aEy,aFe,aBz];exact ⟨⟨rfl,rfl⟩,hr⟩
  | succ k ih =>
   intro l' O cs hk hr
   match l',hk,hr with
   | x::l',hk,⟨O1,O2,_,r1,r2⟩ =>
    obtain ⟨q1,q2⟩:=ih (by simpa using hk) r2;have e9:=i6.Q8 cj r1;subst e9;refine ⟨⟨[],[],rfl,?_,?_⟩,?_⟩
    ·rw [aCs,aCb (by rw [aBg]; omega)]; exact r1
    ·rw [aDk,show (k+1)*t0.size - t0.size=k*t0.size by rw [aBg]; omega]; exact q1
    ·rw [aBm,show t0.size+k*t0.size=(k+1)*t0.size by rw [aBg]; omega] at q2; exact q2
 have bM:e8 w'.heap b1 o1 (l.length*t0.size)=(e8 w.heap b1 o1 (l.length*t0.size)).take (lo*t0.size)++news++(e8 w.heap b1 o1 (l.length*t0.size)).drop ((lo+m.length)*t0.size):=by
  have e3:l.length*t0.size=lo*t0.size+(news.length+(l.length - (lo+m.length))*t0.size):=by
   rw [fy,<- aBp,<- aBp]; congr 1; omega
  have e4:o1+lo*t0.size+news.length=o1+(lo+m.length)*t0.size:=by rw [fy,aBp]; omega
  rw [n9 _ _ _ _ (by omega),o8];have e5:l.length*t0.size - (lo+m.length)*t0.size=(l.length - (lo+m.length))*t0.size:=by rw [Nat.sub_mul]
  rw [e5]
  conv=>lhs; rw [e3]
  rw [Mr,Mr,cG,e4,fq.cells ik (λ _=>.inl (aAk _)),fq.cells ik (λ _=>.inr (by rw [fy,aBp]; omega)),aAj]
 have qS:j5 (i6 w'.heap S t0) t0.size [] (e8 w'.heap b1 o1 (l.length*t0.size)) (l.take lo++m++l.drop (lo+m.length)):=by
  rw [bM];exact j5.append (λ _ _ _ h=>h.length) (j5.append (λ _ _ _ h=>h.length) (iY (eL (by omega) c5).1) (iY hN)) (iY (eL (by omega) c5).2)
 have fO:i6 w'.heap S (.d0 true t0) [b1] [.slice (some ⟨b1,o1,none⟩) l.length cap] (l.take lo++m++l.drop (lo+m.length)):=by
  refine .inr ⟨b1,o1,cap,[],by rw [hlen],by rw [hlen]; exact c2,c3,?_,by rw [hlen]; exact qS,rfl,dZ⟩;rw [hlen];have:=dZ.free.y8;omega
 have uz:∃ O,OB w'.heap S (ι.E1 i O) i (e.F1 r)/\∀ c∈l8 (ι.E1 i O) i (e.F1 r),c∈l8 ι i e:=by
  have bm:∀ (ob:OB w'.heap S ι i (e.F1 r)),∃ O,OB w'.heap S (ι.E1 i O) i (e.F1 r)/\∀ c∈l8 (ι.E1 i O) i (e.F1 r),c∈l8 ι i e:=by
   intro ob;refine ⟨ι.own i,?_,?_⟩
   ·cases e<;>simpa [OB,Ix.E1,g9.F1] using ob
   ·intro c cX
    cases e with
    | var t x=>simpa [l8,Ix.E1,g9.F1] using cX
    | own t x=>simpa [l8,Ix.E1,g9.F1] using cX
    | N0=>exact absurd rfl cJ
  obtain ⟨b0,off0,bV,gR⟩:=hc;rcases c1J bO with ⟨t,x,rfl⟩|⟨t,x,rfl,hp⟩
  ·
   have nb:=aH;obtain ⟨b,off,hl⟩:=CU (h.hs.ob i _ he) h.hs.slt (.inl ⟨_,_,rfl⟩) aH hg;have iR:=(E0 hl).1;rw [bV] at iR; cases iR;have dR:=(E0 hl).2;obtain ⟨Oq,q1,q2,q3,q4,q5,q6⟩:=P6 cJ (h.hs.ob i _ he) h.hs.slt aH hg hl;have jv:e8 w.heap b0 off0 1=[.slice (some ⟨b1,o1,none⟩) l.length cap]:=by
    rw [l7 (H7 dR)] at gR; exact gR.symm
   have qU:Oq=[b1]:=by
    have q3':i6 w.heap S (.d0 true t0) Oq [.slice (some ⟨b1,o1,none⟩) l.length cap] l:=by rw [<- jv]; exact q3
    exact q3'.det eX
   subst qU;have lP:=(h.hs.ob i _ he).zV cJ h.hs.slt aH hg hl q3;have lM:e8 w'.heap b0 off0 1=[.slice (some ⟨b1,o1,none⟩) l.length cap]:=by
    rw [l7 (bn.frame b0 dR lP)]; exact jv
   exact bm (OB.set (h.hs.ob i _ he) bQ h.hs.slt (.inl ⟨_,_,rfl⟩) aH hg hl (by rw [aW]; exact aAk _) q3 (λ c cK iG=>bn.frame c cK iG) (by
    show i6 w'.heap S (.d0 true t0) [b1] (e8 w'.heap b0 off0 1) _;rw [lM]; exact fO) aI).1
  ·
   rcases hp with rfl|⟨j,q,rfl⟩
   ·have kH:j9 (.d0 true t) x []=some ⟨.d0 true t0,l⟩:=hg
    rw [D6] at kH;simp only [aAc,Sigma.mk.injEq,Ty.d0.injEq,true_and] at kH;obtain ⟨rfl,kQ⟩:=kH;obtain rfl:x=l:=eq_of_heq kQ;obtain ⟨⟨O9,sU,qT⟩,pP⟩:=h.hs.ob i _ he;have je:ι.cells i=[.slice (some ⟨b1,o1,none⟩) (List.length x) cap]:=by
     rw [J1 cJ,C8] at bV;cases bV;have rG:(ι.cells i).length=1:=qT.length;simp only [VH,VR,e8,xb,aBz,Ty.size] at gR;rw [aAw (by omega)] at gR;exact gR.symm
    have km:w7 (.d0 true t) x [] (.d0 true t) (x.take lo++m++x.drop (lo+m.length))=some r:=aI;have hr:r=⟨.d0 true t,x.take lo++m++x.drop (lo+m.length)⟩:=by
     simp only [w7,if_true,aAc] at km;exact km.symm
    subst hr;rw [je] at qT;have uA:O9=[b1]:=qT.det eX;subst uA;refine bm ⟨⟨[b1],sU,?_⟩,pP⟩;rw [je]; exact fO
   ·obtain ⟨b,off,hl⟩:=CU (h.hs.ob i _ he) h.hs.slt (.inr ⟨_,_,_,_,rfl,rfl⟩) aH hg
    have iR:=(E0 hl).1;rw [bV] at iR; cases iR;have dR:=(E0 hl).2;obtain ⟨Oq,q1,q2,q3,q4,q5,q6⟩:=P6 cJ (h.hs.ob i _ he) h.hs.slt aH hg hl;have jv:e8 w.heap b0 off0 1=[.slice (some ⟨b1,o1,none⟩) l.length cap]:=by
     rw [l7 (H7 dR)] at gR; exact gR.symm
    have qU:Oq=[b1]:=by
     have q3':i6 w.heap S (.d0 true t0) Oq [.slice (some ⟨b1,o1,none⟩) l.length cap] l:=by rw [<- jv]; exact q3
     exact q3'.det eX
    subst qU;have lP:=(h.hs.ob i _ he).zV cJ h.hs.slt aH hg hl q3;have lM:e8 w'.heap b0 off0 1=[.slice (some ⟨b1,o1,none⟩) l.length cap]:=by
     rw [l7 (bn.frame b0 dR lP)]; exact jv
    exact bm (OB.set (h.hs.ob i _ he) bQ h.hs.slt (.inr ⟨_,_,_,_,rfl,rfl⟩) aH hg hl (by rw [aW]; exact aAk _) q3 (λ c cK iG=>bn.frame c cK iG) (by
     show i6 w'.heap S (.d0 true t0) [b1] (e8 w'.heap b0 off0 1) _;rw [lM]; exact fO) aI).1
 obtain ⟨O,aT,oN⟩:=uz;refine ⟨w',_,jH,h.renew he (Ul bO) H2.nil (L:=l8 ι i e) (bn.mono (by simpa using dK)) (λ b hb=>.inl hb) (λ _ h=>h) (λ _ h=>.inl h) (O':=O) aT (λ c cX=>?_)⟩;have:=h.hs.bl i e he c (oN c cX);exact ⟨this.1,.inr (oN c cX),by rw [aW]; exact this.2.2⟩
theorem c1I (h:RS B S ι s a w) {i:Nat} {e:g9} (he:look i s.hp=some e) {p:List Step} {r:Sigma Ty.den} (bO:zH e p r=true) (hr:e.F1 r=e):∃ ι',RS B S ι' ((s.vR i e.vQ).y9 i (e.F1 r)) a w:=by
 have eV:=Ul bO;rw [hr] at eV ⊢;have hs:ι.E1 i (ι.own i)=ι:=by
  cases ι with
  | mk r c o =>
   simp only [Ix.E1,Ix.mk.injEq,true_and]
   funext j
   split
   ·rename_i e9; rw [e9]
   ·rfl
 exact ⟨_,h.renew he eV H2.nil (L:=l8 ι i e) ⟨rfl,.refl _,rfl,aAk _,λ _ _ _=>rfl⟩ (λ b hb=>.inl hb) (λ _ h=>h) (λ _ h=>.inl h) (O':=ι.own i) (by rw [hs]; exact h.hs.ob i e he) (λ c cX=>by
  rw [hs] at cX;have:=h.hs.bl i e he c cX;exact ⟨this.1,.inr cX,this.2.2⟩)⟩
theorem Jj (h:RS B S ι s a w) {v:AV} {val:Value} (hv:VX w.heap S ι s.hp v [val]) {i:Nat} {p:List Step} {lo hi:Int} (hd:v.wW s=some (i,p,lo,hi)) :
  ∃ e t0 l A cap c A',look i s.hp=some e/\C1 e.ty e.x p/\j9 e.ty e.x p=some ⟨.d0 true t0,l⟩/\Cells w.heap ι i e p (.d0 true t0) [.slice A (List.length l) cap]/\0<=lo/\lo<=hi/\hi<=(List.length l:Int) /\
   val=.slice A' (hi - lo).toNat c/\(c≠0->A'=A.map (·.add (lo.toNat*t0.size)))/\(hi - lo).toNat<=c:=by
 unfold AV.wW at hd;split at hd
 ·rename_i j q
  split at hd
  ·rename_i t0 l cT
   cases hd;obtain ⟨e,u,y,cs,h1,h2,h3,h4,h5⟩:=hv;have hg:=J5 h1 cT;rw [h3] at hg; cases hg;obtain ⟨O2,m1,m2,m3⟩:=I2 h.hs h1 h2 h3 h4;obtain ⟨A,cap,cG,hle⟩:∃ A cap,cs=[.slice A (List.length l) cap]/\List.length l<=cap:=by
    rcases m3 with ⟨_,⟨A,c,e0,eT⟩,hl⟩|⟨b2,o2,cap2,O',c1,c2,_⟩
    ·subst hl; exact ⟨A,c,e0,aAr _⟩
    ·exact ⟨_,_,c1,c2⟩
   subst cG;refine ⟨e,t0,l,A,cap,cap,A,h1,h2,h3,h4,aDo _,by omega,aDo _,?_,λ _=>?_,by omega⟩
   ·have h5:val=.slice A (List.length l) cap:=by simpa [s5,Ty.agg] using h5
    rw [h5,show ((List.length l:Int) - 0).toNat=List.length l by omega]
   ·cases A with
    | none=>rfl
    | some A=>simp [Addr.add]
  ·cases hd
 ·rename_i j q lo' cW
  split at hd
  ·rename_i t0 l cT
   cases hd;obtain ⟨e,v',h1,h2,h3,h4,h5,h6⟩:=hv;have hg:=J5 h1 cT;cases h3;rcases h6 with ⟨t1,l1,A,cap,k1,k2,k3,c,A',k4,k5,k6,k7⟩|⟨n,t1,l1,b,off,k1,_,_,_⟩
   ·rw [k1] at hg; cases hg
    exact ⟨e,t0,l,A,cap,c,A',h1,h2,k1,k3,h4,h5,k2,k4,k5,k6⟩
   ·rw [k1] at hg; cases hg
  ·cases hd
 ·cases hd
theorem c3U {t:Ty} {O:List Nat} {cs:List Value} {l:List t.den} (cj:t.shared=true) (hr:j5 (i6 w.heap S t) t.size O cs l):∀ {k:Nat},j5 (i6 w.heap S t) t.size [] (cs.take (k*t.size)) (l.take k):=by
 have hO:=j5.Q8 (λ _ _ _ hr=>i6.Q8 cj hr) hr;subst hO;intro k
 induction k generalizing cs l with
 | zero=>simp only [aEy,aFe]; exact ⟨rfl,rfl⟩
 | succ k ih =>
  match l,hr with
  | [],⟨_,e⟩=>subst e; simp only [aHa]; exact ⟨rfl,rfl⟩
  | x::l,⟨O1,O2,e,r1,r2⟩ =>
   obtain ⟨rfl,rfl⟩:=aBi.1 e.symm;refine ⟨[],[],rfl,?_,?_⟩
   ·rw [aCs,aCb (by rw [aBg]; omega)]; exact r1
   ·rw [aDk,show (k+1)*t.size - t.size=k*t.size by rw [aBg]; omega]; exact ih r2
theorem Mt {P:Program} (h:RS B S ι s a w) {v:AV} {val:Value} (hv:VX w.heap S ι s.hp v [val]) {i:Nat} {p:List Step} {lo hi:Int} (hd:v.wW s=some (i,p,lo,hi)) {t:Ty} {m:List t.den} (hm:(m.length:Int)<=hi - lo) {news:List Value} (hN:j5 (i6 w.heap S t) t.size [] news m)
  {s':St} (hf:wB s i p lo.toNat t m=some s'):∃ w' ι' A' c,val=.slice A' (hi - lo).toNat c/\RS B S ι' s' a w'/\((A'=none/\m=[]/\w'=w)\/∃ A,A'=some A/\(storeCells A news).run P w=.ok () w'):=by
 obtain ⟨e,t0,l,A,cap,c,A',h1,h2,h3,h4,h5,h6,h7,h8,h9,iz⟩:=Jj h hv hd;unfold wB at hf;have aT:s.obj i=some e:=h1;rw [aT] at hf;simp only [h3] at hf;split at hf
 ·rename_i ht
  subst ht;split at hf
  ·rename_i r aI
   split at hf
   ·rename_i hc
    simp only [aAa] at hc;cases hf;have aI:w7 e.ty e.x p (.d0 true t) (l.take lo.toNat++m++l.drop (lo.toNat+m.length))=some r:=aI;by_cases iB:m=[]
    ·subst iB
     have de:news=[]:=hN.2;subst de;have bm:w7 e.ty e.x p (.d0 true t) l=some r:=by
      rw [<- aI]; congr 1; simp
     have hr:r=⟨e.ty,e.x⟩:=by
      have:=SS h2 h3;rw [bm] at this; cases this; rfl
     have pc:e.F1 r=e:=by
      rw [hr];cases e with
      | N0=>rfl
      | _=>rfl
     obtain ⟨ι',cv⟩:=c1I h h1 hc.2 pc;refine ⟨w,ι',A',c,h8,cv,?_⟩;cases A' with
     | none=>exact .inl ⟨rfl,rfl,rfl⟩
     | some A=>exact .inr ⟨A,rfl,by simp [storeCells]⟩
    ·have iA:1<=m.length:=aCg.2 iB
     have eT:c≠0:=by omega
     have hA:=h9 eT;obtain ⟨Op,m1,mn,hR⟩:=I2 h.hs h1 h2 h3 h4;rcases hR with ⟨_,⟨A9,c9,e0,vm⟩,hl⟩|⟨b2,o2,cap2,O',c1,c2,c3,_⟩
     ·rw [hl] at h7; simp at h7; omega
     ·simp only [aBc,Value.slice.injEq,and_true,true_and] at c1
      obtain ⟨rfl,rfl⟩:=c1;obtain ⟨w',ι',k1,k2⟩:=b8Z (P:=P) h h1 h2 h3 hc.1 h4 (c3.2 rfl) (lo:=lo.toNat) (m:=m) (by omega) hN aI hc.2;refine ⟨w',ι',A',c,h8,k2,.inr ⟨⟨b2,o2+lo.toNat*t.size,none⟩,by rw [hA]; simp [Addr.J0],k1⟩⟩
   ·cases hf
  ·cases hf
 ·cases hf
end
end Go.Ex
namespace Go.Ex
theorem SJ {P:Program} {k:Nat} {T:TypeId} {t:Ty} (h:r8 P k T (.hole t)=true):∃ e,P.underlying T=some (.slice e):=by
 cases k with
 | zero=>simp [r8] at h
 | succ k =>
  obtain ⟨d,h1,h2⟩:=T4 h;simp only [r8,aAa,h1] at h;obtain ⟨_,h⟩:=h;cases d<;>first|(exact (aBa h).elim)|skip
  ·exact ⟨_,h1⟩
  ·rename_i fs
   have h:n7 (r8 P k) fs.toList 0 (.hole t)=true:=h;cases hf:fs.toList<;>(rw [hf] at h; simp [n7] at h)
theorem Rx {P:Program} {k:Nat} {T:TypeId} {t:Ty} (h:r8 P k T (.D4 t)=true):∃ e,P.underlying T=some (.slice e):=by
 cases k with
 | zero=>simp [r8] at h
 | succ k =>
  obtain ⟨d,h1,h2⟩:=T4 h;simp only [r8,aAa,h1] at h;obtain ⟨_,h⟩:=h;cases d<;>first|(exact (aBa h).elim)|skip
  ·exact ⟨_,h1⟩
  ·rename_i fs
   have h:n7 (r8 P k) fs.toList 0 (.D4 t)=true:=h;cases hf:fs.toList<;>(rw [hf] at h; simp [n7] at h)
section
variable {E:Env} {B:F5} {S S':Nat->Prop} {ι:Ix} {s:St} {a:Act} {w:World} {hp:List (Nat×g9)} {H H':Array Go.Obj}
theorem Ut {P:Program} {e:TypeId} {t:Ty} {n d:Nat} (hT:r8 P n e t=true)
  (hA:∀ {cs cs':List Value} {x y:t.den},i6 H S t [] cs x->i6 H' S' t [] cs' y->(Op.equalIn d e (s5 t cs) (s5 t cs')).run P w=.ok (eqD t x y) w) {cs cs':List Value} :
  ∀ {l l':List t.den} {k:Nat},l.length=l'.length->j5 (i6 H S t) t.size [] (cs.drop (k*t.size)) l->j5 (i6 H' S' t) t.size [] (cs'.drop (k*t.size)) l' ->
   (Op.eqItems d e t.size cs.toArray cs'.toArray (List.range' k l.length)).run P w=.ok (eqD.Bx (eqD t) l l') w
 | [],[],k,_,_,_=>by simp [Op.eqItems,eqD.Bx]
 | [],_::_,_,h,_,_=>by cases h
 | _::_,[],_,h,_,_=>by cases h
 | x::l,y::l',k,hl,⟨O1,O2,e1,h1,h2⟩,⟨O3,O4,e2,h3,h4⟩=>by
  obtain ⟨rfl,rfl⟩:=aBi.1 e1.symm;obtain ⟨rfl,rfl⟩:=aBi.1 e2.symm;have p1:=zj (w:=w) hT h1;have p2:=zj (w:=w) hT h3;have e3:=hA h1 h3;have hk:k*t.size+t.size=(k+1)*t.size:=by rw [aBg]
  rw [aBm,hk] at h2 h4;have ih:=Ut hT hA (l:=l) (l':=l') (k:=k+1) (by simpa using hl) h2 h4;simp only [aAh,aGk,Op.eqItems,Sem.run_bind,p1,p2,Result.andThen,e3,eqD.Bx];cases hq:eqD t x y with
  | true=>simpa using ih
  | false=>simp
theorem run_eq {P:Program}:∀ (t:Ty),
  (∀ {n m d:Nat} {T:TypeId} {cs cs':List Value} {x y:t.den},r8 P n T t=true->Z5 P m T t=true->t.ht<d->i6 H S t [] cs x->i6 H' S' t [] cs' y->(Op.equalIn d T (s5 t cs) (s5 t cs')).run P w=.ok (eqD t x y) w) /\
  (∀ {n m d off:Nat} {fs:List Field} {cs cs':List Value} {x y:t.den},n7 (r8 P n) fs off t=true->yD (Z5 P m) fs t=true->t.ht<=d->i6 H S t [] ((cs.drop off).take t.size) x->i6 H' S' t [] ((cs'.drop off).take t.size) y ->
   (Op.eqFields d cs.toArray cs'.toArray fs).run P w=.ok (eqD t x y) w):=by
 intro t;have strct:∀ {t:Ty},t.agg=true->(∀ n u,t≠.arr n u) ->
  (∀ {n m d off:Nat} {fs:List Field} {cs cs':List Value} {x y:t.den},n7 (r8 P n) fs off t=true->yD (Z5 P m) fs t=true->t.ht<=d->i6 H S t [] ((cs.drop off).take t.size) x->i6 H' S' t [] ((cs'.drop off).take t.size) y ->
   (Op.eqFields d cs.toArray cs'.toArray fs).run P w=.ok (eqD t x y) w) ->
  (∀ {n m d:Nat} {T:TypeId} {cs cs':List Value} {x y:t.den},r8 P n T t=true->Z5 P m T t=true->t.ht<d->i6 H S t [] cs x->i6 H' S' t [] cs' y->(Op.equalIn d T (s5 t cs) (s5 t cs')).run P w=.ok (eqD t x y) w):=by
  intro t dv mi hB n m d T cs cs' x y hT hq hd h1 h2;obtain ⟨fs,k',g1,g2⟩:=MA hT dv mi;have gD:P.underlying T=some (.struct (P.fieldsOf T)):=by simp [Program.fieldsOf,g1]
  have gm:P.fieldsOf T=fs:=by rw [g1] at gD; cases gD; rfl
  cases m with
  | zero=>simp [Z5] at hq
  | succ m =>
   have hq:(!P.stoodInHeld T && yD (Z5 P m) fs.toList t)=true:=by
    simp only [Z5,g1] at hq;exact hq
   simp only [aAa,aAu] at hq;obtain ⟨d,rfl⟩:∃ e,d=e+1:=⟨d - 1,by omega⟩;have hv:∀ cs,s5 t cs=.agg cs.toArray:=by intro cs; simp [s5,dv]
   rw [hv,hv,run_equalIn_struct w d T _ _ gD hq.1,gm];refine hB g2 hq.2 (by omega) ?_ ?_
   ·rw [aBz,aAw (by rw [h1.length]; exact aAk _)]; exact h1
   ·rw [aBz,aAw (by rw [h2.length]; exact aAk _)]; exact h2
 induction t with
 | int k =>
  refine ⟨?_,by intro n m d off fs cs cs' x y h; cases fs<;>simp [n7] at h⟩;rintro n m d T cs cs' x y hT _ hd ⟨_,rfl,_⟩ ⟨_,rfl,_⟩;obtain ⟨d,rfl⟩:∃ e,d=e+1:=⟨d - 1,by omega⟩;exact run_equalIn_int w d T k k x y (zk hT)
 | bool =>
  refine ⟨?_,by intro n m d off fs cs cs' x y h; cases fs<;>simp [n7] at h⟩;rintro n m d T cs cs' x y hT _ hd ⟨_,rfl⟩ ⟨_,rfl⟩;obtain ⟨d,rfl⟩:∃ e,d=e+1:=⟨d - 1,by omega⟩;exact run_equalIn_bool (a49 hT) d x y
 | str =>
  refine ⟨?_,by intro n m d off fs cs cs' x y h; cases fs<;>simp [n7] at h⟩;rintro n m d T cs cs' x y hT _ hd ⟨_,rfl,_⟩ ⟨_,rfl,_⟩;obtain ⟨d,rfl⟩:∃ e,d=e+1:=⟨d - 1,by omega⟩;have:=run_equalIn_string w d T (⟨(x:yY).toArray⟩:ByteArray) ⟨(y:yY).toArray⟩ (Y9 hT);refine Eq.trans this ?_;rw [ByteArray.toList_eq,ByteArray.toList_eq];congr 1;show ((x:yY) == y)=decide ((x:yY)=y);rw [Bool.eq_iff_iff]; simp
 | unit =>
  have hB:∀ {n m d off:Nat} {fs:List Field} {cs cs':List Value} {x y:Ty.unit.den},n7 (r8 P n) fs off .unit=true->yD (Z5 P m) fs .unit=true->Ty.unit.ht<=d->i6 H S .unit [] ((cs.drop off).take Ty.unit.size) x->i6 H' S' .unit [] ((cs'.drop off).take Ty.unit.size) y ->
   (Op.eqFields d cs.toArray cs'.toArray fs).run P w=.ok (eqD .unit x y) w:=by
   intro n m d off fs cs cs' x y h _ _ _ _;cases fs with
   | nil=>simp [Op.eqFields,eqD]
   | cons f fs=>simp [n7] at h
  exact ⟨strct rfl (by simp) hB,hB⟩
 | pair p q ihp ihq =>
  have hB:∀ {n m d off:Nat} {fs:List Field} {cs cs':List Value} {x y:(Ty.pair p q).den},n7 (r8 P n) fs off (.pair p q)=true->yD (Z5 P m) fs (.pair p q)=true->(Ty.pair p q).ht<=d ->
    i6 H S (.pair p q) [] ((cs.drop off).take (Ty.pair p q).size) x->i6 H' S' (.pair p q) [] ((cs'.drop off).take (Ty.pair p q).size) y->(Op.eqFields d cs.toArray cs'.toArray fs).run P w=.ok (eqD (.pair p q) x y) w:=by
   rintro n m d off fs cs cs' x y hf hq hd ⟨O1,O2,e1,h1,h2⟩ ⟨O3,O4,e2,h3,h4⟩;obtain ⟨rfl,rfl⟩:=aBi.1 e1.symm;obtain ⟨rfl,rfl⟩:=aBi.1 e2.symm;cases fs with
   | nil=>simp [n7] at hf
   | cons f fs =>
    simp only [n7,aAa] at hf;simp only [yD,aAa] at hq;obtain ⟨⟨⟨⟨g1,_⟩,g3⟩,g4⟩,g5⟩:=hf;have g1:f.offset=off:=aAe g1;have tH:p.ht+1<=d/\q.ht<=d:=by
     have:max (p.ht+1) q.ht<=d:=hd;omega
    have aW:(Ty.pair p q).size=p.size+q.size:=rfl;rw [aCs,aCb (by omega)] at h1 h3;rw [aDk,aBm,aW,aCv] at h2 h4;rw [<- g1] at h1 h3;have p1:=zj (w:=w) g3 h1;have p2:=zj (w:=w) g3 h3;have e3:=ihp.1 (d:=d) g3 hq.1 (by omega) h1 h3;have ih:=ihq.2 (d:=d) (cs:=cs) (cs':=cs') g5 hq.2 tH.2 h2 h4;have hn:f.name≠ "_":=by simpa using g4
    simp only [Op.eqFields,hn,ne_eq,not_false_eq_true,if_true,Sem.run_bind,p1,p2,Result.andThen,e3,eqD];cases hh:eqD p x.1 y.1 with
    | true=>simpa using ih
    | false=>simp
  exact ⟨strct rfl (by simp) hB,hB⟩
 | arr k t ih =>
  refine ⟨?_,by intro n m d off fs cs cs' x y h; cases fs<;>simp [n7] at h⟩;rintro n m d T cs cs' x y hT hq hd ⟨h1,h2⟩ ⟨h3,h4⟩;obtain ⟨e,k',g1,g2,g3⟩:=yw hT;cases m with
  | zero=>simp [Z5] at hq
  | succ m =>
   have hq:Z5 P m e t=true:=by simpa only [Z5,g1] using hq
   obtain ⟨d,rfl⟩:∃ e,d=e+1:=⟨d - 1,by omega⟩;obtain ⟨i,hi,tE,_⟩:=Y3 g3;have hc:P.cellsOf e=t.size:=by simp [Program.cellsOf,hi,tE]
   have hv:∀ cs,s5 (.arr k t) cs=.agg cs.toArray:=λ cs=>rfl;have kI:t.ht<d:=by have:t.ht+1<d+1:=hd; omega
   rw [hv,hv,run_equalIn_array w d _ _ g1 hi,hc,aEs];have:=Ut (w:=w) (cs:=cs) (cs':=cs') (l:=x) (l':=y) (k:=0) g3 (λ a b=>ih.1 g3 hq kI a b) (by rw [h1,h3]) (by simpa using h2) (by simpa using h4);rw [h1] at this;exact this
 | fn f =>
  refine ⟨?_,by intro n m d off fs cs cs' x y h; cases fs<;>simp [n7] at h⟩;rintro n m d T cs cs' x y hT hq;obtain ⟨_,_,_,g1⟩:=PF hT;cases m<;>simp [Z5,g1] at hq
 | map o a b =>
  refine ⟨?_,by intro n m d off fs cs cs' x y h; cases fs<;>simp [n7] at h⟩;rintro n m d T cs cs' x y hT hq;obtain ⟨_,_,_,g1,_⟩:=Ke hT;cases m<;>simp [Z5,g1] at hq
 | box o g t =>
  refine ⟨?_,by intro n m d off fs cs cs' x y h; cases fs<;>simp [n7] at h⟩;rintro n m d T cs cs' x y hT hq;cases g with
  | none =>
   obtain ⟨_,_,g1,_⟩:=Kd hT;cases m<;>simp [Z5,g1] at hq
  | some f =>
   obtain ⟨_,_,_,g1⟩:=SX hT;cases m<;>simp [Z5,g1] at hq
 | d0 o t ih =>
  refine ⟨?_,by intro n m d off fs cs cs' x y h; cases fs<;>simp [n7] at h⟩;rintro n m d T cs cs' x y hT hq;obtain ⟨e,k',g1,_⟩:=H9 hT;cases m<;>simp [Z5,g1] at hq
 | hole t ih =>
  refine ⟨?_,by intro n m d off fs cs cs' x y h; cases fs<;>simp [n7] at h⟩;rintro n m d T cs cs' x y hT hq;obtain ⟨e,g1⟩:=SJ hT;cases m<;>simp [Z5,g1] at hq
 | D4 t ih =>
  refine ⟨?_,by intro n m d off fs cs cs' x y h; cases fs<;>simp [n7] at h⟩;rintro n m d T cs cs' x y hT hq;obtain ⟨e,g1⟩:=Rx hT;cases m<;>simp [Z5,g1] at hq
theorem RC (hE:E2 E B) (h:RS B S ι s a w) {o:Oper} {op:BinOp} {T T':TypeId} {x y:Operand} (ho:o.op=.binOp op T x y T') {t u:Ty} {p:t.den} {q:u.den} (hx:s.ev x=.val t p) (hy:s.ev y=.val u q):G7 E.P B o a w (eqA E T op t p u q s):=by
 unfold eqA
 split
 ·rename_i hu
  subst hu;have core:(u.agg && K0 E T u && Z5 E.P 100 T u && !(E.P.eqGuardType E.P.depth T) && Nat.blt u.ht 100)=true ->
    ∃ cs cs',a.eval x=.agg cs/\a.eval y=.agg cs'/\(∀ op,(eqGuard op T x y (a.eval x) (a.eval y)).run E.P w=.ok () w)/\(Op.equalIn 10000 T (.agg cs) (.agg cs')).run E.P w=.ok (eqD u p q) w:=by
   intro hc;simp only [aAa,aAu,aDf] at hc;obtain ⟨⟨⟨⟨c1,c2⟩,c3⟩,c4⟩,c5⟩:=hc;obtain ⟨cs,e1,h1⟩:=D8 h hx;obtain ⟨cs',e2,h2⟩:=D8 h hy;have hv:∀ cs,s5 u cs=.agg cs.toArray:=by intro cs; simp [s5,c1]
   have e1:a.eval x=.agg cs.toArray:=by rw [hv] at e1; simpa using e1
   have e2:a.eval y=.agg cs'.toArray:=by rw [hv] at e2; simpa using e2
   refine ⟨_,_,e1,e2,λ op=>by rw [e1,e2]; exact run_eqGuard_agg w op T x y _ _ c4,?_⟩;have:=(run_eq (P:=E.P) (w:=w) (H:=w.heap) (H':=w.heap) (S:=S) (S':=S) u).1 (d:=10000) (E5 hE c2) c3 (by omega) h1 h2
   rwa [hv,hv] at this
  split
  ·rename_i hc
   obtain ⟨cs,cs',e1,e2,hg,he⟩:=core hc;refine D0.value (val:=.bool (eqD u p q)) ?_ h VX.bool;rw [V3 ho (hg .eql) (r:=.ok (.bool (eqD u p q)) w)]; rfl;rw [e1,e2,run_eql_struct,he]; rfl
  ·rename_i hc
   obtain ⟨cs,cs',e1,e2,hg,he⟩:=core hc;refine D0.value (val:=.bool (!(eqD u p q))) ?_ h VX.bool;rw [V3 ho (hg .neq) (r:=.ok (.bool (!(eqD u p q))) w)]; rfl;rw [e1,e2,run_neq_struct,he]; rfl
  ·trivial
 ·trivial
theorem c1l (hE:E2 E B) (h:RS B S ι s a w) {o:Oper} {op:BinOp} {T T':TypeId} {x y:Operand} (ho:o.op=.binOp op T x y T') {i:Nat} {p:List Step} (ex:s.ev x=.ptr i p) (ey:s.ev y=.raw (.pointer none)):G7 E.P B o a w (Al E T op s):=by
 have hx:=h.ev x;have hy:=h.ev y;rw [ex] at hx; rw [ey] at hy;obtain ⟨e,b,off,-,-,-,hx⟩:=hx;have hx:a.eval x=.pointer (some ⟨b,off,none⟩):=by simpa using hx
 have hy:a.eval y=.pointer none:=by
  have hy:[a.eval y]=[Value.pointer none]:=hy;simpa using hy
 have hg:(eqGuard op T x y (a.eval x) (a.eval y)).run E.P w=.ok () w:=by rw [hx,hy]; cases op<;>rfl
 have run:∀ {o':Bool} {t:Ty} {n:Nat},look T E.tt=some ⟨.box o' none t,n⟩->(Op.equal T (.pointer (some ⟨b,off,none⟩)) (.pointer none)).run E.P w=.ok false w:=by
  intro o' t n hl;obtain ⟨e',k',h1,-⟩:=Kd (s7 (B:=B) hE hl);have key:∀ d,(Op.equalIn (d+1) T (.pointer (some ⟨b,off,none⟩)) (.pointer none)).run E.P w=.ok false w:=λ d=>by simp [Op.equalIn,x8 h1]
  exact key 9999
 unfold Al
 split
 ·rename_i hl
  exact D0.value (by rw [V3 ho hg (r:=.ok (.bool false) w)]; rfl; rw [hx,hy]; simp [binOp,run hl]) h VX.bool
 ·rename_i hl
  exact D0.value (by rw [V3 ho hg (r:=.ok (.bool true) w)]; rfl; rw [hx,hy]; simp [binOp,run hl]) h VX.bool
 ·trivial
theorem c2L (hE:E2 E B) (h:RS B S ι s a w) {o:Oper} {op:BinOp} {T T':TypeId} {x y:Operand} (ho:o.op=.binOp op T x y T'):G7 E.P B o a w (xm E T op (s.ev x) (s.ev y) s):=by
 unfold xm
 split
 ·rename_i e1 e2; exact c1l hE h ho e1 e2
 ·rename_i e1 e2; exact RC hE h ho e1 e2
 ·rename_i e1 e2; exact RC hE h ho e1 e2
 ·exact c2M hE h ho
end
end Go.Ex
namespace Go.Ex
section
variable {E:Env} {B:F5} {S S':Nat->Prop} {ι:Ix} {s:St} {a:Act} {w:World} {hp:List (Nat×g9)} {H H':Array Go.Obj}
theorem WM (h:HS B S ι s.hp w) {v:AV} {val:Value} (hv:VX w.heap S ι s.hp v [val]) {k u:Ty} {m:Option (List (k.den×u.den))} (hm:v.mp s=some ⟨(k,u),m⟩) :
  (m=none/\val=.map none)\/∃ l b es ck,m=some l/\val=.map (some b)/\w.heap[b]?=some (.map es ck)/\vE (i6 w.heap S k []) (i6 w.heap S u []) k u es.toList l:=by
 have key:∀ {o:Bool} {O:List Nat} {cs:List Value},i6 w.heap S (.map o k u) O cs m->val=s5 (.map o k u) cs->(m=none/\val=.map none)\/∃ l b es ck,m=some l/\val=.map (some b)/\w.heap[b]?=some (.map es ck)/\vE (i6 w.heap S k []) (i6 w.heap S u []) k u es.toList l:=by
  rintro o O cs (⟨h1,_,rfl⟩|⟨l,b,es,ck,h1,rfl,h3,h4,_⟩) e
  ·exact .inl ⟨h1,by simpa [s5,Ty.agg] using e⟩
  ·exact .inr ⟨l,b,es,ck,h1,by simpa [s5,Ty.agg] using e,h3,h4⟩
 unfold AV.mp at hm;split at hm
 ·cases hm
  obtain ⟨cs,e,hR⟩:=hv;exact key hR (by simpa using e)
 ·rename_i i p
  split at hm
  ·rename_i o k' v' m' cT
   cases hm;obtain ⟨e,u',y,cs,k1,k2,k3,k4,k5⟩:=hv;have hg:=J5 k1 cT;rw [k3] at hg; cases hg;obtain ⟨O2,m1,m2,m3⟩:=I2 h k1 k2 k3 k4;exact key m3 (by simpa using k5)
  ·cases hm
 ·cases hm
theorem b5u (hE:E2 E B) (h:RS B S ι s a w) {o:Oper} {T:TypeId} {x y:Operand} {ok:Bool} (ho:o.op=.lookup T x y ok):G7 E.P B o a w (Jp E T (s.ev x) (s.ev y) ok s):=trivial
theorem b5t (_hE:E2 E B) (h:RS B S ι s a w) {o:Oper} {T:TypeId} {r:Option Operand} (ho:o.op=.makeMap T r):G7 E.P B o a w (n6 E o s):=by
 unfold n6; rw [ho]; trivial
theorem b5G (hE:E2 E B) (h:RS B S ι s a w) {o:Oper} {c:Call} (ho:o.op=.call c) (hc:c.callee=.builtin .append) {x y:Operand} {T U:TypeId} (ha:c.args.toList=[x,y]) (fi:c.argTypes.toList=[T,U])
  {kd:IntKind} (hU:E.P.underlying U=some (.int kd)):G7 E.P B o a w (AR E T (s.ev x) (s.ev y) o.dst s):=by
 unfold AR
 split
 ·rename_i t0 bts d k n hT hd hx hy
  refine G7.Js (λ v s' hl hp=>?_);have de:@LE.le Int Int.instLEInt 0 n:=hp.1;obtain ⟨N,rfl⟩:∃ N:Nat,n=((N:Nat):Int):=⟨Int.toNat n,(aEb de).symm⟩;have cJ:N<=140737488355328:=by have:@LE.le Int Int.instLEInt (N:Int) 140737488355328:=hp.2.1; omega
  have ig:N*t0.wb<=140737488355328:=by
   have:@LE.le Int Int.instLEInt ((N:Int)*(t0.wb:Nat)) 140737488355328:=hp.2.2;rw [<- Int.natCast_mul] at this;omega
  obtain ⟨et,k2,h1,h2,h3⟩:=H9 (s7 hE hT);obtain ⟨i,hi,eF,lz⟩:=Y3 h3;have mq:=Mb h3 hi;have ew:a.eval x=.slice none 0 0:=by simpa using (show [a.eval x]=[Value.slice none 0 0] from D8 h hx)
  obtain ⟨dN,_⟩:=VX.J6 (D8 h hy);have aF:c.args=#[x,y]:=by rw [<- ha]
  have eG:c.argTypes=#[T,U]:=by rw [<- fi]
  have eg:=h.B9 (g:=[]) rfl;have e0:List.replicate (Int.toNat (N:Int)) t0.w5=List.replicate N t0.w5:=rfl;by_cases h0:N=0
  ·subst h0
   have aP:(execOp a.eval o).run E.P w=.ok (.value (.slice none 0 0)) w:=by
    have:IntKind.i64.wrap 0=0:=rfl;simp [execOp,ho,resolve,hc,invoke,builtin,aF,eG,Builtin.append_,x8 h1,x8 hU,ew,dN,run_sizeOf h3,asInt,asIntOf,this,typeInfo,hi,Result.andThen]
   exact D0.lay hl aP (O:=[]) (cs:=[.slice none 0 0]) (by simp [s5,Ty.agg]) (.inl ⟨rfl,⟨none,0,rfl,λ _=>rfl⟩,rfl⟩) eg H2.nil
  ·have hr:=Lib.run_append_grow_zeros (P:=E.P) w T U o.type et i (s5 t0 (zc t0)) k kd h1 hU hi lz none 0 0 [] (run_firstCells_none w.drew _ 0 0 0) N (by omega) (by rw [eF]; exact h2) (by omega) (by omega) (by rw [mq]; omega) (by rw [mq]; exact growslice_fits (by omega) (by simpa using ig))
   simp only [aEz] at hr;have kG:=grownCap_ge w N 0 et;have gg:=grownCap_le_maxLen w N 0 et (by unfold maxLen; omega);generalize lF:grownCap w N 0 et=gc at hr kG gg;have jB:(s5 t0 (zc t0)).cells=(zc t0).toArray:=(i6.w5 (H:=w.heap) (S:=S) t0).cells;have cH:(([]:List Value).toArray++Builtin.zeroCells (s5 t0 (zc t0)).cells N++Builtin.zeroCells (s5 t0 (zc t0)).cells (gc - N))=((List.replicate N (zc t0)).flatten++(List.replicate (gc - N) (zc t0)).flatten).toArray:=by
    rw [jB,Gq,Gq]; simp
   rw [cH] at hr;have jR:((List.replicate N (zc t0)).flatten).length=N*t0.size:=by simp [T5]
   have bn:G2 [] w (w.drew.alloc (.cells ((List.replicate N (zc t0)).flatten++(List.replicate (gc - N) (zc t0)).flatten).toArray et)):=G2.trans G2.drew (G2.push _) (by simp);obtain ⟨O',q1,q2,q3⟩:=Fu (w:=w) (t:=t0) (l:=List.replicate N t0.w5) (cap:=gc) h.hs.slt (O:=[]) (cells:=(List.replicate N (zc t0)).flatten++(List.replicate (gc - N) (zc t0)).flatten) (by
    rw [aCc,aDd jR]; exact j5.Ie N) (by rw [aCc]; exact kG) gg (by
    simp only [aAd,jR,aHy,List.map_replicate,aHg,T5];rw [<- aBp]; exact aAm _ (by omega)) et (by simp) (w':=w.drew.alloc (.cells ((List.replicate N (zc t0)).flatten++(List.replicate (gc - N) (zc t0)).flatten).toArray et)) rfl (.inl rfl)
   rw [aCc] at q1;have aP:(execOp a.eval o).run E.P w=.ok (.value (.slice (some ⟨w.heap.size,0,none⟩) N gc)) (w.drew.alloc (.cells ((List.replicate N (zc t0)).flatten++(List.replicate (gc - N) (zc t0)).flatten).toArray et)):=by
    simp [execOp,ho,resolve,hc,invoke,builtin,aF,eG,ew,dN,hr]
   have aW:w.heap.size<(w.drew.alloc (.cells ((List.replicate N (zc t0)).flatten++(List.replicate (gc - N) (zc t0)).flatten).toArray et)).heap.size:=by
    show w.heap.size<(w.heap.push _).size;simp
   exact D0.lay hl aP (cs:=[.slice (some ⟨w.heap.size,0,none⟩) N gc]) (by simp [s5,Ty.agg]) q1 (eg.vC H2.nil bn) (H2.new eg H2.nil bn aW q2 (q3 aAy))
 ·trivial
theorem vE.length {α β:Type} {R:List Value->α->Prop} {R':List Value->β->Prop} {t u:Ty}:∀ {es:List MapEntry} {l:List (α×β)},vE R R' t u es l->es.length=l.length
 | [],l,h=>by rw [show l=[] from h]; rfl
 | _::es,_,⟨x,y,l',cs,ds,rfl,_,_,_,_,h⟩=>by simp [vE.length h]
theorem vE.set {α β:Type} {R:List Value->α->Prop} {R':List Value->β->Prop} {t u:Ty} {e:MapEntry} {x:α} {y:β} {cs ds:List Value} (h1:e.key=s5 t cs) (h2:R cs x) (h3:e.val=s5 u ds) (h4:R' ds y) :
  ∀ {es:List MapEntry} {l:List (α×β)} {i:Nat},i<es.length->vE R R' t u es l->vE R R' t u (es.set i e) (l.set i (x,y))
 | [],_,_,hi,_=>by simp at hi
 | _::es,_,0,_,⟨x',y',l',c,d,rfl,g1,g2,g3,g4,h⟩=>⟨x,y,l',cs,ds,rfl,h1,h2,h3,h4,h⟩
 | _::es,_,i+1,hi,⟨x',y',l',c,d,rfl,g1,g2,g3,g4,h⟩=>⟨x',y',l'.set i (x,y),c,d,rfl,g1,g2,g3,g4,vE.set h1 h2 h3 h4 (by simpa using hi) h⟩
theorem c00 (hE:E2 E B) (h:RS B S ι s a w) {o:Oper} {T:TypeId} {m x y:Operand} (ho:o.op=.mapUpdate T m x y):G7 E.P B o a w (GN E T (s.ev m) (s.ev x) (s.ev y) s):=trivial
end
end Go.Ex
namespace Go.Ex
section
variable {E:Env} {B:F5} {S S':Nat->Prop} {ι:Ix} {s:St} {a:Act} {w:World} {hp:List (Nat×g9)} {H H':Array Go.Obj}
theorem PL:∀ {n:Nat} {l v:AV} {us:List Value},n6.nth n l=some v->VX H S ι hp l us->∃ u,us[n]?=some u/\VX H S ι hp v [u]
 | 0,l,v,us,h,hl=>by
  cases l<;>simp only [n6.nth] at h<;>first|cases h|skip
  obtain ⟨u,us',rfl,ha,hb⟩:=hl;exact ⟨u,rfl,ha⟩
 | n+1,l,v,us,h,hl=>by
  cases l<;>simp only [n6.nth] at h<;>first|cases h|skip
  obtain ⟨u,us',rfl,ha,hb⟩:=hl;obtain ⟨u2,e,h2⟩:=PL h hb;exact ⟨u2,by simpa using e,h2⟩
theorem UI (h:RS B S ι s a w) {o:Oper} {c:Call} (ho:o.op=.call c) {P:Program} {x:Operand} {l:List Operand} (ha:c.args.toList=x::l) {k:IntKind} {m:Int} (hx:s.ev x=.val (.int k) m) :
  (c.callee=.builtin .max->G7 P B o a w (foldI s k (λ a b=>if a<b then b else a) m l))/\(c.callee=.builtin .min->G7 P B o a w (foldI s k (λ a b=>if b<a then b else a) m l)):=by
 obtain ⟨gy,bx⟩:=VX.J6 (D8 h hx);have aF:c.args.map a.eval=(a.eval x::l.map a.eval).toArray:=by
  apply aGz;simp [ha]
 constructor
 ·intro hc
  cases hl:foldI s k (λ a b=>if a<b then b else a) m l with
  | fail y=>trivial
  | H3 p v s'=>exact absurd hl KT
  | ok v s' =>
   obtain ⟨n,rfl,rfl,hn,aP⟩:=Ly (P:=P) (w:=w) h (m2:=Builtin.max2) (by intro x y hx hy; split<;>assumption) (by intro x y; simp [Builtin.max2]) bx hl;refine D0.value (val:=.int k n) ?_ h (VX.int hn);simp [execOp,ho,resolve,hc,invoke,builtin,aF,gy,Builtin.max_,aP]
 ·intro hc
  cases hl:foldI s k (λ a b=>if b<a then b else a) m l with
  | fail y=>trivial
  | H3 p v s'=>exact absurd hl KT
  | ok v s' =>
   obtain ⟨n,rfl,rfl,hn,aP⟩:=Ly (P:=P) (w:=w) h (m2:=Builtin.min2) (by intro x y hx hy; split<;>assumption) (by intro x y; simp [Builtin.min2]) bx hl;refine D0.value (val:=.int k n) ?_ h (VX.int hn);simp [execOp,ho,resolve,hc,invoke,builtin,aF,gy,Builtin.min_,aP]
theorem Rb {i:Nat} {p:List Step} {lo:Nat} {t:Ty} {m:List t.den} {s':St} (hf:wB s i p lo t m=some s'):t.shared=true:=by
 unfold wB at hf;split at hf
 ·split at hf
  ·split at hf
   ·split at hf
    ·split at hf
     ·rename_i hc
      simp only [aAa] at hc;exact hc.1
     ·cases hf
    ·cases hf
   ·cases hf
  ·cases hf
 ·cases hf
theorem Ue {T:TypeId} {x y:AV} {p:Prop} {v:AV} {s':St} (hI:xB E T x y s=.H3 p v s'):∃ i lo hi q t0 bts t m l,x=.sub i [] lo hi/\look T E.tt=some ⟨.d0 q t0,bts⟩/\y.vJ s t0=some (⟨t,m⟩,[])/\s.obj i=some (.own (.d0 true t) l) /\
  wB s i [] hi.toNat t m=some s'/\K0 E T (.d0 true t)=true/\p=(hi+(List.length m:Int)<=(List.length l:Int))/\v=.sub i [] lo (hi+(List.length m:Int)):=by
 unfold xB at hI;split at hI
 ·rename_i i lo hi q t0 bts hT
  split at hI
  ·rename_i t m u l cw aT
   split at hI
   ·rename_i s1 hf bB hd
    cases hI;obtain rfl:=of_decide_eq_true hd;exact ⟨i,lo,hi,q,t0,bts,t,m,l,rfl,hT,cw,aT,hf,bB,rfl,rfl⟩
   ·cases hI
  ·cases hI
 ·cases hI
theorem b9w {T:TypeId} {x y:AV} {r:Prop×AV×St} (hI:(xB E T x y s).get=some r):xB E T x y s=.H3 r.1 r.2.1 r.2.2:=by
 unfold xB at hI ⊢
 repeat' split at hI
 all_goals first|(cases hI; done)|(cases hI; rfl)
theorem ZU {i:Nat} {lo:Nat} {t:Ty} {m l:List t.den} {s':St} (aT:s.obj i=some (.own (.d0 true t) l)) (hf:wB s i [] lo t m=some s'):s'=(s.vR i true).y9 i (.own (.d0 true t) (List.take lo l++m++List.drop (lo+m.length) l)):=by
 unfold wB at hf;rw [aT] at hf;simp only [g9.ty,g9.x,D6] at hf;rw [dif_pos trivial] at hf;simp only [w7,if_true] at hf;split at hf
 ·cases hf; rfl
 ·cases hf
theorem b5H (hE:E2 E B) (h:RS B S ι s a w) {o:Oper} {c:Call} (ho:o.op=.call c) (hc:c.callee=.builtin .append) {x y:Operand} {T U:TypeId} (ha:c.args.toList=[x,y]) (fi:c.argTypes.toList=[T,U])
  (hk:(∃ e',E.P.underlying U=some (.slice e'))\/E.P.underlying U=some .string):G7 E.P B o a w (xB E T (s.ev x) (s.ev y) s):=by
 cases hI:xB E T (s.ev x) (s.ev y) s with
 | fail why=>trivial
 | ok v s' =>
  exfalso;unfold xB at hI
  repeat' split at hI
  all_goals cases hI
 | H3 p v s' =>
  intro hp;obtain ⟨i,lo,hi,q,t0,bts,t,m,l,hx,hT,cw,aT,hf,bB,rfl,rfl⟩:=Ue hI;obtain ⟨Og,news,eM,hN,_,mw⟩:=Kj (P:=E.P) h hk cw (h.ev y);have cj:=Rb hf;have qW:Og=[]:=j5.Q8 (λ _ _ _ hr=>i6.Q8 cj hr) hN;subst qW;have jM:look i s.hp=some (.own (.d0 true t) l):=aT;obtain ⟨e,v',h1,h2,h3,h4,h5,h6⟩:=D8 h hx;rw [jM] at h1; cases h1;have fT:a.eval x=v':=by simpa using h3
  rcases h6 with ⟨t1,l1,a0,cap,k1,k2,k3,c0,A,k4,kA,k5,k6⟩|⟨n,t1,l1,b,off,k1,_,k3,_⟩
  rotate_left
  ·exfalso
   simp only [Loc,Place,C8,VR] at k3;simp at k3
  have k1':j9 (.d0 true t) l []=some ⟨.d0 true t1,l1⟩:=k1;rw [D6] at k1'; cases k1';have cR:l.length<=cap:=by
   obtain ⟨O2,_,_,m3⟩:=I2 h.hs jM h2 k1 k3;rcases m3 with ⟨_,_,hl⟩|⟨b2,o2,cap2,O',c1,c2,_⟩
   ·rw [hl]; exact aAr _
   ·simp only [aBc,Value.slice.injEq,and_true] at c1
    rw [c1.2.2]; exact c2
  have hp:hi+(m.length:Int)<=(l.length:Int):=hp;have ee:VX w.heap S ι s.hp (.sub i [] hi (hi+(m.length:Int))) [.slice (a0.map (·.add (hi.toNat*t.size))) m.length (cap - hi.toNat)] :=
   ⟨_,_,jM,h2,rfl,by omega,by omega,.inl ⟨t,l,a0,cap,k1,hp,k3,cap - hi.toNat,_,by rw [show (hi+(m.length:Int) - hi).toNat=m.length by omega],λ _=>rfl,by omega,by omega⟩⟩
  have eg:(AV.sub i [] hi (hi+(m.length:Int))).wW s=some (i,[],hi,hi+(m.length:Int)):=by
   simp only [AV.wW,St.part,aT,g9.ty,g9.x,D6]
  obtain ⟨w',ι',A',c',e1,cv,bO⟩:=Mt (P:=E.P) h ee eg (by omega) hN hf;simp only [Value.slice.injEq] at e1;obtain ⟨e1,_,_⟩:=e1;obtain ⟨et,k',g1,g2,g3⟩:=H9 (E5 hE bB);obtain ⟨inf,nF,eF,lz⟩:=Y3 g3;have aF:c.args=#[x,y]:=by rw [<- ha]
  have eG:c.argTypes=#[T,U]:=by rw [<- fi]
  have cy:(hi - lo).toNat+m.length<=c0:=by omega
  have aP:(Builtin.append_ #[T,U] o.type #[a.eval x,a.eval y]).run E.P w=.ok (.slice A ((hi - lo).toNat+m.length) c0) w':=by
   rw [fT,k4];rw [<- eF] at eM;by_cases iB:m=[]
   ·subst iB
    have de:news=[]:=hN.2;subst de;have sq:w'=w:=by
     rcases bO with ⟨_,_,rfl⟩|⟨A1,_,bO⟩
     ·rfl
     ·simpa [storeCells] using bO.symm
    subst sq;have js:=eM.len;have eT:=eM.cells;simp only [aCi,aDu] at js eT cy;rcases eM.kind with ⟨e',fp⟩|fp<;>cases A<;>simp [Builtin.append_,run_underlying g1,run_underlying fp,sizeOf,typeInfo,nF,js,eT,storeCells,cy]
   ·have iA:1<=m.length:=aCg.2 iB
    rcases bO with ⟨_,jQ,_⟩|⟨A1,kg,bO⟩
    ·exact absurd jQ iB
    subst kg;obtain ⟨O2,_,_,m3⟩:=I2 h.hs jM h2 k1 k3;rcases m3 with ⟨_,_,hl⟩|⟨b2,o2,cap2,O',c1,c2,_⟩
    ·have hl:l=[]:=hl
     rw [hl] at hp; simp at hp; omega
    ·simp only [aBc,Value.slice.injEq,and_true,true_and] at c1
     obtain ⟨rfl,rfl⟩:=c1;have hA:=kA (by omega);subst hA;simp only [aBh,aAc] at e1;subst e1;have gV:((⟨b2,o2,none⟩:Addr).add (lo.toNat*t.size)).add ((hi - lo).toNat*t.size)=(⟨b2,o2,none⟩:Addr).add (hi.toNat*t.size):=by
      rw [Addr.J0,Addr.J0,Addr.J0,aBo,<- aBp,show lo.toNat+(hi - lo).toNat=hi.toNat by omega]
     rw [<- gV] at bO;simp only [aBh];generalize vr:((⟨b2,o2,none⟩:Addr).add (lo.toNat*t.size))=AA at bO ⊢;rw [<- eF] at bO;rcases eM.kind with ⟨e',fp⟩|fp<;>simp [Builtin.append_,run_underlying g1,run_underlying fp,sizeOf,typeInfo,nF,eM.len,cy,eM.cells,bO]
  have fX:(execOp a.eval o).run E.P w=.ok (.value (.slice A ((hi - lo).toNat+m.length) c0)) w':=by
   simp [execOp,ho,resolve,hc,invoke,builtin,aF,eG,aP]
  intro next Q ku
  unfold Oper.wp;rw [fX];refine ku S ι' w' _ cv ?_;have me:=ZU aT hf;have mJ:s'.ev x=.sub i [] lo hi:=by
   cases x with
   | tmp n =>
    have rD:Nat.beq n K3=false:=by
     cases hb:Nat.beq n K3 with
     | true=>simp [St.ev,hb] at hx
     | false=>rfl
    have ou:(look n s.fr).getD .any=.sub i [] lo hi:=by
     have h9:=hx;simp only [St.ev,rD] at h9;exact h9
    show (match Nat.beq n K3 with|true=>AV.any|false=>s'.get n)=_;rw [rD];show (look n s'.fr).getD .any=_;rw [me];show (look n (mapA (AV.map (AV.ym i true)) s.fr)).getD .any=_;rw [R7];cases rH:look n s.fr with
    | none=>rw [rH] at ou; cases ou
    | some u9 =>
     rw [rH] at ou;have:u9=.sub i [] lo hi:=ou;subst this;simp [AV.map,AV.ym,AV.i8]
   | const v9=>exact absurd hx (by
     simp only [St.ev];intro h9;unfold ofConst at h9
     repeat' split at h9
     all_goals cases h9)
   | global g=>cases hx
   | func f=>cases hx
  have rp:=cv.ev x;rw [mJ,fT,k4] at rp;obtain ⟨e9,v9,r1,r2,r3,r4,r5,r6⟩:=rp;have nc:look i s'.hp=some (.own (.d0 true t) (List.take hi.toNat l++m++List.drop (hi.toNat+m.length) l)):=by
   rw [me];show look i (Ex.put i _ _)=_;rw [p9,if_pos rfl]
  rw [nc] at r1; cases r1;have ny:(List.take hi.toNat l++m++List.drop (hi.toNat+m.length) l).length=l.length:=by
   simp only [aAd,aAn,aAo]; omega
  rcases r6 with ⟨t2,l2,a2,cap2,q1,q2,q3,c2,A2,q4,qA,q5,q6⟩|⟨n,t2,l2,b,off,q1,_,q3,_⟩
  ·have q1':j9 (.d0 true t) (List.take hi.toNat l++m++List.drop (hi.toNat+m.length) l) []=some ⟨.d0 true t2,l2⟩:=q1
   rw [D6] at q1'; cases q1';have r3':Value.slice A (hi - lo).toNat c0=v9:=by simpa using r3
   rw [q4] at r3';simp only [Value.slice.injEq,true_and] at r3';obtain ⟨rfl,rfl⟩:=r3';exact ⟨_,_,nc,r2,rfl,r4,by omega,.inl ⟨t,_,a2,cap2,q1,by rw [ny]; exact hp,q3,c0,A,by rw [show (hi+(m.length:Int) - lo).toNat=(hi - lo).toNat+m.length by omega],qA,by omega,q6⟩⟩
  ·exfalso
   simp only [Loc,Place,C8,VR] at q3;simp at q3
theorem c2d (hE:E2 E B) (h:RS B S ι s a w) {o:Oper} {c:Call} (ho:o.op=.call c) (hc:c.callee=.builtin .copy) {x y:Operand} {T U:TypeId} (ha:c.args.toList=[x,y]) (hT:c.argTypes.toList=[T,U]):G7 E.P B o a w (AF E T (s.ev x) (s.ev y) s):=by
 unfold AF
 split
 ·rename_i i p lo hi t m hd fE
  split
  ·rename_i s' hf bB
   obtain ⟨et,k',g1,_,g3⟩:=H9 (E5 hE bB);obtain ⟨A2,c2,ey,hA⟩:=ES h.hs (h.ev y) fE;have hlen:=Jk h.hs (h.ev y) fE;have aF:c.args=#[x,y]:=by rw [<- ha]
   have eG:c.argTypes=#[T,U]:=by rw [<- hT]
   have cj:t.shared=true:=Rb hf;obtain ⟨e,t9,l9,A9,cap9,c9,A8,z1,z2,z3,z4,z5,z6,z7,z8,z9,Vm⟩:=Jj h (h.ev x) hd;have eM:∃ news,(Builtin.firstCells t.size (List.take (hi - lo).toNat m).length (a.eval y)).run E.P w=.ok news.toArray w/\j5 (i6 w.heap S t) t.size [] news (List.take (hi - lo).toNat m):=by
    rw [ey];rcases hA with rfl|⟨b,off,O',rfl,k1,k2,k3,k4⟩
    ·refine ⟨[],?_,by rw [aHa]; exact ⟨rfl,rfl⟩⟩
     rw [aHa];cases A2 with
     | none=>exact run_firstCells_none w t.size 0 0 c2
     | some A=>exact run_firstCells_some w t.size 0 A 0 c2 [] (by simp) (by simp)
    ·have hr:=c3U cj k3 (k:=(List.take (hi - lo).toNat m).length)
     have e9:List.take (List.take (hi - lo).toNat m).length m=List.take (hi - lo).toNat m:=by
      rw [aAn];rcases Nat.le_total (hi - lo).toNat m.length with h9|h9
      ·rw [aCb h9]
      ·rw [Nat.min_eq_right h9,aDp,aAw h9]
     rw [e9] at hr;refine ⟨_,run_firstCells_some w t.size _ _ _ c2 _ (j5.length (λ _ _ _ h=>h.length) hr) (λ j u hu=>?_),hr⟩;rw [Addr.J0];refine O8 (n:=List.length m*t.size) ?_;rw [aBq] at hu;split at hu
     ·exact hu
     ·cases hu
   obtain ⟨news,fx,ml⟩:=eM;have iA:((List.take (hi - lo).toNat m).length:Int)<=hi - lo:=by rw [aAn]; omega
   obtain ⟨w',ι',A',c',e1,cv,bO⟩:=Mt (P:=E.P) h (h.ev x) hd iA ml hf;have nm:Nat.min m.length (hi - lo).toNat=(List.take (hi - lo).toNat m).length:=by rw [aAn,Nat.min_comm]
   have aP:(Builtin.copy_ #[T,U] o.type #[a.eval x,a.eval y]).run E.P w=.ok (.int .i64 ((List.take (hi - lo).toNat m).length:Int)) w':=by
    have ln:=fx;rw [ey,aAn] at ln;rw [e1,ey];rcases bO with ⟨rfl,_,rfl⟩|⟨A,rfl,bO⟩
    ·simp only [Builtin.copy_]
     simp [x8 g1,Builtin.lenOf,nm,run_sizeOf g3,ln,goInt]
    ·simp [Builtin.copy_,x8 g1,Builtin.lenOf,nm,run_sizeOf g3,ln,bO,goInt]
   have fX:(execOp a.eval o).run E.P w=.ok (.value (.int .i64 ((List.take (hi - lo).toNat m).length:Int))) w':=by
    simp [execOp,ho,resolve,hc,invoke,builtin,aF,eG,aP]
   intro next Q ku
   unfold Oper.wp;rw [fX];refine ku S ι' w' _ cv (VX.int ?_);have:(List.take (hi - lo).toNat m).length<=m.length:=by rw [aAn]; omega
   unfold maxLen at hlen;unfold w4;simp only [IntKind.min,IntKind.max,IntKind.signed,IntKind.bits];simp;omega
  ·trivial
 ·trivial
theorem b9d (hE:E2 E B) (h:RS B S ι s a w) {o:Oper} {c:Call} (ho:o.op=.call c) (hc:c.callee=.builtin .clear) {x:Operand} {T:TypeId} (ha:c.args.toList=[x]) (hT:c.argTypes.toList=[T]):G7 E.P B o a w (AI E T (s.ev x) s):=by
 unfold AI
 split
 ·rename_i i p lo hi q t bts hd uj
  split
  ·rename_i s' hf
   obtain ⟨et,k',g1,_,g3⟩:=H9 (s7 hE uj);have aF:c.args=#[x]:=by rw [<- ha]
   have eG:c.argTypes=#[T]:=by rw [<- hT]
   obtain ⟨e,t9,l9,A9,cap9,c9,A8,z1,z2,z3,z4,z5,z6,z7,z8,z9,Vm⟩:=Jj h (h.ev x) hd;have pw:j5 (i6 w.heap S t) t.size [] (List.replicate (hi - lo).toNat (zc t)).flatten (List.replicate (hi - lo).toNat t.w5):=(i6.w5 (H:=w.heap) (S:=S) (.arr (hi - lo).toNat t)).2;obtain ⟨w',ι',A',c',e1,cv,bO⟩:=Mt (P:=E.P) h (h.ev x) hd (by rw [aCc]; omega) pw hf;have jB:(s5 t (zc t)).cells=(zc t).toArray:=(i6.w5 (H:=w.heap) (S:=S) t).cells;have aP:(Builtin.clear_ #[T] o.type #[a.eval x]).run E.P w=.ok (.tuple #[]) w':=by
    rw [e1];rcases bO with ⟨rfl,_,rfl⟩|⟨A,rfl,bO⟩
    ·simp [Builtin.clear_,x8 g1]
    ·by_cases h0:(hi - lo).toNat=0
     ·rw [h0] at bO ⊢
      simp [storeCells] at bO;subst bO;simp [Builtin.clear_,x8 g1]
     ·obtain ⟨n,hn⟩:∃ n,(hi - lo).toNat=n+1:=⟨(hi - lo).toNat - 1,by omega⟩
      rw [hn] at bO ⊢;simp [Builtin.clear_,x8 g1,CJ g3,jB,Gq,bO]
   have fX:(execOp a.eval o).run E.P w=.ok (.value (.tuple #[])) w':=by
    simp [execOp,ho,resolve,hc,invoke,builtin,aF,eG,aP]
   intro next Q ku
   unfold Oper.wp;rw [fX];exact ku S ι' w' _ cv rfl
  ·trivial
 ·trivial
theorem c2C (hE:E2 E B) (h:RS B S ι s a w) {o:Oper} {c:Call} (ho:o.op=.call c):G7 E.P B o a w (n6 E o s):=by
 unfold n6;rw [ho];simp only
 split
 ·rename_i f hf
  split
  ·rename_i g caps hg
   obtain ⟨us,he,cR⟩:=D8 h hg;exact Mq hE h ho hf (by simpa using he) cR
  ·rename_i g b hg
   refine G7.yF (λ hb=>?_);have hv:=IU h hg;rw [hb] at hv;exact Mq hE h ho hf (us:=[]) hv rfl
  ·rename_i g t y hg
   refine G7.yF (λ hy=>?_);obtain ⟨p,e,hp⟩:=Kf (D8 h hg) hy;exact Mq hE h ho hf (us:=[p]) (by simpa using e) ⟨p,[],rfl,hp,rfl⟩
  ·trivial
 ·rename_i hf
  split
  ·rename_i x T ha hT
   split
   ·rename_i q u y hx
    split
    ·rename_i hk
     obtain ⟨cs,e,hR⟩:=D8 h hx;obtain ⟨b,cap,hv,hl⟩:=CA hR;have e:a.eval x=s5 (.d0 q u) cs:=by simpa using e
     exact Ac hE h ho hf ha hT hk (.inl ⟨q,u,b,0,cap,rfl,by rw [e,hv],rfl⟩) hl
    ·trivial
   ·rename_i u y hx
    split
    ·rename_i hk
     obtain ⟨cs,e,hR⟩:=D8 h hx;obtain ⟨b,cap,hv,hl⟩:=PJ hR;have e:a.eval x=s5 (.D4 u) cs:=by simpa using e
     exact Ac hE h ho hf ha hT hk (.inl ⟨false,u,b,0,cap,rfl,by rw [e,hv],rfl⟩) hl
    ·trivial
   ·rename_i y hx
    split
    ·rename_i hk
     obtain ⟨hv,hl⟩:=VX.zS (D8 h hx);exact Ac hE h ho hf ha hT hk (.inr (.inl ⟨y,rfl,hv,rfl⟩)) (by unfold maxLen at hl; omega)
    ·trivial
   ·rename_i n u y hx
    split
    ·rename_i hk
     split
     ·rename_i hn
      exact Ac hE h ho hf ha hT hk (.inr (.inr ⟨u,rfl⟩)) hn
     ·trivial
    ·trivial
   ·rename_i d p hx
    split
    ·rename_i q u z cT
     split
     ·rename_i hk
      obtain ⟨e,u',y,cs,k1,k2,k3,k4,k5⟩:=D8 h hx;have hg:=J5 k1 cT;rw [k3] at hg; cases hg;obtain ⟨O2,m1,m2,m3⟩:=I2 h.hs k1 k2 k3 k4;obtain ⟨b,cap,hv,hl⟩:=CA m3;have k5:a.eval x=s5 (.d0 q u) cs:=by simpa using k5
      exact Ac hE h ho hf ha hT hk (.inl ⟨q,u,b,0,cap,rfl,by rw [k5,hv],rfl⟩) hl
     ·trivial
    ·rename_i u z cT
     split
     ·rename_i hk
      obtain ⟨e,u',y,cs,k1,k2,k3,k4,k5⟩:=D8 h hx;have hg:=J5 k1 cT;rw [k3] at hg; cases hg;obtain ⟨O2,m1,m2,m3⟩:=I2 h.hs k1 k2 k3 k4;obtain ⟨b,cap,hv,hl⟩:=PJ m3;have k5:a.eval x=s5 (.D4 u) cs:=by simpa using k5
      exact Ac hE h ho hf ha hT hk (.inl ⟨false,u,b,0,cap,rfl,by rw [k5,hv],rfl⟩) hl
     ·trivial
    ·rename_i k u z cT
     split
     ·rename_i hk
      intro hn;have hm:(s.ev x).mp s=some ⟨(k,u),z⟩:=by rw [hx]; simp only [AV.mp,cT]
      have aF:c.args=#[x]:=by rw [<- ha]
      have eG:c.argTypes=#[T]:=by rw [<- hT]
      obtain ⟨K,V,n,h1,_⟩:=Ke (E5 hE hk);refine D0.value (val:=.int .i64 (List.length (Option.getD (z:Option (List (k.den×u.den))) []))) ?_ h (VX.int (by unfold w4; simp [IntKind.min,IntKind.max,IntKind.signed,IntKind.bits]; omega));have aP:(Builtin.len_ #[T] o.type #[a.eval x]).run E.P w=.ok (.int .i64 (List.length (Option.getD (z:Option (List (k.den×u.den))) []))) w:=by
       rcases WM h.hs (h.ev x) hm with ⟨h2,h3⟩|⟨l,b,es,ck,h2,h3,h4,h5⟩
       ·subst h2
        rw [h3];simp [Builtin.len_,x8 h1,goInt]
       ·subst h2
        rw [h3];have oF:=MapKept.run_getObj_map (P:=E.P) h4;have hl:=vE.length h5;rw [aEx] at hl;simp [Builtin.len_,x8 h1,goInt,oF,hl]
      simp [execOp,ho,resolve,hf,invoke,builtin,aF,eG,aP]
     ·trivial
    ·trivial
   ·rename_i d p lo hi hx
    split
    ·rename_i u y hw
     split
     ·rename_i hk
      obtain ⟨A,c,e,_,hl,h0,h1,_⟩:=EY h.hs (D8 h hx) hw;have hm:=Jk h.hs (D8 h hx) (l:=y) hw;have:=Ac hE h ho hf ha hT hk (n:=y.length) (.inl ⟨true,u,A,0,c,rfl,e,rfl⟩) (by unfold maxLen at hm; omega);rw [hl] at this;exact this
     ·trivial
    ·trivial
   ·rename_i hx
    split
    ·rename_i q u bts qQ
     have ew:[a.eval x]=[Value.slice none 0 0]:=D8 h hx;have ew:a.eval x=Value.slice none 0 0:=by simpa using ew
     have aF:c.args=#[x]:=by rw [<- ha]
     have eG:c.argTypes=#[T]:=by rw [<- hT]
     refine D0.value (val:=.int .i64 0) ?_ h (VX.int (by unfold w4; simp [IntKind.min,IntKind.max,IntKind.signed,IntKind.bits]));have:=OT (w:=w) (ty:=o.type) (n:=0) (s7 hE qQ) (.inl ⟨q,u,none,0,0,rfl,ew,rfl⟩);simp [execOp,ho,resolve,hf,invoke,builtin,aF,eG,this]
    ·trivial
   ·trivial
  ·trivial
 ·rename_i hf
  split
  ·rename_i x T ha hT
   split
   ·rename_i q u bts hx qQ
    obtain ⟨et,k',f1,_⟩:=H9 (s7 hE qQ);have ew:a.eval x=Value.slice none 0 0:=by simpa using (show [a.eval x]=[Value.slice none 0 0] from D8 h hx)
    have aF:c.args=#[x]:=by rw [<- ha]
    have eG:c.argTypes=#[T]:=by rw [<- hT]
    refine D0.value (val:=.int .i64 0) ?_ h (VX.int (by unfold w4; simp [IntKind.min,IntKind.max,IntKind.signed,IntKind.bits]));simp [execOp,ho,resolve,hf,invoke,builtin,aF,eG,Builtin.cap_,x8 f1,ew,goInt]
   ·trivial
  ·trivial
 ·rename_i hf
  split
  ·rename_i x y T U ha hT
   split
   ·rename_i q u bts hU
    obtain ⟨et,k',f1,_⟩:=H9 (s7 hE hU)
    split
    ·exact b5H hE h ho hf ha hT (.inl ⟨et,f1⟩)
    ·exact c2P hE h ho hf ha hT ⟨et,f1⟩
   ·rename_i bts hU
    exact UK hE h ho hf ha hT (.inr (Y9 (s7 hE hU)))
   ·rename_i kd bts hU
    exact b5G hE h ho hf ha hT (zk (s7 hE hU))
   ·trivial
  ·trivial
 ·rename_i hf
  split
  ·rename_i x l ha
   split
   ·rename_i k m hx
    exact (UI h ho ha hx).1 hf
   ·trivial
  ·trivial
 ·rename_i hf
  split
  ·rename_i x l ha
   split
   ·rename_i k m hx
    exact (UI h ho ha hx).2 hf
   ·trivial
  ·trivial
 ·rename_i hf
  split
  ·rename_i x y T U ha hT; exact c2d hE h ho hf ha hT
  ·trivial
 ·rename_i hf
  split
  ·rename_i x T ha hT; exact b9d hE h ho hf ha hT
  ·trivial
 ·trivial
theorem c4Z (hE:E2 E B) (h:RS B S ι s a w) (o:Oper) (iS:∀ c x y,o.op≠.pick c x y):G7 E.P B o a w (n6 E o s):=by
 cases ho:o.op with
 | move x=>unfold n6; rw [ho]; exact D0.value (by simp [execOp,ho]) h (h.ev x)
 | assign x=>unfold n6; rw [ho]; exact D0.value (by simp [execOp,ho]) h (h.ev x)
 | alloc T=>exact b9z hE h ho
 | box T x=>exact c4P hE h ho
 | makeSlice T x y=>exact b1I hE h ho
 | slice T x lo hi mx =>
  have:n6 E o s=yS E T (s.ev x) lo hi mx s:=by unfold n6; rw [ho]
  rw [this]; exact b6a hE h ho
 | build T parts=>exact b9u hE h ho
 | buildSlice T n parts=>exact b0T hE h ho
 | makeMap T r=>exact b5t hE h ho
 | lookup T x y ok =>
  have:n6 E o s=Jp E T (s.ev x) (s.ev y) ok s:=by unfold n6; rw [ho]
  rw [this]; exact b5u hE h ho
 | mapUpdate T m x y =>
  have:n6 E o s=GN E T (s.ev m) (s.ev x) (s.ev y) s:=by unfold n6; rw [ho]
  rw [this]; exact c00 hE h ho
 | load T x =>
  have:n6 E o s=vN E T (s.ev x) s:=by unfold n6; rw [ho]
  rw [this];cases hl:vN E T (s.ev x) s with
  | fail why=>trivial
  | ok v s'=>exact b8T hE h ho hl
  | H3 p v s' =>
   exfalso;unfold vN at hl
   repeat' split at hl
   all_goals cases hl
 | store T x y =>
  unfold n6; rw [ho];simp only
  split
  ·rename_i i p hx; exact b59 hE h ho hx
  ·trivial
 | nilCheck x =>
  unfold n6; rw [ho];simp only
  split
  ·rename_i i p hx
   have hv:=D8 h hx;obtain ⟨e,b,off,h1,h2,h3,h4⟩:=hv;have h4:a.eval x=.pointer (some ⟨b,off,none⟩):=by simpa using h4
   exact D0.value (val:=.pointer (some ⟨b,off,none⟩)) (by simp only [execOp,ho,h4]; rfl) h ⟨e,b,off,h1,h2,h3,rfl⟩
  ·rename_i t y hx
   obtain ⟨b,off,e,h1,h2,h3⟩:=D8 h hx;have e:a.eval x=.pointer (some ⟨b,off,none⟩):=by simpa using e
   exact D0.value (val:=.pointer (some ⟨b,off,none⟩)) (by simp only [execOp,ho,e]; rfl) h ⟨b,off,rfl,h1,h2,h3⟩
  ·rename_i t y hx
   intro hy;obtain ⟨b,off,e,h1,h2,h3⟩:=Fa (D8 h hx) hy;have e:a.eval x=.pointer (some ⟨b,off,none⟩):=by simpa using e
   exact D0.value (val:=.pointer (some ⟨b,off,none⟩)) (by simp only [execOp,ho,e]; rfl) h ⟨b,off,rfl,h1,h2,h3⟩
  ·rename_i f t y hx
   intro hy;have hv:=D8 h hx;obtain ⟨p,e,-⟩:=Kf hv hy;exact D0.value (val:=a.eval x) (by simp only [execOp,ho,e]; rfl) h hv
  ·rename_i f l hx
   obtain ⟨us,e,h1⟩:=D8 h hx;have e:a.eval x=.func (.func f) #[] us.toArray:=by simpa using e
   exact D0.value (val:=.func (.func f) #[] us.toArray) (by simp only [execOp,ho,e]; rfl) h ⟨us,rfl,h1⟩
  ·rename_i g b hx
   intro hb;have hv:=IU h hx;have hb:b=true:=hb;subst hb;exact D0.value (val:=.func (.func g) #[] #[]) (by simp only [execOp,ho,hv]; rfl) h ⟨[fnV g true],rfl,rfl,rfl⟩
  ·trivial
 | binOp op T x y T' =>
  have:n6 E o s=xm E T op (s.ev x) (s.ev y) s:=by unfold n6; rw [ho]
  rw [this]; exact c2L hE h ho
 | unOp op T x =>
  have:n6 E o s=unA op (s.ev x) s:=by unfold n6; rw [ho]
  rw [this]; exact c01 h ho
 | convert T' T x=>exact b5B hE h ho
 | fieldAddr T x n=>exact b1W hE h ho
 | indexAddr T x y=>exact b1P hE h ho
 | field T x n=>exact b80 hE h ho
 | index T x y=>exact b8Y hE h ho
 | extract x n =>
  unfold n6; rw [ho];simp only
  split
  ·rename_i l hx
   split
   ·rename_i v hn
    obtain ⟨us,e,hl⟩:=D8 h hx;have e:a.eval x=.tuple us.toArray:=by simpa using e
    obtain ⟨u,h1,h2⟩:=PL hn hl;have he:execOp a.eval o=(do pure (.value (<- Instr.extract (a.eval x) n))):=by simp [execOp,ho]
    refine J9 he h (val:=u) ?_ h2;rw [e]; simp [Instr.extract,h1]
   ·trivial
  ·trivial
 | makeFunc fn first caps =>
  unfold n6;rw [ho];cases fn with
  | func f =>
   simp only
   split
   ·rename_i hf
    have hf:first=#[]:=by simpa using hf
    have:=h.M2 caps.toList;refine D0.value (val:=.func (.func f) #[] (caps.toList.map a.eval).toArray) ?_ h ⟨_,rfl,this⟩;simp [execOp,ho,Instr.makeFunc,hf,<- Array.toList_map]
   ·trivial
  | _=>trivial
 | call c=>exact c2C hE h ho
 | pick c x y=>exact absurd ho (iS c x y)
 | _=>unfold n6; rw [ho]; trivial
theorem Mx (hE:E2 E B) (hn:B.n=E.nt) (h:RS B S ι s a w) (o:Oper) {k:St->Tree (E.rs++F9 E.ps)} {L:Code->List Item->St->Prop} {Rt:DL (E.rs++F9 E.ps)->Prop} (ht:(zI E o s k).holds L Rt) {next:Act->World->Prop} {Q:Exit->Act->World->Prop}
  (hk:∀ S' ι' s' a' w',RS B S' ι' s' a' w'->(k s').holds L Rt->next a' w'):o.wp E.P a w next Q:=by
 unfold zI at ht;split at ht
 ·exact ht.elim
 ·rename_i hd
  rw [<- hn] at hd;split at ht
  ·rename_i c x y ho
   split at ht
   ·rename_i g hg
    have cU:=VX.a24 (D8 h hg);have aP:(execOp a.eval o).run E.P w=.ok (.value (if g then a.eval x else a.eval y)) w:=by
     simp only [execOp,ho,cU,asBool];cases g<;>simp
    unfold Oper.wp;rw [aP];cases g with
    | true=>exact hk S ι _ _ _ (h.put hd (h.ev x)) ht
    | false=>exact hk S ι _ _ _ (h.put hd (h.ev y)) ht
   ·exact ht.elim
  ·rename_i sY
   have hs:=c4Z hE h o (λ c x y e=>sY c x y e);split at ht
   ·exact ht.elim
   ·rename_i v s' e
    rw [e] at hs;exact hs next Q (λ S' ι' w' val h1 h2=>hk S' ι' _ _ _ (h1.put hd h2) ht)
   ·rename_i p v s' e
    rw [e] at hs;exact hs ht.1 next Q (λ S' ι' w' val h1 h2=>hk S' ι' _ _ _ (h1.put hd h2) (ht.2 ht.1))
theorem c3J {ops:Array Oper} {o:Oper} {j:Nat} {want:Bool} (hg:o.guard=some (j,want)) {g:Nat} (hs:Ba ops j=some g) {tmps:Array Value} :
  Region.wanted o (yielded ops tmps)=((match tmps[g]? with|some (.bool b)=>some b|_=>none) == some want):=by
 have:((ops[j]?).bind (·.dst)).bind (tmps[·]?)=tmps[g]?:=by
  have:(ops[j]?).bind (·.dst)=some g:=hs;rw [this]; rfl
 simp only [Region.wanted,hg,yielded,this];rfl
theorem getD_some {l:Array Value} {g:Nat} {v:Value} (h:l.getD g undef=v) (hv:v≠undef):l[g]?=some v:=by
 simp only [aCm] at h;cases hl:l[g]? with
 | none=>rw [hl] at h; exact absurd h.symm hv
 | some x=>rw [hl] at h; simp at h; rw [h]
theorem Mw (hE:E2 E B) (hn:B.n=E.nt) (h:RS B S ι s a w) {ops:Array Oper} (o:Oper) {k:St->Tree (E.rs++F9 E.ps)} {L:Code->List Item->St->Prop} {Rt:DL (E.rs++F9 E.ps)->Prop} (ht:(yR E ops o s k).holds L Rt) {next:Act->World->Prop} {Q:Exit->Act->World->Prop}
  (hk:∀ S' ι' s' a' w',RS B S' ι' s' a' w'->(k s').holds L Rt->next a' w') :
  if Region.wanted o (yielded ops a.tmps) then o.wp E.P a w next Q else next (a.put o.dst undef) w:=by
 unfold yR at ht;split at ht
 ·rename_i hg
  simp only [Region.wanted,hg,if_true];exact Mx hE hn h o ht hk
 ·rename_i j want hg
  split at ht
  ·exact ht.elim
  ·rename_i g hs
   rw [c3J hg hs];have hv:=h.ev (.tmp g);split at ht
   ·rename_i vs cU
    rw [cU] at hv;have hv:[a.tmps.getD g undef]=[Value.tuple vs]:=hv;have hv:a.tmps.getD g undef=.tuple vs:=by simpa using hv
    have ib:((match a.tmps[g]? with|some (.bool b)=>some b|_=>none) == some want)=false:=by
     simp only [aCm] at hv;cases hl:a.tmps[g]? with
     | none=>rfl
     | some x=>rw [hl] at hv; simp at hv; rw [hv]; rfl
    rw [ib];split at ht
    ·rename_i hd
     rw [<- hn] at hd;exact hk S ι _ _ _ (h.put hd (v:=.raw undef) (val:=undef) (by rfl)) ht
    ·exact ht.elim
   ·rename_i b cU
    rw [cU] at hv;have hb:=VX.a24 hv;have cu:=getD_some hb (by simp [undef]);rw [cu];split at ht
    ·exact ht.elim
    ·rename_i hd
     rw [<- hn] at hd;have lE:∀ c,b=c->RS B S ι (s.put (some g) (.val .bool c)) a w:=by
      rintro c rfl;have bf:g<a.tmps.size:=by
       rcases aEd g a.tmps.size with h1|h1
       ·exact h1
       ·rw [aCj h1] at cu; cases cu
      have:=h.put (d:=some g) (v:=.val .bool b) (val:=.bool b) (by simp [I5,aDf,<- h.sz,bf]) VX.bool;have e:a.put (some g) (.bool b)=a:=by
       simp only [Act.put];have:a.tmps.setIfInBounds g (.bool b)=a.tmps:=by
        apply Array.ext_getElem?;intro i;rw [aDc]
        split
        ·rename_i e; subst e; exact cu.symm
        ·rfl
       rw [this]
      rw [e] at this;exact this
     cases b with
     | true =>
      cases want with
      | true=>exact Mx hE hn (lE true rfl) o ht hk
      | false=>exact hk S ι _ _ _ ((lE true rfl).put hd (v:=.raw undef) (val:=undef) (by rfl)) ht
     | false =>
      cases want with
      | false=>exact Mx hE hn (lE false rfl) o ht hk
      | true=>exact hk S ι _ _ _ ((lE false rfl).put hd (v:=.raw undef) (val:=undef) (by rfl)) ht
   ·exact ht.elim
theorem b1s {P:Program} {T et:TypeId} (h1:P.underlying T=some (.slice et)) (d:Nat) (A:Option Addr) (n c:Nat):(Op.equalIn (d+1) T (.slice A n c) (.slice none 0 0)).run P w=.ok A.isNone w:=by
 cases A<;>simp [Op.equalIn,x8 h1]
theorem c4O (hE:E2 E B) (h:RS B S ι s a w) {o:Oper} {p:Prop} {v1 v2:AV} (hb:brA E s o=some (p,v1,v2)) :
  ∃ val,(execOp a.eval o).run E.P w=.ok (.value val) w/\((p/\VX w.heap S ι s.hp v1 [val])\/VX w.heap S ι s.hp v2 [val]):=by
 unfold brA at hb;split at hb
 ·rename_i op T x y T' ho
  have key:∀ (b:Bool),(op=.eql/\b=true\/op=.neq/\b=false)->(match s.ev y,look T E.tt with
   | .raw (.slice none 0 0),some ⟨.d0 _ _,_⟩=>(match (s.ev x).els s with
    | some r=>some (r.2=[],AV.val .bool b,AV.val .bool (!b))
    | none=>none)
   | _,_=>none)=some (p,v1,v2)->∃ val,(execOp a.eval o).run E.P w=.ok (.value val) w/\((p/\VX w.heap S ι s.hp v1 [val])\/VX w.heap S ι s.hp v2 [val]):=by
   intro b cB hb;split at hb
   ·rename_i q u bts hy hT
    split at hb
    ·rename_i r hr
     obtain ⟨t0,l0⟩:=r;cases hb;have mC:[a.eval y]=[Value.slice none 0 0]:=D8 h hy;have mC:a.eval y=.slice none 0 0:=by simpa using mC
     obtain ⟨A,c,e,hA⟩:=ES h.hs (h.ev x) hr;obtain ⟨et,k2,h1,_,_⟩:=H9 (EZ (t:=.d0 q u) (u:=.d0 true u) rfl (s7 hE hT));have hg:(eqGuard op T x y (a.eval x) (a.eval y)).run E.P w=.ok () w:=by rw [e,mC]; cases op<;>rfl
     have heq:(Op.equal T (.slice A (List.length l0) c) (.slice none 0 0)).run E.P w=.ok A.isNone w:=b1s h1 9999 A _ c;have eQ:A=none->l0=[]:=by
      rintro rfl;rcases hA with h2|⟨b2,off2,O2,h2,_⟩
      ·exact h2
      ·cases h2
     have eS:∀ n:Bool,(n=A.isNone/\op=.eql/\b=true\/n=(!A.isNone)/\op=.neq/\b=false)->(l0=[]/\VX w.heap S ι s.hp (.val .bool b) [.bool n])\/VX w.heap S ι s.hp (.val .bool (!b)) [.bool n]:=by
      intro n hn;cases A with
      | none=>rcases hn with ⟨rfl,_,rfl⟩|⟨rfl,_,rfl⟩<;>exact .inl ⟨eQ rfl,VX.bool⟩
      | some A=>rcases hn with ⟨rfl,_,rfl⟩|⟨rfl,_,rfl⟩<;>exact .inr VX.bool
     rcases cB with ⟨rfl,rfl⟩|⟨rfl,rfl⟩
     ·exact ⟨.bool A.isNone,by rw [V3 ho hg (r:=.ok (.bool A.isNone) w)]; rfl; rw [e,mC]; simp [binOp,heq],eS _ (.inl ⟨rfl,rfl,rfl⟩)⟩
     ·exact ⟨.bool (!A.isNone),by rw [V3 ho hg (r:=.ok (.bool (!A.isNone)) w)]; rfl; rw [e,mC]; simp [binOp,heq],eS _ (.inr ⟨rfl,rfl,rfl⟩)⟩
    ·cases hb
   ·cases hb
  split at hb
  ·exact key true (.inl ⟨rfl,rfl⟩) hb
  ·exact key false (.inr ⟨rfl,rfl⟩) hb
  ·cases hb
 ·cases hb
end
end Go.Ex
