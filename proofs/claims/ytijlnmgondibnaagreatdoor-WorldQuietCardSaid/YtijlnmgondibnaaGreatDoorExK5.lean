import Derived.Test.YtijlnmgondibnaaGreatDoorExK4
import Derived.DeepKeys
import Derived.Laws.StructEq
import Derived.MapKept
import Derived.WideKeyRuns
import Derived.Lib.AppendZerosOnto
import Derived.Tactics
set_option linter.unusedVariables false
set_option linter.unusedSimpArgs false
set_option linter.unusedSectionVars false
namespace Go.Ex
section
variable {H H':Array Go.Obj} {S:Nat->Prop}
theorem U0.s9 {q:Bool} {b n:Nat} (h:H'[b]?=H[b]?):U0 q H b n->U0 q H' b n:=by
 rintro ⟨arr,T,⟨fz,e,ef⟩,hn⟩;exact ⟨arr,T,⟨fz,by rw [h]; exact e,ef⟩,hn⟩
theorem N3.s9 {b n:Nat} (h:H'[b]?=H[b]?):N3 H b n->N3 H' b n:=by
 rintro ⟨arr,T,⟨fz,e,ef⟩,hn⟩;exact ⟨arr,T,⟨fz,by rw [h]; exact e,ef⟩,hn⟩
theorem j5.s9 {t:Ty} {O:List Nat} {cs:List Value} {l:List t.den} (h:j5 (i6 H S t) t.size O cs l) (hH:∀ c,c∈O\/S c->H'[c]?=H[c]?):j5 (i6 H' S t) t.size O cs l :=
 j5.mono (L:=O) (λ _ h=>h) (λ _ _ _ hO hr=>hr.s9 (λ c hc=>hH c (hc.imp (hO c) id)) (λ _ h=>h)) h
theorem u7.s9:∀ {t:Ty} {p:List Step} {b off:Nat} {O:List Nat} {x:t.den},u7 H S t p b off O x->(∀ c,c=b\/c∈O\/S c->H'[c]?=H[c]?) ->
  u7 H' S t p b off O x/\x8 H' t p b off=x8 H t p b off:=by
 intro t
 induction t with
 | pair a c iha ihc =>
  intro p b off O x hR hH
  match p,hR with
  | [],hR=>exact ⟨hR,by rw [y6,y6]⟩
  | .l7 0::p,⟨O1,O2,e,h1,h2⟩ =>
   subst e;obtain ⟨k1,k2⟩:=iha h1 (λ c hc=>hH c (hc.imp id (Or.imp (λ h=>by simp [h]) id)));refine ⟨⟨O1,O2,rfl,k1,?_⟩,k2⟩;rw [l5 (hH b (.inl rfl))];exact h2.s9 (λ c hc=>hH c (.inr (hc.imp (λ h=>by simp [h]) id))) (λ _ h=>h)
  | .l7 (n+1)::p,⟨O1,O2,e,h1,h2⟩ =>
   subst e;obtain ⟨k1,k2⟩:=ihc h2 (λ c hc=>hH c (hc.imp id (Or.imp (λ h=>by simp [h]) id)));refine ⟨⟨O1,O2,rfl,?_,k1⟩,k2⟩;rw [l5 (hH b (.inl rfl))];exact h1.s9 (λ c hc=>hH c (.inr (hc.imp (λ h=>by simp [h]) id))) (λ _ h=>h)
  | .idx i::p,hR=>simp [u7] at hR
 | arr n t ih =>
  intro p b off O x hR hH
  match p,hR with
  | [],hR=>exact ⟨hR,by rw [y6,y6]⟩
  | .l7 i::p,hR=>simp [u7] at hR
  | .idx i::p,⟨hl,hi,O1,O2,O3,e,h1,h2,h3⟩ =>
   subst e;obtain ⟨k1,k2⟩:=ih h2 (λ c hc=>hH c (hc.imp id (Or.imp (λ h=>by simp [h]) id)));refine ⟨⟨hl,hi,O1,O2,O3,rfl,?_,k1,?_⟩,k2⟩
   ·rw [l5 (hH b (.inl rfl))]
    exact h1.s9 (λ c hc=>hH c (.inr (hc.imp (λ h=>by simp [h]) id)))
   ·rw [l5 (hH b (.inl rfl))]
    exact h3.s9 (λ c hc=>hH c (.inr (hc.imp (λ h=>by simp [h]) id)))
 | d0 o t ih =>
  intro p b off O x hR hH
  match p,hR with
  | [],hR=>exact ⟨by cases o<;>exact hR,by rw [y6,y6]⟩
  | .l7 i::p,hR=>cases o<;>simp [u7] at hR
  | .idx i::p,hR =>
   cases o with
   | false=>simp [u7] at hR
   | true =>
    obtain ⟨hi,b1,o1,cap,O1,O2,O3,e,e1,e2,e3,e4,h1,h2,h3⟩:=hR;subst e;have dC:H'[b1]?=H[b1]?:=hH b1 (by simp);obtain ⟨k1,k2⟩:=ih h2 (λ c hc=>hH c (hc.elim (λ h=>.inr (.inl (by simp [h]))) (λ h=>.inr (h.imp (λ h=>by simp [h]) id))));refine ⟨⟨hi,b1,o1,cap,O1,O2,O3,rfl,by rw [O5 (hH b (.inl rfl))]; exact e1,e2,e3,e4.s9 dC,?_,k1,?_⟩,?_⟩
    ·rw [l5 dC]
     exact h1.s9 (λ c hc=>hH c (.inr (hc.imp (λ h=>by simp [h]) id)))
    ·rw [l5 dC]
     exact h3.s9 (λ c hc=>hH c (.inr (hc.imp (λ h=>by simp [h]) id)))
    ·simp only [x8,O5 (hH b (.inl rfl)),e1]
     exact k2
 | _ =>
  intro p b off O x hR hH
  match p,hR with
  | [],hR=>exact ⟨hR,by rw [y6,y6]⟩
  | .l7 i::p,hR=>simp [u7] at hR
  | .idx i::p,hR=>simp [u7] at hR
end
section
variable {S:Nat->Prop} {ι:Ix} {H H':Array Go.Obj}
theorem u7.move {i:Nat} {e:g9} {p:List Step} (hk:(∃ t x,e=.var t x)\/∃ t x j q,e=.own (.d0 true t) x/\p=.idx j::q) {O:List Nat} (hR:u7 (VH H ι i e) S e.ty p (VR H ι i e).1 (VR H ι i e).2 O e.x)
  (hO:∀ c∈O,c<H.size) (hS:∀ c,S c->c<H.size) (aW:H.size<=H'.size) (hH:∀ c,(c=(VR H ι i e).1/\c<H.size)\/c∈O\/S c->H'[c]?=H[c]?) (bD:(∃ t x,e=.var t x)->(VR H ι i e).1<H.size) :
  u7 (VH H' ι i e) S e.ty p (VR H' ι i e).1 (VR H' ι i e).2 O e.x/\x8 (VH H' ι i e) e.ty p (VR H' ι i e).1 (VR H' ι i e).2=x8 (VH H ι i e) e.ty p (VR H ι i e).1 (VR H ι i e).2:=by
 rcases hk with ⟨t,x,rfl⟩|⟨t,x,j,q,rfl,rfl⟩
 ·exact u7.s9 (H:=H) hR (λ c hc=>hH c (hc.imp (λ h=>⟨h,h▸bD ⟨_,_,rfl⟩⟩) id))
 ·have hg:∀ c,c∈O\/S c->(VH H' ι i (.own (.d0 true t) x))[c]?=(VH H ι i (.own (.d0 true t) x))[c]?:=λ c hc=>by
   have h1:c<H.size:=hc.elim (hO c) (hS c);rw [F7 h1,F7 (Nat.lt_of_lt_of_le h1 aW)];exact hH c (.inr hc)
  obtain ⟨hi,b1,o1,cap,O1,O2,O3,e0,e1,e2,e3,e4,h1,h2,h3⟩:=hR;subst e0;have dC:=hg b1 (by simp);obtain ⟨k1,k2⟩:=u7.s9 h2 (H':=VH H' ι i (.own (.d0 true t) x)) (λ c hc=>hg c (hc.elim (λ h=>.inl (by simp [h])) (λ h=>h.imp (λ h=>by simp [h]) id)));have dJ:(w4 (VH H' ι i (.own (.d0 true t) x)) (VR H' ι i (.own (.d0 true t) x)).1)[(VR H' ι i (.own (.d0 true t) x)).2]?=some (.slice (some ⟨b1,o1,none⟩) (List.length x) cap):=by
   refine Eq.trans ?_ (show (w4 (VH H ι i (.own (.d0 true t) x)) (VR H ι i (.own (.d0 true t) x)).1)[(VR H ι i (.own (.d0 true t) x)).2]?=some (.slice (some ⟨b1,o1,none⟩) (List.length x) cap) from e1);simp only [VH,VR,vU]
  refine ⟨⟨hi,b1,o1,cap,O1,O2,O3,rfl,dJ,e2,e3,e4.s9 dC,?_,k1,?_⟩,?_⟩
  ·rw [l5 dC]; exact h1.s9 (λ c hc=>hg c (hc.imp (λ h=>by simp [h]) id))
  ·rw [l5 dC]; exact h3.s9 (λ c hc=>hg c (hc.imp (λ h=>by simp [h]) id))
  ·have e1':(w4 (VH H ι i (.own (.d0 true t) x)) (VR H ι i (.own (.d0 true t) x)).1)[(VR H ι i (.own (.d0 true t) x)).2]?=some (.slice (some ⟨b1,o1,none⟩) (List.length x) cap):=e1
   simp only [g9.ty,x8,dJ,e1'];exact k2
theorem V6.refl {b off n m:Nat} (h:N3 H b m):V6 H H b off n:=by
 obtain ⟨arr,T,⟨fz,e,ef⟩,_⟩:=h;exact ⟨⟨arr,arr,T,⟨fz,⟨e,ef⟩,e⟩,rfl,λ _ _=>rfl⟩,λ _ _ _=>rfl⟩
theorem Rl:∀ {t:Ty} {x:t.den} {p:List Step} {u:Ty} {y:u.den},w9 t x p->j9 t x p=some ⟨u,y⟩->s8 t x p u y=some ⟨t,x⟩:=by
 intro t;have set_self:∀ {α:Type} {l:List α} {i:Int} {d:α},(0<=i/\i<List.length l)->List.set l i.toNat (List.getD l i.toNat d)=l:=by
  intro α l i d h;have h1:i.toNat<l.length:=by omega
  rw [List.getD_eq_getElem?_getD,List.getElem?_eq_getElem h1]; simp
 induction t with
 | pair a c iha ihc =>
  intro x p u y ho hg
  match p,ho,hg with
  | [],_,hg=>simp only [j9,Option.some.injEq] at hg; cases hg; simp [s8]
  | .l7 0::p,ho,hg=>simp only [s8,iha (x:=x.1) ho hg]
  | .l7 (n+1)::p,ho,hg=>simp only [s8,ihc (x:=x.2) (p:=.l7 n::p) ho hg]
  | .idx i::p,ho,_=>simp [w9] at ho
 | arr n t ih =>
  intro x p u y ho hg
  match p,ho,hg with
  | [],_,hg=>simp only [j9,Option.some.injEq] at hg; cases hg; simp [s8]
  | .l7 i::p,ho,_=>simp [w9] at ho
  | .idx i::p,ho,hg =>
   simp only [s8,ih ho.2 hg,dif_pos];by_cases hl:i<List.length x
   ·rw [set_self ⟨ho.1.1,hl⟩]
   ·rw [List.set_eq_of_length_le (by have:=ho.1.1; omega)]
 | d0 o t ih =>
  intro x p u y ho hg
  match p,ho,hg with
  | [],_,hg=>rw [B9] at hg; cases hg; cases o<;>simp [s8]
  | .l7 i::p,ho,_=>cases o<;>simp [w9] at ho
  | .idx i::p,ho,hg =>
   cases o with
   | false=>simp [w9] at ho
   | true =>
    simp only [s8,ih ho.2 hg,dif_pos];rw [set_self ho.1]
 | _ =>
  intro x p u y ho hg
  match p,ho,hg with
  | [],_,hg=>simp only [j9,Option.some.injEq] at hg; cases hg; simp [s8]
  | .idx i::p,ho,_=>simp [w9] at ho
  | .l7 i::p,ho,_=>simp [w9] at ho
theorem OB.set {i:Nat} {e:g9} (ho:OB H S ι i e) (bN:∀ c∈l6 ι i e,¬ S c/\c<H.size) (hS:∀ c,S c->c<H.size) {p:List Step} (hk:(∃ t x,e=.var t x)\/∃ t x j q,e=.own (.d0 true t) x/\p=.idx j::q) (aM:w9 e.ty e.x p) {u:Ty} {y:u.den} (hg:j9 e.ty e.x p=some ⟨u,y⟩)
  {b off:Nat} (hl:Loc H ι i e p=some (b,off)) (aW:H.size<=H'.size) {Op:List Nat} (gD:i6 H S u Op (d9 H b off u.size) y) (hH:∀ c,c<H.size->c∉Op->H'[c]?=H[c]?) {y':u.den} (fA:i6 H' S u Op (d9 H' b off u.size) y') {r:Sigma Ty.den} (aK:s8 e.ty e.x p u y'=some r) :
  OB H' S ι i (e.D9 r)/\Loc H' ι i e p=some (b,off):=by
 have he:e≠.K6:=K2 hl;have fm:=ho.yN he hS aM hg hl gD;obtain ⟨Om,m1,mn,m2,m3,m4,m5⟩:=M6 he ho hS aM hg hl;obtain ⟨O,hO,hR,hb,aJ,bc,fW,dR⟩:=ho.see he hS;obtain ⟨O1,O3,b',ar,e1,e2,e3,e4,e5,e6⟩:=focus hR hb aM hg
 obtain ⟨bW,di⟩:=C4 hl;rw [H2 he] at bW;rw [e3] at bW; cases bW;have cp:(O1++O3).Nodup:=(e1.nodup_iff).1 ((hO.nodup_iff).2 (List.nodup_cons.1 aJ).2);have bm:∀ c∈O1,c∈ι.own i:=λ c hc=>hO.mem_iff.1 (e1.mem_iff.2 (by simp [hc]));have cJ:∀ c∈O3,c∈ι.own i:=λ c hc=>hO.mem_iff.1 (e1.mem_iff.2 (by simp [hc]));have bD:=(List.nodup_cons.1 aJ).1;have dd:∀ c∈ι.own i,c∈l6 ι i e:=by intro c hc; cases e<;>simp [l6,hc]
 have e4':i6 H S u O3 (d9 H b off u.size) y:=by
  rw [l5 (F7 di)] at e4;exact (vI (λ c hc=>ho.T4 he (cJ c hc)) hS).1 e4
 obtain rfl:Op=O3:=gD.det e4';have eU:∀ c∈O1,c<H.size:=λ c hc=>ho.T4 he (bm c hc);have dK:∀ c,(c=(VR H ι i e).1/\c<H.size)\/c∈O1\/S c->H'[c]?=H[c]?:=by
  rintro c (⟨rfl,h1⟩|h1|h1)
  ·exact hH _ h1 (λ h=>bD (cJ _ h))
  ·exact hH c (eU c h1) (λ h=>(List.nodup_append.1 cp).2.2 c h1 c h rfl)
  ·exact hH c (hS c h1) (λ h=>(bN c (dd c (cJ c h))).1 h1)
 have jG:(∃ t x,e=.var t x)->(VR H ι i e).1<H.size:=by rintro ⟨t,x,rfl⟩; exact bc
 obtain ⟨n1,n2⟩:=u7.move (H':=H') hk e2 eU hS aW dK jG;have cQ:(VR H' ι i e).2+e.ty.size<=(w4 (VH H' ι i e) (VR H' ι i e).1).length/\(VR H' ι i e).1<(VH H' ι i e).size/\¬ S (VR H' ι i e).1/\(VR H' ι i e).1∉O1:=by
  rcases hk with ⟨t,x,rfl⟩|⟨t,x,j,q,rfl,rfl⟩
  ·have hr:=jG ⟨_,_,rfl⟩
   refine ⟨?_,Nat.lt_of_lt_of_le hr aW,(bN _ (by simp [l6,VR])).1,λ h=>bD (bm _ h)⟩;have:=O5 (dK _ (.inl ⟨rfl,hr⟩));show (VR H ι i (.var t x)).2+_<=(w4 H' (VR H ι i (.var t x)).1).length;rw [this]; exact hb
  ·refine ⟨?_,by simp [VH,VR,Bp],λ h=>by have:=hS _ h; simp only [VR] at this; omega,λ h=>by have:=eU _ h; simp only [VR] at this; omega⟩
   simp only [VH,VR,vU] at hb ⊢; exact hb
 have fR:N3 (VH H' ι i e) b (off+u.size):=N3.s9 (H:=H') (F7 (Nat.lt_of_lt_of_le di aW)) (m5.s9 (hH b di fm));have tq:i6 (VH H' ι i e) S u Op (d9 (VH H' ι i e) b off u.size) y':=by
  rw [l5 (F7 (Nat.lt_of_lt_of_le di aW))];exact (vI (λ c hc=>Nat.lt_of_lt_of_le (ho.T4 he (cJ c hc)) aW) (λ c hc=>Nat.lt_of_lt_of_le (hS c hc) aW)).2 fA
 obtain ⟨O4,f1,f2,f3⟩:=Bi n1 hg (n2.trans e3) cQ.1 cQ.2.1 (List.nodup_append.1 cp).1 cQ.2.2.2 (λ c hc=>⟨(bN c (dd c (bm c hc))).1,Nat.lt_of_lt_of_le (eU c hc) (Nat.le_trans aW wI)⟩) cQ.2.2.1
  (λ c hc=>Nat.lt_of_lt_of_le (hS c hc) (Nat.le_trans aW wI)) (λ _ h=>h) (V6.refl fR) tq aK
 have bQ:∀ c∈O4,c∈ι.own i:=λ c hc=>(List.mem_append.1 (f1.mem_iff.1 hc)).elim (bm c) (cJ c);have gS:O4.Nodup:=(f1.nodup_iff).2 cp;have f2':=(vI (λ c hc=>Nat.lt_of_lt_of_le (ho.T4 he (bQ c hc)) aW) (λ c hc=>Nat.lt_of_lt_of_le (hS c hc) aW)).1 f2;have qH:O4.Perm (ι.own i):=f1.trans (e1.symm.trans hO);refine ⟨?_,vH (by rw [H2 he,n2]; exact e3) (Nat.lt_of_lt_of_le di aW)⟩;have fG:r.1.size=e.ty.size:=F4 f3;cases e with
 | var t x =>
  obtain ⟨_,hf,gl⟩:=ho;have hf:N3 H (ι.root i).1 ((ι.root i).2+t.size):=hf;refine ⟨⟨O4,qH,f2'⟩,?_,gl⟩;have fG:r.1.size=t.size:=fG;show N3 H' (ι.root i).1 ((ι.root i).2+r.1.size);rw [fG];exact hf.s9 (dK _ (.inl ⟨rfl,jG ⟨_,_,rfl⟩⟩))
 | own t x =>
  obtain ⟨⟨O',_,fA⟩,gl⟩:=ho;refine ⟨⟨O4,qH,?_⟩,gl⟩;have fG:r.1.size=t.size:=fG;have:d9 (VH H' ι i (.own t x)) (VR H' ι i (.own t x)).1 (VR H' ι i (.own t x)).2 r.1.size=ι.cells i:=by
   simp only [VH,VR,d9,vU,List.drop_zero];exact List.take_of_length_le (by rw [fA.length,fG]; exact Nat.le_refl _)
  have f2'':i6 H' S r.1 O4 (d9 (VH H' ι i (.own t x)) (VR H' ι i (.own t x)).1 (VR H' ι i (.own t x)).2 r.1.size) r.2:=f2';rw [this] at f2'';exact f2''
 | K6=>exact absurd rfl he
theorem OB.same {i:Nat} {e:g9} (ho:OB H S ι i e) (bN:∀ c∈l6 ι i e,¬ S c/\c<H.size) (hS:∀ c,S c->c<H.size) {p:List Step} (hk:(∃ t x,e=.var t x)\/∃ t x j q,e=.own (.d0 true t) x/\p=.idx j::q) (aM:w9 e.ty e.x p) {u:Ty} {y:u.den} (hg:j9 e.ty e.x p=some ⟨u,y⟩)
  {b off:Nat} (hl:Loc H ι i e p=some (b,off)) (aW:H.size<=H'.size) {Op:List Nat} (gD:i6 H S u Op (d9 H b off u.size) y) (hH:∀ c,c<H.size->c∉Op->H'[c]?=H[c]?) (fA:i6 H' S u Op (d9 H' b off u.size) y) :
  OB H' S ι i e/\Loc H' ι i e p=some (b,off):=by
 have h1:=OB.set ho bN hS hk aM hg hl aW gD hH fA (Rl aM hg);have he:=K2 hl;have e9:e.D9 ⟨e.ty,e.x⟩=e:=by cases e<;>first|rfl|exact absurd rfl he
 rw [e9] at h1;exact h1
end
section
variable {E:Env} {B:E1} {S:Nat->Prop} {ι:Ix} {s:St} {a:Act} {w:World}
theorem BA {H:Array Go.Obj} {i:Nat} {e:g9} (ho:OB H S ι i e) (hS:∀ c,S c->c<H.size) {p:List Step} (jU:(∃ t x,e=.var t x)\/∃ t x j q,e=.own (.d0 true t) x/\p=.idx j::q) (aM:w9 e.ty e.x p) {u:Ty} {y:u.den} (hg:j9 e.ty e.x p=some ⟨u,y⟩) :
  ∃ b off,Loc H ι i e p=some (b,off):=by
 have cF:e≠.K6:=by rcases jU with ⟨_,_,rfl⟩|⟨_,_,_,_,rfl,_⟩<;>(intro h; cases h)
 obtain ⟨O,hO,hR,eh,gl,pf,fW,dR⟩:=ho.see cF hS;obtain ⟨O1,O3,b',ar,g1,g2,g3,g4,g5,g6⟩:=focus hR eh aM hg
 have cd:∀ c∈O1,c<H.size:=λ c hc=>ho.T4 cF (hO.mem_iff.1 (g1.mem_iff.2 (by simp [hc])));refine ⟨b',ar,vH (by rw [H2 cF]; exact g3) ?_⟩;rcases jU with ⟨t,x,rfl⟩|⟨t,x,j,q,rfl,rfl⟩
 ·rcases u7.range g2 hg g3 with ⟨h1,_⟩|h1
  ·rw [h1]; exact ho.2.1.lt
  ·exact cd _ h1
 ·obtain ⟨hi,c1,o1,cap,P1,P2,P3,e,e1,e2,e3,e4,e5,e6,e7⟩:=g2
  subst e;have e1':(w4 (VH H ι i (.own (.d0 true t) x)) (VR H ι i (.own (.d0 true t) x)).1)[(VR H ι i (.own (.d0 true t) x)).2]?=some (.slice (some ⟨c1,o1,none⟩) (List.length x) cap):=e1;simp only [g9.ty,x8,e1'] at g3;rcases u7.range e6 hg g3 with ⟨h1,_⟩|h1
  ·rw [h1]; exact cd _ (by simp)
  ·exact cd _ (by simp [h1])
theorem c0U {e:g9} {p:List Step} {r:Sigma Ty.den} (h:yq e p r=true):(∃ t x,e=.var t x)\/∃ t x,e=.own (.d0 true t) x/\(p=[]\/∃ j q,p=.idx j::q):=by
 unfold yq at h;split at h
 ·exact .inl ⟨_,_,rfl⟩
 ·simp only [Bool.and_eq_true] at h
  obtain ⟨_,h⟩:=h;split at h
  ·exact .inr ⟨_,_,rfl,.inl rfl⟩
  ·exact .inr ⟨_,_,rfl,.inr ⟨_,_,rfl⟩⟩
  ·cases h
 ·cases h
theorem Sy {e:g9} {p:List Step} {r:Sigma Ty.den} (h:yq e p r=true):AS e (e.D9 r):=by
 unfold yq at h;obtain ⟨r1,r2⟩:=r;split at h
 ·rename_i t x
  obtain rfl:r1=t:=of_decide_eq_true h;exact .inl ⟨r1,x,r2,rfl,rfl⟩
 ·rename_i t x
  simp only [Bool.and_eq_true] at h;obtain rfl:r1=.d0 true t:=of_decide_eq_true h.1;exact .inr (.inl ⟨t,x,r2,rfl,rfl⟩)
 ·cases h
theorem b70 {P:Program} (h:RS B S ι s a w) {i:Nat} {e:g9} (he:look i s.hp=some e) {p:List Step} (aM:w9 e.ty e.x p) {t0:Ty} {l:List t0.den} (hg:j9 e.ty e.x p=some ⟨.d0 true t0,l⟩) (bZ:t0.shared=true)
  {b1 o1 cap:Nat} (hc:Cells w.heap ι i e p (.d0 true t0) [.slice (some ⟨b1,o1,none⟩) l.length cap]) (lk:1<=cap) {lo:Nat} {m:List t0.den} (iR:lo+m.length<=l.length) {news:List Value} (hN:j5 (i6 w.heap S t0) t0.size [] news m)
  {r:Sigma Ty.den} (aK:s8 e.ty e.x p (.d0 true t0) (l.take lo++m++l.drop (lo+m.length))=some r) (bL:yq e p r=true) :
  ∃ w' ι',(storeCells ⟨b1,o1+lo*t0.size,none⟩ news).run P w=.ok () w'/\RS B S ι' ((s.Y8 i e.Y9).w6 i (e.D9 r)) a w':=by
 have cF:e≠.K6:=BD hc;obtain ⟨Op,m1,mn,hR⟩:=G1 h.hs he aM hg hc;have bN:∀ c∈l6 ι i e,¬ S c/\c<w.heap.size:=λ c cS=>⟨(h.hs.bl i e he c cS).1,(h.hs.bl i e he c cS).2.2⟩;have fy:=hR;rcases hR with ⟨_,⟨A,c,e0,eL⟩,_⟩|⟨b2,o2,cap2,O',c1,c2,c3,c4,c5,rfl,c7⟩
 ·simp only [List.cons.injEq,Value.slice.injEq,and_true] at e0
  have:=eL rfl; omega
 simp only [List.cons.injEq,Value.slice.injEq,Option.some.injEq,Addr.mk.injEq,and_true,true_and] at c1;obtain ⟨⟨rfl,rfl⟩,rfl⟩:=c1;have gE:O'=[]:=j5.N1 (λ _ _ _ hr=>i6.N1 bZ hr) c5;subst gE;have dC:b1∈l6 ι i e:=I0 (m1 b1 (by simp));have gP:=(bN b1 dC).2;have fY:news.length=m.length*t0.size:=j5.length (λ _ _ _ h=>h.length) hN;have so:lo*t0.size+m.length*t0.size<=l.length*t0.size:=by rw [<- Nat.add_mul]; exact Nat.mul_le_mul_right _ iR
 have sn:l.length*t0.size<=cap*t0.size:=Nat.mul_le_mul_right _ c2;obtain ⟨arr,T',⟨fz,e1,ef⟩,hn⟩:=c7;have dJ:w4 w.heap b1=arr.toList:=by simp only [w4,e1]
 have jf:=EW (P:=P) b1 (o1+lo*t0.size) T' fz news 0 arr w ⟨e1,ef.imp id (·.2)⟩ (by omega) (λ v hv=>(j5.plain (λ _ _ _ hr=>hr.plain) hN v hv).1);simp only [Nat.add_zero] at jf;have ix:arr.toList.take (o1+lo*t0.size)++news++arr.toList.drop (o1+lo*t0.size+news.length)=over (w4 w.heap b1) (o1+lo*t0.size) news:=by rw [dJ]; rfl
 rw [ix] at jf;obtain ⟨fa,hcs⟩:=Et (w:=w) (b:=b1) (off:=o1+lo*t0.size) (cs:=news) ⟨arr,T',⟨fz,e1,ef.imp id (·.2)⟩,by omega⟩;generalize gH:w.setRow b1 (over (w4 w.heap b1) (o1+lo*t0.size) news).toArray=w' at jf fa hcs;have aW:w'.heap.size=w.heap.size:=by rw [<- gH]; exact setRow_size
 have bj:D3 [b1] w w':=⟨by rw [<- gH]; rfl,.of (by rw [<- gH]; rfl) (by rw [<- gH]; rfl),by rw [<- gH]; rfl,by rw [aW]; exact Nat.le_refl _,λ c _ cw=>by rw [<- gH]; exact setRow_other (by simpa using cw)⟩;have dR:U0 t0.isB w'.heap b1 (o1+cap*t0.size):=fa.GA ⟨arr,T',⟨fz,e1,ef⟩,hn⟩;have hlen:(l.take lo++m++l.drop (lo+m.length)).length=l.length:=by simp only [List.length_append,List.length_take,List.length_drop]; omega
 have kv:∀ {O:List Nat} {cs:List Value} {y:t0.den},i6 w.heap S t0 O cs y->i6 w'.heap S t0 O cs y:=by
  intro O cs y hr;have hO:=i6.N1 bZ hr;subst hO;refine hr.s9 (λ c cS=>bj.frame c ?_ ?_) (λ _ h=>h)
  ·rcases cS with h9|h9
   ·cases h9
   ·exact h.hs.slt c h9
  ·rcases cS with h9|h9
   ·cases h9
   ·rintro h8
    have:c=b1:=by simpa using h8
    exact (bN b1 dC).1 (this▸h9)
 have iD:∀ {cs:List Value} {l':List t0.den},j5 (i6 w.heap S t0) t0.size [] cs l'->j5 (i6 w'.heap S t0) t0.size [] cs l':=λ hr=>j5.mono (L:=[]) (λ _ h=>h) (λ _ _ _ _ hr=>kv hr) hr;have eE:∀ {k:Nat} {l':List t0.den} {O:List Nat} {cs:List Value},k<=l'.length->j5 (i6 w.heap S t0) t0.size O cs l'->j5 (i6 w.heap S t0) t0.size [] (cs.take (k*t0.size)) (l'.take k)/\j5 (i6 w.heap S t0) t0.size [] (cs.drop (k*t0.size)) (l'.drop k):=by
  intro k
  induction k with
  | zero =>
   intro l' O cs _ hr;have:=j5.N1 (λ _ _ _ hr=>i6.N1 bZ hr) hr;subst this;simp only [Nat.zero_mul,List.take_zero,List.drop_zero];exact ⟨⟨rfl,rfl⟩,hr⟩
  | succ k ih =>
   intro l' O cs hk hr
   match l',hk,hr with
   | x::l',hk,⟨O1,O2,_,r1,r2⟩ =>
    obtain ⟨q1,q2⟩:=ih (by simpa using hk) r2;have e9:=i6.N1 bZ r1;subst e9;refine ⟨⟨[],[],rfl,?_,?_⟩,?_⟩
    ·rw [List.take_take,Nat.min_eq_left (by rw [Nat.succ_mul]; omega)]; exact r1
    ·rw [List.drop_take,show (k+1)*t0.size - t0.size=k*t0.size by rw [Nat.succ_mul]; omega]; exact q1
    ·rw [List.drop_drop,show t0.size+k*t0.size=(k+1)*t0.size by rw [Nat.succ_mul]; omega] at q2; exact q2
 have bJ:d9 w'.heap b1 o1 (l.length*t0.size)=(d9 w.heap b1 o1 (l.length*t0.size)).take (lo*t0.size)++news++(d9 w.heap b1 o1 (l.length*t0.size)).drop ((lo+m.length)*t0.size):=by
  have e3:l.length*t0.size=lo*t0.size+(news.length+(l.length - (lo+m.length))*t0.size):=by
   rw [fY,<- Nat.add_mul,<- Nat.add_mul]; congr 1; omega
  have e4:o1+lo*t0.size+news.length=o1+(lo+m.length)*t0.size:=by rw [fY,Nat.add_mul]; omega
  rw [n6 _ _ _ _ (by omega),o5];have e5:l.length*t0.size - (lo+m.length)*t0.size=(l.length - (lo+m.length))*t0.size:=by rw [Nat.sub_mul]
  rw [e5]
  conv=>lhs; rw [e3]
  rw [KB,KB,hcs,e4,fa.cells gP (λ _=>.inl (Nat.le_refl _)),fa.cells gP (λ _=>.inr (by rw [fY,Nat.add_mul]; omega)),List.append_assoc]
 have qg:j5 (i6 w'.heap S t0) t0.size [] (d9 w'.heap b1 o1 (l.length*t0.size)) (l.take lo++m++l.drop (lo+m.length)):=by
  rw [bJ];exact j5.append (λ _ _ _ h=>h.length) (j5.append (λ _ _ _ h=>h.length) (iD (eE (by omega) c5).1) (iD hN)) (iD (eE (by omega) c5).2)
 have fA:i6 w'.heap S (.d0 true t0) [b1] [.slice (some ⟨b1,o1,none⟩) l.length cap] (l.take lo++m++l.drop (lo+m.length)):=by
  refine .inr ⟨b1,o1,cap,[],by rw [hlen],by rw [hlen]; exact c2,c3,?_,by rw [hlen]; exact qg,rfl,dR⟩;rw [hlen];have:=dR.free.w4;omega
 have tD:∃ O,OB w'.heap S (ι.C6 i O) i (e.D9 r)/\∀ c∈l6 (ι.C6 i O) i (e.D9 r),c∈l6 ι i e:=by
  have bh:∀ (ob:OB w'.heap S ι i (e.D9 r)),∃ O,OB w'.heap S (ι.C6 i O) i (e.D9 r)/\∀ c∈l6 (ι.C6 i O) i (e.D9 r),c∈l6 ι i e:=by
   intro ob;refine ⟨ι.own i,?_,?_⟩
   ·cases e<;>simpa [OB,Ix.C6,g9.D9] using ob
   ·intro c cS
    cases e with
    | var t x=>simpa [l6,Ix.C6,g9.D9] using cS
    | own t x=>simpa [l6,Ix.C6,g9.D9] using cS
    | K6=>exact absurd rfl cF
  obtain ⟨b0,off0,bW,gz⟩:=hc;rcases c0U bL with ⟨t,x,rfl⟩|⟨t,x,rfl,hp⟩
  ·
   have mg:=aM;obtain ⟨b,off,hl⟩:=BA (h.hs.ob i _ he) h.hs.slt (.inl ⟨_,_,rfl⟩) aM hg;have iv:=(C4 hl).1;rw [bW] at iv; cases iv;have dI:=(C4 hl).2;obtain ⟨Oq,q1,q2,q3,q4,q5,q6⟩:=M6 cF (h.hs.ob i _ he) h.hs.slt aM hg hl;have mQ:d9 w.heap b0 off0 1=[.slice (some ⟨b1,o1,none⟩) l.length cap]:=by
    rw [l5 (F7 dI)] at gz; exact gz.symm
   have qi:Oq=[b1]:=by
    have q3':i6 w.heap S (.d0 true t0) Oq [.slice (some ⟨b1,o1,none⟩) l.length cap] l:=by rw [<- mQ]; exact q3
    exact q3'.det fy
   subst qi;have kW:=(h.hs.ob i _ he).yN cF h.hs.slt aM hg hl q3;have kT:d9 w'.heap b0 off0 1=[.slice (some ⟨b1,o1,none⟩) l.length cap]:=by
    rw [l5 (bj.frame b0 dI kW)]; exact mQ
   exact bh (OB.set (h.hs.ob i _ he) bN h.hs.slt (.inl ⟨_,_,rfl⟩) aM hg hl (by rw [aW]; exact Nat.le_refl _) q3 (λ c cD pM=>bj.frame c cD pM) (by
    show i6 w'.heap S (.d0 true t0) [b1] (d9 w'.heap b0 off0 1) _;rw [kT]; exact fA) aK).1
  ·
   rcases hp with rfl|⟨j,q,rfl⟩
   ·have jX:j9 (.d0 true t) x []=some ⟨.d0 true t0,l⟩:=hg
    rw [B9] at jX;simp only [Option.some.injEq,Sigma.mk.injEq,Ty.d0.injEq,true_and] at jX;obtain ⟨rfl,qu⟩:=jX;obtain rfl:x=l:=eq_of_heq qu;obtain ⟨⟨O9,rT,qh⟩,oZ⟩:=h.hs.ob i _ he;have iI:ι.cells i=[.slice (some ⟨b1,o1,none⟩) (List.length x) cap]:=by
     rw [H2 cF,y6] at bW;cases bW;have qL:(ι.cells i).length=1:=qh.length;simp only [VH,VR,d9,vU,List.drop_zero,Ty.size] at gz;rw [List.take_of_length_le (by omega)] at gz;exact gz.symm
    have jH:s8 (.d0 true t) x [] (.d0 true t) (x.take lo++m++x.drop (lo+m.length))=some r:=aK;have hr:r=⟨.d0 true t,x.take lo++m++x.drop (lo+m.length)⟩:=by
     simp only [s8,if_true,Option.some.injEq] at jH;exact jH.symm
    subst hr;rw [iI] at qh;have tE:O9=[b1]:=qh.det fy;subst tE;refine bh ⟨⟨[b1],rT,?_⟩,oZ⟩;rw [iI]; exact fA
   ·obtain ⟨b,off,hl⟩:=BA (h.hs.ob i _ he) h.hs.slt (.inr ⟨_,_,_,_,rfl,rfl⟩) aM hg
    have iv:=(C4 hl).1;rw [bW] at iv; cases iv;have dI:=(C4 hl).2;obtain ⟨Oq,q1,q2,q3,q4,q5,q6⟩:=M6 cF (h.hs.ob i _ he) h.hs.slt aM hg hl;have mQ:d9 w.heap b0 off0 1=[.slice (some ⟨b1,o1,none⟩) l.length cap]:=by
     rw [l5 (F7 dI)] at gz; exact gz.symm
    have qi:Oq=[b1]:=by
     have q3':i6 w.heap S (.d0 true t0) Oq [.slice (some ⟨b1,o1,none⟩) l.length cap] l:=by rw [<- mQ]; exact q3
     exact q3'.det fy
    subst qi;have kW:=(h.hs.ob i _ he).yN cF h.hs.slt aM hg hl q3;have kT:d9 w'.heap b0 off0 1=[.slice (some ⟨b1,o1,none⟩) l.length cap]:=by
     rw [l5 (bj.frame b0 dI kW)]; exact mQ
    exact bh (OB.set (h.hs.ob i _ he) bN h.hs.slt (.inr ⟨_,_,_,_,rfl,rfl⟩) aM hg hl (by rw [aW]; exact Nat.le_refl _) q3 (λ c cD pM=>bj.frame c cD pM) (by
     show i6 w'.heap S (.d0 true t0) [b1] (d9 w'.heap b0 off0 1) _;rw [kT]; exact fA) aK).1
 obtain ⟨O,aS,nS⟩:=tD;refine ⟨w',_,jf,h.renew he (Sy bL) F2.nil (L:=l6 ι i e) (bj.mono (by simpa using dC)) (λ b hb=>.inl hb) (λ _ h=>h) (λ _ h=>.inl h) (O':=O) aS (λ c cS=>?_)⟩;have:=h.hs.bl i e he c (nS c cS);exact ⟨this.1,.inr (nS c cS),by rw [aW]; exact this.2.2⟩
theorem c0T (h:RS B S ι s a w) {i:Nat} {e:g9} (he:look i s.hp=some e) {p:List Step} {r:Sigma Ty.den} (bL:yq e p r=true) (hr:e.D9 r=e):∃ ι',RS B S ι' ((s.Y8 i e.Y9).w6 i (e.D9 r)) a w:=by
 have eN:=Sy bL;rw [hr] at eN ⊢;have hs:ι.C6 i (ι.own i)=ι:=by
  cases ι with
  | mk r c o =>
   simp only [Ix.C6,Ix.mk.injEq,true_and]
   funext j
   split
   ·rename_i e9; rw [e9]
   ·rfl
 exact ⟨_,h.renew he eN F2.nil (L:=l6 ι i e) ⟨rfl,.refl _,rfl,Nat.le_refl _,λ _ _ _=>rfl⟩ (λ b hb=>.inl hb) (λ _ h=>h) (λ _ h=>.inl h) (O':=ι.own i) (by rw [hs]; exact h.hs.ob i e he) (λ c cS=>by
  rw [hs] at cS;have:=h.hs.bl i e he c cS;exact ⟨this.1,.inr cS,this.2.2⟩)⟩
theorem HK (h:RS B S ι s a w) {v:AV} {val:Value} (hv:VX w.heap S ι s.hp v [val]) {i:Nat} {p:List Step} {lo hi:Int} (hd:v.vO s=some (i,p,lo,hi)) :
  ∃ e t0 l A cap c A',look i s.hp=some e/\w9 e.ty e.x p/\j9 e.ty e.x p=some ⟨.d0 true t0,l⟩/\Cells w.heap ι i e p (.d0 true t0) [.slice A (List.length l) cap]/\0<=lo/\lo<=hi/\hi<=(List.length l:Int) /\
   val=.slice A' (hi - lo).toNat c/\(c≠0->A'=A.map (·.add (lo.toNat*t0.size)))/\(hi - lo).toNat<=c:=by
 unfold AV.vO at hd;split at hd
 ·rename_i j q
  split at hd
  ·rename_i t0 l cO
   cases hd;obtain ⟨e,u,y,cs,h1,h2,h3,h4,h5⟩:=hv;have hg:=H3 h1 cO;rw [h3] at hg; cases hg;obtain ⟨O2,m1,m2,m3⟩:=G1 h.hs h1 h2 h3 h4;obtain ⟨A,cap,hcs,hle⟩:∃ A cap,cs=[.slice A (List.length l) cap]/\List.length l<=cap:=by
    rcases m3 with ⟨_,⟨A,c,e0,eL⟩,hl⟩|⟨b2,o2,cap2,O',c1,c2,_⟩
    ·subst hl; exact ⟨A,c,e0,Nat.zero_le _⟩
    ·exact ⟨_,_,c1,c2⟩
   subst hcs;refine ⟨e,t0,l,A,cap,cap,A,h1,h2,h3,h4,Int.le_refl _,by omega,Int.le_refl _,?_,λ _=>?_,by omega⟩
   ·have h5:val=.slice A (List.length l) cap:=by simpa [p7,Ty.agg] using h5
    rw [h5,show ((List.length l:Int) - 0).toNat=List.length l by omega]
   ·cases A with
    | none=>rfl
    | some A=>simp [Addr.add]
  ·cases hd
 ·rename_i j q lo' cR
  split at hd
  ·rename_i t0 l cO
   cases hd;obtain ⟨e,v',h1,h2,h3,h4,h5,h6⟩:=hv;have hg:=H3 h1 cO;cases h3;rcases h6 with ⟨t1,l1,A,cap,k1,k2,k3,c,A',k4,k5,k6,k7⟩|⟨n,t1,l1,b,off,k1,_,_,_⟩
   ·rw [k1] at hg; cases hg
    exact ⟨e,t0,l,A,cap,c,A',h1,h2,k1,k3,h4,h5,k2,k4,k5,k6⟩
   ·rw [k1] at hg; cases hg
  ·cases hd
 ·cases hd
theorem ZA {t:Ty} {O:List Nat} {cs:List Value} {l:List t.den} (bZ:t.shared=true) (hr:j5 (i6 w.heap S t) t.size O cs l):∀ {k:Nat},j5 (i6 w.heap S t) t.size [] (cs.take (k*t.size)) (l.take k):=by
 have hO:=j5.N1 (λ _ _ _ hr=>i6.N1 bZ hr) hr;subst hO;intro k
 induction k generalizing cs l with
 | zero=>simp only [Nat.zero_mul,List.take_zero]; exact ⟨rfl,rfl⟩
 | succ k ih =>
  match l,hr with
  | [],⟨_,e⟩=>subst e; simp only [List.take_nil]; exact ⟨rfl,rfl⟩
  | x::l,⟨O1,O2,e,r1,r2⟩ =>
   obtain ⟨rfl,rfl⟩:=List.append_eq_nil_iff.1 e.symm;refine ⟨[],[],rfl,?_,?_⟩
   ·rw [List.take_take,Nat.min_eq_left (by rw [Nat.succ_mul]; omega)]; exact r1
   ·rw [List.drop_take,show (k+1)*t.size - t.size=k*t.size by rw [Nat.succ_mul]; omega]; exact ih r2
theorem KE {P:Program} (h:RS B S ι s a w) {v:AV} {val:Value} (hv:VX w.heap S ι s.hp v [val]) {i:Nat} {p:List Step} {lo hi:Int} (hd:v.vO s=some (i,p,lo,hi)) {t:Ty} {m:List t.den} (hm:(m.length:Int)<=hi - lo) {news:List Value} (hN:j5 (i6 w.heap S t) t.size [] news m)
  {s':St} (hf:vv s i p lo.toNat t m=some s'):∃ w' ι' A' c,val=.slice A' (hi - lo).toNat c/\RS B S ι' s' a w'/\((A'=none/\m=[]/\w'=w)\/∃ A,A'=some A/\(storeCells A news).run P w=.ok () w'):=by
 obtain ⟨e,t0,l,A,cap,c,A',h1,h2,h3,h4,h5,h6,h7,h8,h9,iY⟩:=HK h hv hd;unfold vv at hf;have aS:s.obj i=some e:=h1;rw [aS] at hf;simp only [h3] at hf;split at hf
 ·rename_i ht
  subst ht;split at hf
  ·rename_i r aK
   split at hf
   ·rename_i hc
    simp only [Bool.and_eq_true] at hc;cases hf;have aK:s8 e.ty e.x p (.d0 true t) (l.take lo.toNat++m++l.drop (lo.toNat+m.length))=some r:=aK;by_cases gZ:m=[]
    ·subst gZ
     have cY:news=[]:=hN.2;subst cY;have bh:s8 e.ty e.x p (.d0 true t) l=some r:=by
      rw [<- aK]; congr 1; simp
     have hr:r=⟨e.ty,e.x⟩:=by
      have:=Rl h2 h3;rw [bh] at this; cases this; rfl
     have ot:e.D9 r=e:=by
      rw [hr];cases e with
      | K6=>rfl
      | _=>rfl
     obtain ⟨ι',cm⟩:=c0T h h1 hc.2 ot;refine ⟨w,ι',A',c,h8,cm,?_⟩;cases A' with
     | none=>exact .inl ⟨rfl,rfl,rfl⟩
     | some A=>exact .inr ⟨A,rfl,by simp [storeCells]⟩
    ·have gY:1<=m.length:=List.length_pos_iff.2 gZ
     have eL:c≠0:=by omega
     have hA:=h9 eL;obtain ⟨Op,m1,mn,hR⟩:=G1 h.hs h1 h2 h3 h4;rcases hR with ⟨_,⟨A9,c9,e0,uu⟩,hl⟩|⟨b2,o2,cap2,O',c1,c2,c3,_⟩
     ·rw [hl] at h7; simp at h7; omega
     ·simp only [List.cons.injEq,Value.slice.injEq,and_true,true_and] at c1
      obtain ⟨rfl,rfl⟩:=c1;obtain ⟨w',ι',k1,k2⟩:=b70 (P:=P) h h1 h2 h3 hc.1 h4 (c3.2 rfl) (lo:=lo.toNat) (m:=m) (by omega) hN aK hc.2;refine ⟨w',ι',A',c,h8,k2,.inr ⟨⟨b2,o2+lo.toNat*t.size,none⟩,by rw [hA]; simp [Addr.G9],k1⟩⟩
   ·cases hf
  ·cases hf
 ·cases hf
end
end Go.Ex
namespace Go.Ex
theorem Rg {P:Program} {k:Nat} {T:TypeId} {t:Ty} (h:o8 P k T (.hole t)=true):∃ e,P.underlying T=some (.slice e):=by
 cases k with
 | zero=>simp [o8] at h
 | succ k =>
  obtain ⟨d,h1,h2⟩:=P9 h;simp only [o8,Bool.and_eq_true,h1] at h;obtain ⟨_,h⟩:=h;cases d<;>first|(exact (Bool.false_ne_true h).elim)|skip
  ·exact ⟨_,h1⟩
  ·rename_i fs
   have h:m0 (o8 P k) fs.toList 0 (.hole t)=true:=h;cases hf:fs.toList<;>(rw [hf] at h; simp [m0] at h)
theorem PU {P:Program} {k:Nat} {T:TypeId} {t:Ty} (h:o8 P k T (.y8 t)=true):∃ e,P.underlying T=some (.slice e):=by
 cases k with
 | zero=>simp [o8] at h
 | succ k =>
  obtain ⟨d,h1,h2⟩:=P9 h;simp only [o8,Bool.and_eq_true,h1] at h;obtain ⟨_,h⟩:=h;cases d<;>first|(exact (Bool.false_ne_true h).elim)|skip
  ·exact ⟨_,h1⟩
  ·rename_i fs
   have h:m0 (o8 P k) fs.toList 0 (.y8 t)=true:=h;cases hf:fs.toList<;>(rw [hf] at h; simp [m0] at h)
section
variable {E:Env} {B:E1} {S S':Nat->Prop} {ι:Ix} {s:St} {a:Act} {w:World} {hp:List (Nat×g9)} {H H':Array Go.Obj}
theorem SI {P:Program} {e:TypeId} {t:Ty} {n d:Nat} (hT:o8 P n e t=true)
  (hA:∀ {cs cs':List Value} {x y:t.den},i6 H S t [] cs x->i6 H' S' t [] cs' y->(Op.equalIn d e (p7 t cs) (p7 t cs')).run P w=.ok (Y2 t x y) w) {cs cs':List Value} :
  ∀ {l l':List t.den} {k:Nat},l.length=l'.length->j5 (i6 H S t) t.size [] (cs.drop (k*t.size)) l->j5 (i6 H' S' t) t.size [] (cs'.drop (k*t.size)) l' ->
   (Op.eqItems d e t.size cs.toArray cs'.toArray (List.range' k l.length)).run P w=.ok (Y2.Aq (Y2 t) l l') w
 | [],[],k,_,_,_=>by simp [Op.eqItems,Y2.Aq]
 | [],_::_,_,h,_,_=>by cases h
 | _::_,[],_,h,_,_=>by cases h
 | x::l,y::l',k,hl,⟨O1,O2,e1,h1,h2⟩,⟨O3,O4,e2,h3,h4⟩=>by
  obtain ⟨rfl,rfl⟩:=List.append_eq_nil_iff.1 e1.symm;obtain ⟨rfl,rfl⟩:=List.append_eq_nil_iff.1 e2.symm;have p1:=yd (w:=w) hT h1;have p2:=yd (w:=w) hT h3;have e3:=hA h1 h3;have hk:k*t.size+t.size=(k+1)*t.size:=by rw [Nat.succ_mul]
  rw [List.drop_drop,hk] at h2 h4;have ih:=SI hT hA (l:=l) (l':=l') (k:=k+1) (by simpa using hl) h2 h4;simp only [List.length_cons,List.range'_succ,Op.eqItems,Sem.run_bind,p1,p2,Result.andThen,e3,Y2.Aq];cases hq:Y2 t x y with
  | true=>simpa using ih
  | false=>simp
theorem run_eq {P:Program}:∀ (t:Ty),
  (∀ {n m d:Nat} {T:TypeId} {cs cs':List Value} {x y:t.den},o8 P n T t=true->X3 P m T t=true->t.ht<d->i6 H S t [] cs x->i6 H' S' t [] cs' y->(Op.equalIn d T (p7 t cs) (p7 t cs')).run P w=.ok (Y2 t x y) w) /\
  (∀ {n m d off:Nat} {fs:List Field} {cs cs':List Value} {x y:t.den},m0 (o8 P n) fs off t=true->xy (X3 P m) fs t=true->t.ht<=d->i6 H S t [] ((cs.drop off).take t.size) x->i6 H' S' t [] ((cs'.drop off).take t.size) y ->
   (Op.eqFields d cs.toArray cs'.toArray fs).run P w=.ok (Y2 t x y) w):=by
 intro t;have strct:∀ {t:Ty},t.agg=true->(∀ n u,t≠.arr n u) ->
  (∀ {n m d off:Nat} {fs:List Field} {cs cs':List Value} {x y:t.den},m0 (o8 P n) fs off t=true->xy (X3 P m) fs t=true->t.ht<=d->i6 H S t [] ((cs.drop off).take t.size) x->i6 H' S' t [] ((cs'.drop off).take t.size) y ->
   (Op.eqFields d cs.toArray cs'.toArray fs).run P w=.ok (Y2 t x y) w) ->
  (∀ {n m d:Nat} {T:TypeId} {cs cs':List Value} {x y:t.den},o8 P n T t=true->X3 P m T t=true->t.ht<d->i6 H S t [] cs x->i6 H' S' t [] cs' y->(Op.equalIn d T (p7 t cs) (p7 t cs')).run P w=.ok (Y2 t x y) w):=by
  intro t dn lA hB n m d T cs cs' x y hT hq hd h1 h2;obtain ⟨fs,k',g1,g2⟩:=Lf hT dn lA;have fZ:P.underlying T=some (.struct (P.fieldsOf T)):=by simp [Program.fieldsOf,g1]
  have fQ:P.fieldsOf T=fs:=by rw [g1] at fZ; cases fZ; rfl
  cases m with
  | zero=>simp [X3] at hq
  | succ m =>
   have hq:(!P.stoodInHeld T && xy (X3 P m) fs.toList t)=true:=by
    simp only [X3,g1] at hq;exact hq
   simp only [Bool.and_eq_true,Bool.not_eq_true'] at hq;obtain ⟨d,rfl⟩:∃ e,d=e+1:=⟨d - 1,by omega⟩;have hv:∀ cs,p7 t cs=.agg cs.toArray:=by intro cs; simp [p7,dn]
   rw [hv,hv,run_equalIn_struct w d T _ _ fZ hq.1,fQ];refine hB g2 hq.2 (by omega) ?_ ?_
   ·rw [List.drop_zero,List.take_of_length_le (by rw [h1.length]; exact Nat.le_refl _)]; exact h1
   ·rw [List.drop_zero,List.take_of_length_le (by rw [h2.length]; exact Nat.le_refl _)]; exact h2
 induction t with
 | int k =>
  refine ⟨?_,by intro n m d off fs cs cs' x y h; cases fs<;>simp [m0] at h⟩;rintro n m d T cs cs' x y hT _ hd ⟨_,rfl,_⟩ ⟨_,rfl,_⟩;obtain ⟨d,rfl⟩:∃ e,d=e+1:=⟨d - 1,by omega⟩;exact run_equalIn_int w d T k k x y (ye hT)
 | bool =>
  refine ⟨?_,by intro n m d off fs cs cs' x y h; cases fs<;>simp [m0] at h⟩;rintro n m d T cs cs' x y hT _ hd ⟨_,rfl⟩ ⟨_,rfl⟩;obtain ⟨d,rfl⟩:∃ e,d=e+1:=⟨d - 1,by omega⟩;exact run_equalIn_bool (Eu hT) d x y
 | str =>
  refine ⟨?_,by intro n m d off fs cs cs' x y h; cases fs<;>simp [m0] at h⟩;rintro n m d T cs cs' x y hT _ hd ⟨_,rfl,_⟩ ⟨_,rfl,_⟩;obtain ⟨d,rfl⟩:∃ e,d=e+1:=⟨d - 1,by omega⟩;have:=run_equalIn_string w d T (⟨(x:yY).toArray⟩:ByteArray) ⟨(y:yY).toArray⟩ (W6 hT);refine Eq.trans this ?_;rw [ByteArray.toList_eq,ByteArray.toList_eq];congr 1;show ((x:yY) == y)=decide ((x:yY)=y);rw [Bool.eq_iff_iff]; simp
 | unit =>
  have hB:∀ {n m d off:Nat} {fs:List Field} {cs cs':List Value} {x y:Ty.unit.den},m0 (o8 P n) fs off .unit=true->xy (X3 P m) fs .unit=true->Ty.unit.ht<=d->i6 H S .unit [] ((cs.drop off).take Ty.unit.size) x->i6 H' S' .unit [] ((cs'.drop off).take Ty.unit.size) y ->
   (Op.eqFields d cs.toArray cs'.toArray fs).run P w=.ok (Y2 .unit x y) w:=by
   intro n m d off fs cs cs' x y h _ _ _ _;cases fs with
   | nil=>simp [Op.eqFields,Y2]
   | cons f fs=>simp [m0] at h
  exact ⟨strct rfl (by simp) hB,hB⟩
 | pair p q ihp ihq =>
  have hB:∀ {n m d off:Nat} {fs:List Field} {cs cs':List Value} {x y:(Ty.pair p q).den},m0 (o8 P n) fs off (.pair p q)=true->xy (X3 P m) fs (.pair p q)=true->(Ty.pair p q).ht<=d ->
    i6 H S (.pair p q) [] ((cs.drop off).take (Ty.pair p q).size) x->i6 H' S' (.pair p q) [] ((cs'.drop off).take (Ty.pair p q).size) y->(Op.eqFields d cs.toArray cs'.toArray fs).run P w=.ok (Y2 (.pair p q) x y) w:=by
   rintro n m d off fs cs cs' x y hf hq hd ⟨O1,O2,e1,h1,h2⟩ ⟨O3,O4,e2,h3,h4⟩;obtain ⟨rfl,rfl⟩:=List.append_eq_nil_iff.1 e1.symm;obtain ⟨rfl,rfl⟩:=List.append_eq_nil_iff.1 e2.symm;cases fs with
   | nil=>simp [m0] at hf
   | cons f fs =>
    simp only [m0,Bool.and_eq_true] at hf;simp only [xy,Bool.and_eq_true] at hq;obtain ⟨⟨⟨⟨g1,_⟩,g3⟩,g4⟩,g5⟩:=hf;have g1:f.offset=off:=Nat.eq_of_beq_eq_true g1;have sG:p.ht+1<=d/\q.ht<=d:=by
     have:max (p.ht+1) q.ht<=d:=hd;omega
    have aW:(Ty.pair p q).size=p.size+q.size:=rfl;rw [List.take_take,Nat.min_eq_left (by omega)] at h1 h3;rw [List.drop_take,List.drop_drop,aW,Nat.add_sub_cancel_left] at h2 h4;rw [<- g1] at h1 h3;have p1:=yd (w:=w) g3 h1;have p2:=yd (w:=w) g3 h3;have e3:=ihp.1 (d:=d) g3 hq.1 (by omega) h1 h3;have ih:=ihq.2 (d:=d) (cs:=cs) (cs':=cs') g5 hq.2 sG.2 h2 h4;have hn:f.name≠ "_":=by simpa using g4
    simp only [Op.eqFields,hn,ne_eq,not_false_eq_true,if_true,Sem.run_bind,p1,p2,Result.andThen,e3,Y2];cases hh:Y2 p x.1 y.1 with
    | true=>simpa using ih
    | false=>simp
  exact ⟨strct rfl (by simp) hB,hB⟩
 | arr k t ih =>
  refine ⟨?_,by intro n m d off fs cs cs' x y h; cases fs<;>simp [m0] at h⟩;rintro n m d T cs cs' x y hT hq hd ⟨h1,h2⟩ ⟨h3,h4⟩;obtain ⟨e,k',g1,g2,g3⟩:=xo hT;cases m with
  | zero=>simp [X3] at hq
  | succ m =>
   have hq:X3 P m e t=true:=by simpa only [X3,g1] using hq
   obtain ⟨d,rfl⟩:∃ e,d=e+1:=⟨d - 1,by omega⟩;obtain ⟨i,hi,sD,_⟩:=W0 g3;have hc:P.cellsOf e=t.size:=by simp [Program.cellsOf,hi,sD]
   have hv:∀ cs,p7 (.arr k t) cs=.agg cs.toArray:=λ cs=>rfl;have jY:t.ht<d:=by have:t.ht+1<d+1:=hd; omega
   rw [hv,hv,run_equalIn_array w d _ _ g1 hi,hc,List.range_eq_range'];have:=SI (w:=w) (cs:=cs) (cs':=cs') (l:=x) (l':=y) (k:=0) g3 (λ a b=>ih.1 g3 hq jY a b) (by rw [h1,h3]) (by simpa using h2) (by simpa using h4);rw [h1] at this;exact this
 | fn f =>
  refine ⟨?_,by intro n m d off fs cs cs' x y h; cases fs<;>simp [m0] at h⟩;rintro n m d T cs cs' x y hT hq;obtain ⟨_,_,_,g1⟩:=NT hT;cases m<;>simp [X3,g1] at hq
 | map o a b =>
  refine ⟨?_,by intro n m d off fs cs cs' x y h; cases fs<;>simp [m0] at h⟩;rintro n m d T cs cs' x y hT hq;obtain ⟨_,_,_,g1,_⟩:=IH hT;cases m<;>simp [X3,g1] at hq
 | box o g t =>
  refine ⟨?_,by intro n m d off fs cs cs' x y h; cases fs<;>simp [m0] at h⟩;rintro n m d T cs cs' x y hT hq;cases g with
  | none =>
   obtain ⟨_,_,g1,_⟩:=IG hT;cases m<;>simp [X3,g1] at hq
  | some f =>
   obtain ⟨_,_,_,g1⟩:=Rf hT;cases m<;>simp [X3,g1] at hq
 | d0 o t ih =>
  refine ⟨?_,by intro n m d off fs cs cs' x y h; cases fs<;>simp [m0] at h⟩;rintro n m d T cs cs' x y hT hq;obtain ⟨e,k',g1,_⟩:=F8 hT;cases m<;>simp [X3,g1] at hq
 | hole t ih =>
  refine ⟨?_,by intro n m d off fs cs cs' x y h; cases fs<;>simp [m0] at h⟩;rintro n m d T cs cs' x y hT hq;obtain ⟨e,g1⟩:=Rg hT;cases m<;>simp [X3,g1] at hq
 | y8 t ih =>
  refine ⟨?_,by intro n m d off fs cs cs' x y h; cases fs<;>simp [m0] at h⟩;rintro n m d T cs cs' x y hT hq;obtain ⟨e,g1⟩:=PU hT;cases m<;>simp [X3,g1] at hq
theorem Qc (hE:C8 E B) (h:RS B S ι s a w) {o:Oper} {op:BinOp} {T T':TypeId} {x y:Operand} (ho:o.op=.binOp op T x y T') {t u:Ty} {p:t.den} {q:u.den} (hx:s.ev x=.val t p) (hy:s.ev y=.val u q):E8 E.P B o a w (eqA E T op t p u q s):=by
 unfold eqA
 split
 ·rename_i hu
  subst hu;have core:(u.agg && I6 E T u && X3 E.P 100 T u && !(E.P.eqGuardType E.P.depth T) && Nat.blt u.ht 100)=true ->
    ∃ cs cs',a.eval x=.agg cs/\a.eval y=.agg cs'/\(∀ op,(eqGuard op T x y (a.eval x) (a.eval y)).run E.P w=.ok () w)/\(Op.equalIn 10000 T (.agg cs) (.agg cs')).run E.P w=.ok (Y2 u p q) w:=by
   intro hc;simp only [Bool.and_eq_true,Bool.not_eq_true',Nat.blt_eq] at hc;obtain ⟨⟨⟨⟨c1,c2⟩,c3⟩,c4⟩,c5⟩:=hc;obtain ⟨cs,e1,h1⟩:=C2 h hx;obtain ⟨cs',e2,h2⟩:=C2 h hy;have hv:∀ cs,p7 u cs=.agg cs.toArray:=by intro cs; simp [p7,c1]
   have e1:a.eval x=.agg cs.toArray:=by rw [hv] at e1; simpa using e1
   have e2:a.eval y=.agg cs'.toArray:=by rw [hv] at e2; simpa using e2
   refine ⟨_,_,e1,e2,λ op=>by rw [e1,e2]; exact run_eqGuard_agg w op T x y _ _ c4,?_⟩;have:=(run_eq (P:=E.P) (w:=w) (H:=w.heap) (H':=w.heap) (S:=S) (S':=S) u).1 (d:=10000) (D0 hE c2) c3 (by omega) h1 h2
   rwa [hv,hv] at this
  split
  ·rename_i hc
   obtain ⟨cs,cs',e1,e2,hg,he⟩:=core hc;refine y7.value (val:=.bool (Y2 u p q)) ?_ h VX.bool;rw [S9 ho (hg .eql) (r:=.ok (.bool (Y2 u p q)) w)]; rfl;rw [e1,e2,run_eql_struct,he]; rfl
  ·rename_i hc
   obtain ⟨cs,cs',e1,e2,hg,he⟩:=core hc;refine y7.value (val:=.bool (!(Y2 u p q))) ?_ h VX.bool;rw [S9 ho (hg .neq) (r:=.ok (.bool (!(Y2 u p q))) w)]; rfl;rw [e1,e2,run_neq_struct,he]; rfl
  ·trivial
 ·trivial
theorem c0v (hE:C8 E B) (h:RS B S ι s a w) {o:Oper} {op:BinOp} {T T':TypeId} {x y:Operand} (ho:o.op=.binOp op T x y T') {i:Nat} {p:List Step} (ex:s.ev x=.ptr i p) (ey:s.ev y=.raw (.pointer none)):E8 E.P B o a w (zi E T op s):=by
 have hx:=h.ev x;have hy:=h.ev y;rw [ex] at hx; rw [ey] at hy;obtain ⟨e,b,off,-,-,-,hx⟩:=hx;have hx:a.eval x=.pointer (some ⟨b,off,none⟩):=by simpa using hx
 have hy:a.eval y=.pointer none:=by
  have hy:[a.eval y]=[Value.pointer none]:=hy;simpa using hy
 have hg:(eqGuard op T x y (a.eval x) (a.eval y)).run E.P w=.ok () w:=by rw [hx,hy]; cases op<;>rfl
 have run:∀ {o':Bool} {t:Ty} {n:Nat},look T E.tt=some ⟨.box o' none t,n⟩->(Op.equal T (.pointer (some ⟨b,off,none⟩)) (.pointer none)).run E.P w=.ok false w:=by
  intro o' t n hl;obtain ⟨e',k',h1,-⟩:=IG (p9 (B:=B) hE hl);have key:∀ d,(Op.equalIn (d+1) T (.pointer (some ⟨b,off,none⟩)) (.pointer none)).run E.P w=.ok false w:=λ d=>by simp [Op.equalIn,u6 h1]
  exact key 9999
 unfold zi
 split
 ·rename_i hl
  exact y7.value (by rw [S9 ho hg (r:=.ok (.bool false) w)]; rfl; rw [hx,hy]; simp [binOp,run hl]) h VX.bool
 ·rename_i hl
  exact y7.value (by rw [S9 ho hg (r:=.ok (.bool true) w)]; rfl; rw [hx,hy]; simp [binOp,run hl]) h VX.bool
 ·trivial
theorem c1N (hE:C8 E B) (h:RS B S ι s a w) {o:Oper} {op:BinOp} {T T':TypeId} {x y:Operand} (ho:o.op=.binOp op T x y T'):E8 E.P B o a w (wa E T op (s.ev x) (s.ev y) s):=by
 unfold wa
 split
 ·rename_i e1 e2; exact c0v hE h ho e1 e2
 ·rename_i e1 e2; exact Qc hE h ho e1 e2
 ·rename_i e1 e2; exact Qc hE h ho e1 e2
 ·exact c1O hE h ho
end
end Go.Ex
namespace Go.Ex
section
variable {E:Env} {B:E1} {S S':Nat->Prop} {ι:Ix} {s:St} {a:Act} {w:World} {hp:List (Nat×g9)} {H H':Array Go.Obj}
theorem Uj (h:HS B S ι s.hp w) {v:AV} {val:Value} (hv:VX w.heap S ι s.hp v [val]) {k u:Ty} {m:Option (List (k.den×u.den))} (hm:v.mp s=some ⟨(k,u),m⟩) :
  (m=none/\val=.map none)\/∃ l b es ck,m=some l/\val=.map (some b)/\w.heap[b]?=some (.map es ck)/\uJ (i6 w.heap S k []) (i6 w.heap S u []) k u es.toList l:=by
 have key:∀ {o:Bool} {O:List Nat} {cs:List Value},i6 w.heap S (.map o k u) O cs m->val=p7 (.map o k u) cs->(m=none/\val=.map none)\/∃ l b es ck,m=some l/\val=.map (some b)/\w.heap[b]?=some (.map es ck)/\uJ (i6 w.heap S k []) (i6 w.heap S u []) k u es.toList l:=by
  rintro o O cs (⟨h1,_,rfl⟩|⟨l,b,es,ck,h1,rfl,h3,h4,_⟩) e
  ·exact .inl ⟨h1,by simpa [p7,Ty.agg] using e⟩
  ·exact .inr ⟨l,b,es,ck,h1,by simpa [p7,Ty.agg] using e,h3,h4⟩
 unfold AV.mp at hm;split at hm
 ·cases hm
  obtain ⟨cs,e,hR⟩:=hv;exact key hR (by simpa using e)
 ·rename_i i p
  split at hm
  ·rename_i o k' v' m' cO
   cases hm;obtain ⟨e,u',y,cs,k1,k2,k3,k4,k5⟩:=hv;have hg:=H3 k1 cO;rw [k3] at hg; cases hg;obtain ⟨O2,m1,m2,m3⟩:=G1 h k1 k2 k3 k4;exact key m3 (by simpa using k5)
  ·cases hm
 ·cases hm
theorem b4i (hE:C8 E B) (h:RS B S ι s a w) {o:Oper} {T:TypeId} {x y:Operand} {ok:Bool} (ho:o.op=.lookup T x y ok):E8 E.P B o a w (Ig E T (s.ev x) (s.ev y) ok s):=trivial
theorem b4h (_hE:C8 E B) (h:RS B S ι s a w) {o:Oper} {T:TypeId} {r:Option Operand} (ho:o.op=.makeMap T r):E8 E.P B o a w (l8 E o s):=by
 unfold l8; rw [ho]; trivial
theorem b4v (hE:C8 E B) (h:RS B S ι s a w) {o:Oper} {c:Call} (ho:o.op=.call c) (hc:c.callee=.builtin .append) {x y:Operand} {T U:TypeId} (ha:c.args.toList=[x,y]) (eV:c.argTypes.toList=[T,U])
  {kd:IntKind} (hU:E.P.underlying U=some (.int kd)):E8 E.P B o a w (zM E T (s.ev x) (s.ev y) o.dst s):=by
 unfold zM
 split
 ·rename_i t0 bts d k n hT hd hx hy
  refine E8.Ii (λ v s' hl hp=>?_);have cY:@LE.le Int Int.instLEInt 0 n:=hp.1;obtain ⟨N,rfl⟩:∃ N:Nat,n=((N:Nat):Int):=⟨Int.toNat n,(Int.toNat_of_nonneg cY).symm⟩;have cF:N<=140737488355328:=by have:@LE.le Int Int.instLEInt (N:Int) 140737488355328:=hp.2.1; omega
  have gN:N*t0.wb<=140737488355328:=by
   have:@LE.le Int Int.instLEInt ((N:Int)*(t0.wb:Nat)) 140737488355328:=hp.2.2;rw [<- Int.natCast_mul] at this;omega
  obtain ⟨et,k2,h1,h2,h3⟩:=F8 (p9 hE hT);obtain ⟨i,hi,eu,kK⟩:=W0 h3;have lE:=KH h3 hi;have ed:a.eval x=.slice none 0 0:=by simpa using (show [a.eval x]=[Value.slice none 0 0] from C2 h hx)
  obtain ⟨dD,_⟩:=VX.H4 (C2 h hy);have aH:c.args=#[x,y]:=by rw [<- ha]
  have ew:c.argTypes=#[T,U]:=by rw [<- eV]
  have dV:=h.w7 (g:=[]) rfl;have e0:List.replicate (Int.toNat (N:Int)) t0.s4=List.replicate N t0.s4:=rfl;by_cases h0:N=0
  ·subst h0
   have aP:(execOp a.eval o).run E.P w=.ok (.value (.slice none 0 0)) w:=by
    have:IntKind.i64.wrap 0=0:=rfl;simp [execOp,ho,resolve,hc,invoke,builtin,aH,ew,Builtin.append_,u6 h1,u6 hU,ed,dD,run_sizeOf h3,asInt,asIntOf,this,typeInfo,hi,Result.andThen]
   exact y7.lay hl aP (O:=[]) (cs:=[.slice none 0 0]) (by simp [p7,Ty.agg]) (.inl ⟨rfl,⟨none,0,rfl,λ _=>rfl⟩,rfl⟩) dV F2.nil
  ·have hr:=Lib.run_append_grow_zeros (P:=E.P) w T U o.type et i (p7 t0 (zc t0)) k kd h1 hU hi kK none 0 0 [] (run_firstCells_none w.drew _ 0 0 0) N (by omega) (by rw [eu]; exact h2) (by omega) (by omega) (by rw [lE]; omega) (by rw [lE]; exact growslice_fits (by omega) (by simpa using gN))
   simp only [Nat.zero_add] at hr;have jW:=grownCap_ge w N 0 et;have fN:=grownCap_le_maxLen w N 0 et (by unfold maxLen; omega);generalize kO:grownCap w N 0 et=gc at hr jW fN;have ja:(p7 t0 (zc t0)).cells=(zc t0).toArray:=(i6.s4 (H:=w.heap) (S:=S) t0).cells;have cC:(([]:List Value).toArray++Builtin.zeroCells (p7 t0 (zc t0)).cells N++Builtin.zeroCells (p7 t0 (zc t0)).cells (gc - N))=((List.replicate N (zc t0)).flatten++(List.replicate (gc - N) (zc t0)).flatten).toArray:=by
    rw [ja,EU,EU]; simp
   rw [cC] at hr;have jo:((List.replicate N (zc t0)).flatten).length=N*t0.size:=by simp [Q5]
   have bj:D3 [] w (w.drew.alloc (.cells ((List.replicate N (zc t0)).flatten++(List.replicate (gc - N) (zc t0)).flatten).toArray et)):=D3.trans D3.drew (D3.push _) (by simp);obtain ⟨O',q1,q2,q3⟩:=Ec (w:=w) (t:=t0) (l:=List.replicate N t0.s4) (cap:=gc) h.hs.slt (O:=[]) (cells:=(List.replicate N (zc t0)).flatten++(List.replicate (gc - N) (zc t0)).flatten) (by
    rw [List.length_replicate,List.take_left' jo]; exact j5.GN N) (by rw [List.length_replicate]; exact jW) fN (by
    simp only [List.length_append,jo,List.length_flatten,List.map_replicate,List.sum_replicate_nat,Q5];rw [<- Nat.add_mul]; exact Nat.mul_le_mul_right _ (by omega)) et (by simp) (w':=w.drew.alloc (.cells ((List.replicate N (zc t0)).flatten++(List.replicate (gc - N) (zc t0)).flatten).toArray et)) rfl (.inl rfl)
   rw [List.length_replicate] at q1;have aP:(execOp a.eval o).run E.P w=.ok (.value (.slice (some ⟨w.heap.size,0,none⟩) N gc)) (w.drew.alloc (.cells ((List.replicate N (zc t0)).flatten++(List.replicate (gc - N) (zc t0)).flatten).toArray et)):=by
    simp [execOp,ho,resolve,hc,invoke,builtin,aH,ew,ed,dD,hr]
   have aW:w.heap.size<(w.drew.alloc (.cells ((List.replicate N (zc t0)).flatten++(List.replicate (gc - N) (zc t0)).flatten).toArray et)).heap.size:=by
    show w.heap.size<(w.heap.push _).size;simp
   exact y7.lay hl aP (cs:=[.slice (some ⟨w.heap.size,0,none⟩) N gc]) (by simp [p7,Ty.agg]) q1 (dV.uO F2.nil bj) (F2.new dV F2.nil bj aW q2 (q3 List.nodup_nil))
 ·trivial
theorem uJ.length {α β:Type} {R:List Value->α->Prop} {R':List Value->β->Prop} {t u:Ty}:∀ {es:List MapEntry} {l:List (α×β)},uJ R R' t u es l->es.length=l.length
 | [],l,h=>by rw [show l=[] from h]; rfl
 | _::es,_,⟨x,y,l',cs,ds,rfl,_,_,_,_,h⟩=>by simp [uJ.length h]
theorem uJ.set {α β:Type} {R:List Value->α->Prop} {R':List Value->β->Prop} {t u:Ty} {e:MapEntry} {x:α} {y:β} {cs ds:List Value} (h1:e.key=p7 t cs) (h2:R cs x) (h3:e.val=p7 u ds) (h4:R' ds y) :
  ∀ {es:List MapEntry} {l:List (α×β)} {i:Nat},i<es.length->uJ R R' t u es l->uJ R R' t u (es.set i e) (l.set i (x,y))
 | [],_,_,hi,_=>by simp at hi
 | _::es,_,0,_,⟨x',y',l',c,d,rfl,g1,g2,g3,g4,h⟩=>⟨x,y,l',cs,ds,rfl,h1,h2,h3,h4,h⟩
 | _::es,_,i+1,hi,⟨x',y',l',c,d,rfl,g1,g2,g3,g4,h⟩=>⟨x',y',l'.set i (x,y),c,d,rfl,g1,g2,g3,g4,uJ.set h1 h2 h3 h4 (by simpa using hi) h⟩
theorem b99 (hE:C8 E B) (h:RS B S ι s a w) {o:Oper} {T:TypeId} {m x y:Operand} (ho:o.op=.mapUpdate T m x y):E8 E.P B o a w (Fy E T (s.ev m) (s.ev x) (s.ev y) s):=trivial
end
end Go.Ex
namespace Go.Ex
section
variable {E:Env} {B:E1} {S S':Nat->Prop} {ι:Ix} {s:St} {a:Act} {w:World} {hp:List (Nat×g9)} {H H':Array Go.Obj}
theorem Nd:∀ {n:Nat} {l v:AV} {us:List Value},l8.nth n l=some v->VX H S ι hp l us->∃ u,us[n]?=some u/\VX H S ι hp v [u]
 | 0,l,v,us,h,hl=>by
  cases l<;>simp only [l8.nth] at h<;>first|cases h|skip
  obtain ⟨u,us',rfl,ha,hb⟩:=hl;exact ⟨u,rfl,ha⟩
 | n+1,l,v,us,h,hl=>by
  cases l<;>simp only [l8.nth] at h<;>first|cases h|skip
  obtain ⟨u,us',rfl,ha,hb⟩:=hl;obtain ⟨u2,e,h2⟩:=Nd h hb;exact ⟨u2,by simpa using e,h2⟩
theorem SY (h:RS B S ι s a w) {o:Oper} {c:Call} (ho:o.op=.call c) {P:Program} {x:Operand} {l:List Operand} (ha:c.args.toList=x::l) {k:IntKind} {m:Int} (hx:s.ev x=.val (.int k) m) :
  (c.callee=.builtin .max->E8 P B o a w (foldI s k (λ a b=>if a<b then b else a) m l))/\(c.callee=.builtin .min->E8 P B o a w (foldI s k (λ a b=>if b<a then b else a) m l)):=by
 obtain ⟨fU,bx⟩:=VX.H4 (C2 h hx);have aH:c.args.map a.eval=(a.eval x::l.map a.eval).toArray:=by
  apply Array.ext';simp [ha]
 constructor
 ·intro hc
  cases hl:foldI s k (λ a b=>if a<b then b else a) m l with
  | fail y=>trivial
  | F3 p v s'=>exact absurd hl Jt
  | ok v s' =>
   obtain ⟨n,rfl,rfl,hn,aP⟩:=JO (P:=P) (w:=w) h (m2:=Builtin.max2) (by intro x y hx hy; split<;>assumption) (by intro x y; simp [Builtin.max2]) bx hl;refine y7.value (val:=.int k n) ?_ h (VX.int hn);simp [execOp,ho,resolve,hc,invoke,builtin,aH,fU,Builtin.max_,aP]
 ·intro hc
  cases hl:foldI s k (λ a b=>if b<a then b else a) m l with
  | fail y=>trivial
  | F3 p v s'=>exact absurd hl Jt
  | ok v s' =>
   obtain ⟨n,rfl,rfl,hn,aP⟩:=JO (P:=P) (w:=w) h (m2:=Builtin.min2) (by intro x y hx hy; split<;>assumption) (by intro x y; simp [Builtin.min2]) bx hl;refine y7.value (val:=.int k n) ?_ h (VX.int hn);simp [execOp,ho,resolve,hc,invoke,builtin,aH,fU,Builtin.min_,aP]
theorem PC {i:Nat} {p:List Step} {lo:Nat} {t:Ty} {m:List t.den} {s':St} (hf:vv s i p lo t m=some s'):t.shared=true:=by
 unfold vv at hf;split at hf
 ·split at hf
  ·split at hf
   ·split at hf
    ·split at hf
     ·rename_i hc
      simp only [Bool.and_eq_true] at hc;exact hc.1
     ·cases hf
    ·cases hf
   ·cases hf
  ·cases hf
 ·cases hf
theorem Sq {T:TypeId} {x y:AV} {p:Prop} {v:AV} {s':St} (hI:wt E T x y s=.F3 p v s'):∃ i lo hi q t0 bts t m l,x=.sub i [] lo hi/\look T E.tt=some ⟨.d0 q t0,bts⟩/\y.uR s t0=some (⟨t,m⟩,[])/\s.obj i=some (.own (.d0 true t) l) /\
  vv s i [] hi.toNat t m=some s'/\I6 E T (.d0 true t)=true/\p=(hi+(List.length m:Int)<=(List.length l:Int))/\v=.sub i [] lo (hi+(List.length m:Int)):=by
 unfold wt at hI;split at hI
 ·rename_i i lo hi q t0 bts hT
  split at hI
  ·rename_i t m u l cn aS
   split at hI
   ·rename_i s1 hf bB hd
    cases hI;obtain rfl:=of_decide_eq_true hd;exact ⟨i,lo,hi,q,t0,bts,t,m,l,rfl,hT,cn,aS,hf,bB,rfl,rfl⟩
   ·cases hI
  ·cases hI
 ·cases hI
theorem b8z {T:TypeId} {x y:AV} {r:Prop×AV×St} (hI:(wt E T x y s).get=some r):wt E T x y s=.F3 r.1 r.2.1 r.2.2:=by
 unfold wt at hI ⊢
 repeat' split at hI
 all_goals first|(cases hI; done)|(cases hI; rfl)
theorem Zc {i:Nat} {lo:Nat} {t:Ty} {m l:List t.den} {s':St} (aS:s.obj i=some (.own (.d0 true t) l)) (hf:vv s i [] lo t m=some s'):s'=(s.Y8 i true).w6 i (.own (.d0 true t) (List.take lo l++m++List.drop (lo+m.length) l)):=by
 unfold vv at hf;rw [aS] at hf;simp only [g9.ty,g9.x,B9] at hf;rw [dif_pos trivial] at hf;simp only [s8,if_true] at hf;split at hf
 ·cases hf; rfl
 ·cases hf
theorem b4w (hE:C8 E B) (h:RS B S ι s a w) {o:Oper} {c:Call} (ho:o.op=.call c) (hc:c.callee=.builtin .append) {x y:Operand} {T U:TypeId} (ha:c.args.toList=[x,y]) (eV:c.argTypes.toList=[T,U])
  (hk:(∃ e',E.P.underlying U=some (.slice e'))\/E.P.underlying U=some .string):E8 E.P B o a w (wt E T (s.ev x) (s.ev y) s):=by
 cases hI:wt E T (s.ev x) (s.ev y) s with
 | fail why=>trivial
 | ok v s' =>
  exfalso;unfold wt at hI
  repeat' split at hI
  all_goals cases hI
 | F3 p v s' =>
  intro hp;obtain ⟨i,lo,hi,q,t0,bts,t,m,l,hx,hT,cn,aS,hf,bB,rfl,rfl⟩:=Sq hI;obtain ⟨Og,news,eF,hN,_,lH⟩:=IQ (P:=E.P) h hk cn (h.ev y);have bZ:=PC hf;have qk:Og=[]:=j5.N1 (λ _ _ _ hr=>i6.N1 bZ hr) hN;subst qk;have ji:look i s.hp=some (.own (.d0 true t) l):=aS;obtain ⟨e,v',h1,h2,h3,h4,h5,h6⟩:=C2 h hx;rw [ji] at h1; cases h1;have fE:a.eval x=v':=by simpa using h3
  rcases h6 with ⟨t1,l1,a0,cap,k1,k2,k3,c0,A,k4,kA,k5,k6⟩|⟨n,t1,l1,b,off,k1,_,k3,_⟩
  rotate_left
  ·exfalso
   simp only [Loc,Place,y6,VR] at k3;simp at k3
  have k1':j9 (.d0 true t) l []=some ⟨.d0 true t1,l1⟩:=k1;rw [B9] at k1'; cases k1';have cM:l.length<=cap:=by
   obtain ⟨O2,_,_,m3⟩:=G1 h.hs ji h2 k1 k3;rcases m3 with ⟨_,_,hl⟩|⟨b2,o2,cap2,O',c1,c2,_⟩
   ·rw [hl]; exact Nat.zero_le _
   ·simp only [List.cons.injEq,Value.slice.injEq,and_true] at c1
    rw [c1.2.2]; exact c2
  have hp:hi+(m.length:Int)<=(l.length:Int):=hp;have dU:VX w.heap S ι s.hp (.sub i [] hi (hi+(m.length:Int))) [.slice (a0.map (·.add (hi.toNat*t.size))) m.length (cap - hi.toNat)] :=
   ⟨_,_,ji,h2,rfl,by omega,by omega,.inl ⟨t,l,a0,cap,k1,hp,k3,cap - hi.toNat,_,by rw [show (hi+(m.length:Int) - hi).toNat=m.length by omega],λ _=>rfl,by omega,by omega⟩⟩
  have dV:(AV.sub i [] hi (hi+(m.length:Int))).vO s=some (i,[],hi,hi+(m.length:Int)):=by
   simp only [AV.vO,St.part,aS,g9.ty,g9.x,B9]
  obtain ⟨w',ι',A',c',e1,cm,bL⟩:=KE (P:=E.P) h dU dV (by omega) hN hf;simp only [Value.slice.injEq] at e1;obtain ⟨e1,_,_⟩:=e1;obtain ⟨et,k',g1,g2,g3⟩:=F8 (D0 hE bB);obtain ⟨inf,mH,eu,kK⟩:=W0 g3;have aH:c.args=#[x,y]:=by rw [<- ha]
  have ew:c.argTypes=#[T,U]:=by rw [<- eV]
  have cq:(hi - lo).toNat+m.length<=c0:=by omega
  have aP:(Builtin.append_ #[T,U] o.type #[a.eval x,a.eval y]).run E.P w=.ok (.slice A ((hi - lo).toNat+m.length) c0) w':=by
   rw [fE,k4];rw [<- eu] at eF;by_cases gZ:m=[]
   ·subst gZ
    have cY:news=[]:=hN.2;subst cY;have rp:w'=w:=by
     rcases bL with ⟨_,_,rfl⟩|⟨A1,_,bL⟩
     ·rfl
     ·simpa [storeCells] using bL.symm
    subst rp;have iS:=eF.len;have eL:=eF.cells;simp only [List.length_nil,Nat.add_zero] at iS eL cq;rcases eF.kind with ⟨e',eS⟩|eS<;>cases A<;>simp [Builtin.append_,run_underlying g1,run_underlying eS,sizeOf,typeInfo,mH,iS,eL,storeCells,cq]
   ·have gY:1<=m.length:=List.length_pos_iff.2 gZ
    rcases bL with ⟨_,jm,_⟩|⟨A1,tP,bL⟩
    ·exact absurd jm gZ
    subst tP;obtain ⟨O2,_,_,m3⟩:=G1 h.hs ji h2 k1 k3;rcases m3 with ⟨_,_,hl⟩|⟨b2,o2,cap2,O',c1,c2,_⟩
    ·have hl:l=[]:=hl
     rw [hl] at hp; simp at hp; omega
    ·simp only [List.cons.injEq,Value.slice.injEq,and_true,true_and] at c1
     obtain ⟨rfl,rfl⟩:=c1;have hA:=kA (by omega);subst hA;simp only [Option.map_some,Option.some.injEq] at e1;subst e1;have gC:((⟨b2,o2,none⟩:Addr).add (lo.toNat*t.size)).add ((hi - lo).toNat*t.size)=(⟨b2,o2,none⟩:Addr).add (hi.toNat*t.size):=by
      rw [Addr.G9,Addr.G9,Addr.G9,Nat.add_assoc,<- Nat.add_mul,show lo.toNat+(hi - lo).toNat=hi.toNat by omega]
     rw [<- gC] at bL;simp only [Option.map_some];generalize uz:((⟨b2,o2,none⟩:Addr).add (lo.toNat*t.size))=AA at bL ⊢;rw [<- eu] at bL;rcases eF.kind with ⟨e',eS⟩|eS<;>simp [Builtin.append_,run_underlying g1,run_underlying eS,sizeOf,typeInfo,mH,eF.len,cq,eF.cells,bL]
  have fJ:(execOp a.eval o).run E.P w=.ok (.value (.slice A ((hi - lo).toNat+m.length) c0)) w':=by
   simp [execOp,ho,resolve,hc,invoke,builtin,aH,ew,aP]
  intro next Q jM
  unfold Oper.wp;rw [fJ];refine jM S ι' w' _ cm ?_;have lv:=Zc aS hf;have lQ:s'.ev x=.sub i [] lo hi:=by
   cases x with
   | tmp n =>
    have qI:Nat.beq n I4=false:=by
     cases hb:Nat.beq n I4 with
     | true=>simp [St.ev,hb] at hx
     | false=>rfl
    have ny:(look n s.fr).getD .any=.sub i [] lo hi:=by
     have h9:=hx;simp only [St.ev,qI] at h9;exact h9
    show (match Nat.beq n I4 with|true=>AV.any|false=>s'.get n)=_;rw [qI];show (look n s'.fr).getD .any=_;rw [lv];show (look n (mapA (AV.map (AV.xh i true)) s.fr)).getD .any=_;rw [N8];cases qM:look n s.fr with
    | none=>rw [qM] at ny; cases ny
    | some u9 =>
     rw [qM] at ny;have:u9=.sub i [] lo hi:=ny;subst this;simp [AV.map,AV.xh,AV.i8]
   | const v9=>exact absurd hx (by
     simp only [St.ev];intro h9;unfold ofConst at h9
     repeat' split at h9
     all_goals cases h9)
   | global g=>cases hx
   | func f=>cases hx
  have qz:=cm.ev x;rw [lQ,fE,k4] at qz;obtain ⟨e9,v9,r1,r2,r3,r4,r5,r6⟩:=qz;have mh:look i s'.hp=some (.own (.d0 true t) (List.take hi.toNat l++m++List.drop (hi.toNat+m.length) l)):=by
   rw [lv];show look i (Ex.put i _ _)=_;rw [o6,if_pos rfl]
  rw [mh] at r1; cases r1;have mA:(List.take hi.toNat l++m++List.drop (hi.toNat+m.length) l).length=l.length:=by
   simp only [List.length_append,List.length_take,List.length_drop]; omega
  rcases r6 with ⟨t2,l2,a2,cap2,q1,q2,q3,c2,A2,q4,qA,q5,q6⟩|⟨n,t2,l2,b,off,q1,_,q3,_⟩
  ·have q1':j9 (.d0 true t) (List.take hi.toNat l++m++List.drop (hi.toNat+m.length) l) []=some ⟨.d0 true t2,l2⟩:=q1
   rw [B9] at q1'; cases q1';have r3':Value.slice A (hi - lo).toNat c0=v9:=by simpa using r3
   rw [q4] at r3';simp only [Value.slice.injEq,true_and] at r3';obtain ⟨rfl,rfl⟩:=r3';exact ⟨_,_,mh,r2,rfl,r4,by omega,.inl ⟨t,_,a2,cap2,q1,by rw [mA]; exact hp,q3,c0,A,by rw [show (hi+(m.length:Int) - lo).toNat=(hi - lo).toNat+m.length by omega],qA,by omega,q6⟩⟩
  ·exfalso
   simp only [Loc,Place,y6,VR] at q3;simp at q3
theorem c1f (hE:C8 E B) (h:RS B S ι s a w) {o:Oper} {c:Call} (ho:o.op=.call c) (hc:c.callee=.builtin .copy) {x y:Operand} {T U:TypeId} (ha:c.args.toList=[x,y]) (hT:c.argTypes.toList=[T,U]):E8 E.P B o a w (zo E T (s.ev x) (s.ev y) s):=by
 unfold zo
 split
 ·rename_i i p lo hi t m hd fj
  split
  ·rename_i s' hf bB
   obtain ⟨et,k',g1,_,g3⟩:=F8 (D0 hE bB);obtain ⟨A2,c2,ey,hA⟩:=DD h.hs (h.ev y) fj;have hlen:=HL h.hs (h.ev y) fj;have aH:c.args=#[x,y]:=by rw [<- ha]
   have ew:c.argTypes=#[T,U]:=by rw [<- hT]
   have bZ:t.shared=true:=PC hf;obtain ⟨e,t9,l9,A9,cap9,c9,A8,z1,z2,z3,z4,z5,z6,z7,z8,z9,TB⟩:=HK h (h.ev x) hd;have eF:∃ news,(Builtin.firstCells t.size (List.take (hi - lo).toNat m).length (a.eval y)).run E.P w=.ok news.toArray w/\j5 (i6 w.heap S t) t.size [] news (List.take (hi - lo).toNat m):=by
    rw [ey];rcases hA with rfl|⟨b,off,O',rfl,k1,k2,k3,k4⟩
    ·refine ⟨[],?_,by rw [List.take_nil]; exact ⟨rfl,rfl⟩⟩
     rw [List.take_nil];cases A2 with
     | none=>exact run_firstCells_none w t.size 0 0 c2
     | some A=>exact run_firstCells_some w t.size 0 A 0 c2 [] (by simp) (by simp)
    ·have hr:=ZA bZ k3 (k:=(List.take (hi - lo).toNat m).length)
     have e9:List.take (List.take (hi - lo).toNat m).length m=List.take (hi - lo).toNat m:=by
      rw [List.length_take];rcases Nat.le_total (hi - lo).toNat m.length with h9|h9
      ·rw [Nat.min_eq_left h9]
      ·rw [Nat.min_eq_right h9,List.take_length,List.take_of_length_le h9]
     rw [e9] at hr;refine ⟨_,run_firstCells_some w t.size _ _ _ c2 _ (j5.length (λ _ _ _ h=>h.length) hr) (λ j u hu=>?_),hr⟩;rw [Addr.G9];refine M4 (n:=List.length m*t.size) ?_;rw [List.getElem?_take] at hu;split at hu
     ·exact hu
     ·cases hu
   obtain ⟨news,fe,lC⟩:=eF;have gY:((List.take (hi - lo).toNat m).length:Int)<=hi - lo:=by rw [List.length_take]; omega
   obtain ⟨w',ι',A',c',e1,cm,bL⟩:=KE (P:=E.P) h (h.ev x) hd gY lC hf;have mr:Nat.min m.length (hi - lo).toNat=(List.take (hi - lo).toNat m).length:=by rw [List.length_take,Nat.min_comm]
   have aP:(Builtin.copy_ #[T,U] o.type #[a.eval x,a.eval y]).run E.P w=.ok (.int .i64 ((List.take (hi - lo).toNat m).length:Int)) w':=by
    have kE:=fe;rw [ey,List.length_take] at kE;rw [e1,ey];rcases bL with ⟨rfl,_,rfl⟩|⟨A,rfl,bL⟩
    ·simp only [Builtin.copy_]
     simp [u6 g1,Builtin.lenOf,mr,run_sizeOf g3,kE,goInt]
    ·simp [Builtin.copy_,u6 g1,Builtin.lenOf,mr,run_sizeOf g3,kE,bL,goInt]
   have fJ:(execOp a.eval o).run E.P w=.ok (.value (.int .i64 ((List.take (hi - lo).toNat m).length:Int))) w':=by
    simp [execOp,ho,resolve,hc,invoke,builtin,aH,ew,aP]
   intro next Q jM
   unfold Oper.wp;rw [fJ];refine jM S ι' w' _ cm (VX.int ?_);have:(List.take (hi - lo).toNat m).length<=m.length:=by rw [List.length_take]; omega
   unfold maxLen at hlen;unfold r7;simp only [IntKind.min,IntKind.max,IntKind.signed,IntKind.bits];simp;omega
  ·trivial
 ·trivial
theorem b8f (hE:C8 E B) (h:RS B S ι s a w) {o:Oper} {c:Call} (ho:o.op=.call c) (hc:c.callee=.builtin .clear) {x:Operand} {T:TypeId} (ha:c.args.toList=[x]) (hT:c.argTypes.toList=[T]):E8 E.P B o a w (zC E T (s.ev x) s):=by
 unfold zC
 split
 ·rename_i i p lo hi q t bts hd tn
  split
  ·rename_i s' hf
   obtain ⟨et,k',g1,_,g3⟩:=F8 (p9 hE tn);have aH:c.args=#[x]:=by rw [<- ha]
   have ew:c.argTypes=#[T]:=by rw [<- hT]
   obtain ⟨e,t9,l9,A9,cap9,c9,A8,z1,z2,z3,z4,z5,z6,z7,z8,z9,TB⟩:=HK h (h.ev x) hd;have oH:j5 (i6 w.heap S t) t.size [] (List.replicate (hi - lo).toNat (zc t)).flatten (List.replicate (hi - lo).toNat t.s4):=(i6.s4 (H:=w.heap) (S:=S) (.arr (hi - lo).toNat t)).2;obtain ⟨w',ι',A',c',e1,cm,bL⟩:=KE (P:=E.P) h (h.ev x) hd (by rw [List.length_replicate]; omega) oH hf;have ja:(p7 t (zc t)).cells=(zc t).toArray:=(i6.s4 (H:=w.heap) (S:=S) t).cells;have aP:(Builtin.clear_ #[T] o.type #[a.eval x]).run E.P w=.ok (.tuple #[]) w':=by
    rw [e1];rcases bL with ⟨rfl,_,rfl⟩|⟨A,rfl,bL⟩
    ·simp [Builtin.clear_,u6 g1]
    ·by_cases h0:(hi - lo).toNat=0
     ·rw [h0] at bL ⊢
      simp [storeCells] at bL;subst bL;simp [Builtin.clear_,u6 g1]
     ·obtain ⟨n,hn⟩:∃ n,(hi - lo).toNat=n+1:=⟨(hi - lo).toNat - 1,by omega⟩
      rw [hn] at bL ⊢;simp [Builtin.clear_,u6 g1,BK g3,ja,EU,bL]
   have fJ:(execOp a.eval o).run E.P w=.ok (.value (.tuple #[])) w':=by
    simp [execOp,ho,resolve,hc,invoke,builtin,aH,ew,aP]
   intro next Q jM
   unfold Oper.wp;rw [fJ];exact jM S ι' w' _ cm rfl
  ·trivial
 ·trivial
theorem c1D (hE:C8 E B) (h:RS B S ι s a w) {o:Oper} {c:Call} (ho:o.op=.call c):E8 E.P B o a w (l8 E o s):=by
 unfold l8;rw [ho];simp only
 split
 ·rename_i f hf
  split
  ·rename_i g caps hg
   obtain ⟨us,he,cM⟩:=C2 h hg;exact KA hE h ho hf (by simpa using he) cM
  ·rename_i g b hg
   refine E8.xC (λ hb=>?_);have hv:=Hw h hg;rw [hb] at hv;exact KA hE h ho hf (us:=[]) hv rfl
  ·rename_i g t y hg
   refine E8.xC (λ hy=>?_);obtain ⟨p,e,hp⟩:=II (C2 h hg) hy;exact KA hE h ho hf (us:=[p]) (by simpa using e) ⟨p,[],rfl,hp,rfl⟩
  ·trivial
 ·rename_i hf
  split
  ·rename_i x T ha hT
   split
   ·rename_i q u y hx
    split
    ·rename_i hk
     obtain ⟨cs,e,hR⟩:=C2 h hx;obtain ⟨b,cap,hv,hl⟩:=Bg hR;have e:a.eval x=p7 (.d0 q u) cs:=by simpa using e
     exact yL hE h ho hf ha hT hk (.inl ⟨q,u,b,0,cap,rfl,by rw [e,hv],rfl⟩) hl
    ·trivial
   ·rename_i u y hx
    split
    ·rename_i hk
     obtain ⟨cs,e,hR⟩:=C2 h hx;obtain ⟨b,cap,hv,hl⟩:=Nc hR;have e:a.eval x=p7 (.y8 u) cs:=by simpa using e
     exact yL hE h ho hf ha hT hk (.inl ⟨false,u,b,0,cap,rfl,by rw [e,hv],rfl⟩) hl
    ·trivial
   ·rename_i y hx
    split
    ·rename_i hk
     obtain ⟨hv,hl⟩:=VX.yE (C2 h hx);exact yL hE h ho hf ha hT hk (.inr (.inl ⟨y,rfl,hv,rfl⟩)) (by unfold maxLen at hl; omega)
    ·trivial
   ·rename_i n u y hx
    split
    ·rename_i hk
     split
     ·rename_i hn
      exact yL hE h ho hf ha hT hk (.inr (.inr ⟨u,rfl⟩)) hn
     ·trivial
    ·trivial
   ·rename_i d p hx
    split
    ·rename_i q u z cO
     split
     ·rename_i hk
      obtain ⟨e,u',y,cs,k1,k2,k3,k4,k5⟩:=C2 h hx;have hg:=H3 k1 cO;rw [k3] at hg; cases hg;obtain ⟨O2,m1,m2,m3⟩:=G1 h.hs k1 k2 k3 k4;obtain ⟨b,cap,hv,hl⟩:=Bg m3;have k5:a.eval x=p7 (.d0 q u) cs:=by simpa using k5
      exact yL hE h ho hf ha hT hk (.inl ⟨q,u,b,0,cap,rfl,by rw [k5,hv],rfl⟩) hl
     ·trivial
    ·rename_i u z cO
     split
     ·rename_i hk
      obtain ⟨e,u',y,cs,k1,k2,k3,k4,k5⟩:=C2 h hx;have hg:=H3 k1 cO;rw [k3] at hg; cases hg;obtain ⟨O2,m1,m2,m3⟩:=G1 h.hs k1 k2 k3 k4;obtain ⟨b,cap,hv,hl⟩:=Nc m3;have k5:a.eval x=p7 (.y8 u) cs:=by simpa using k5
      exact yL hE h ho hf ha hT hk (.inl ⟨false,u,b,0,cap,rfl,by rw [k5,hv],rfl⟩) hl
     ·trivial
    ·rename_i k u z cO
     split
     ·rename_i hk
      intro hn;have hm:(s.ev x).mp s=some ⟨(k,u),z⟩:=by rw [hx]; simp only [AV.mp,cO]
      have aH:c.args=#[x]:=by rw [<- ha]
      have ew:c.argTypes=#[T]:=by rw [<- hT]
      obtain ⟨K,V,n,h1,_⟩:=IH (D0 hE hk);refine y7.value (val:=.int .i64 (List.length (Option.getD (z:Option (List (k.den×u.den))) []))) ?_ h (VX.int (by unfold r7; simp [IntKind.min,IntKind.max,IntKind.signed,IntKind.bits]; omega));have aP:(Builtin.len_ #[T] o.type #[a.eval x]).run E.P w=.ok (.int .i64 (List.length (Option.getD (z:Option (List (k.den×u.den))) []))) w:=by
       rcases Uj h.hs (h.ev x) hm with ⟨h2,h3⟩|⟨l,b,es,ck,h2,h3,h4,h5⟩
       ·subst h2
        rw [h3];simp [Builtin.len_,u6 h1,goInt]
       ·subst h2
        rw [h3];have sJ:=MapKept.run_getObj_map (P:=E.P) h4;have hl:=uJ.length h5;rw [Array.length_toList] at hl;simp [Builtin.len_,u6 h1,goInt,sJ,hl]
      simp [execOp,ho,resolve,hf,invoke,builtin,aH,ew,aP]
     ·trivial
    ·trivial
   ·rename_i d p lo hi hx
    split
    ·rename_i u y hw
     split
     ·rename_i hk
      obtain ⟨A,c,e,_,hl,h0,h1,_⟩:=DI h.hs (C2 h hx) hw;have hm:=HL h.hs (C2 h hx) (l:=y) hw;have:=yL hE h ho hf ha hT hk (n:=y.length) (.inl ⟨true,u,A,0,c,rfl,e,rfl⟩) (by unfold maxLen at hm; omega);rw [hl] at this;exact this
     ·trivial
    ·trivial
   ·rename_i hx
    split
    ·rename_i q u bts qe
     have ed:[a.eval x]=[Value.slice none 0 0]:=C2 h hx;have ed:a.eval x=Value.slice none 0 0:=by simpa using ed
     have aH:c.args=#[x]:=by rw [<- ha]
     have ew:c.argTypes=#[T]:=by rw [<- hT]
     refine y7.value (val:=.int .i64 0) ?_ h (VX.int (by unfold r7; simp [IntKind.min,IntKind.max,IntKind.signed,IntKind.bits]));have:=MX (w:=w) (ty:=o.type) (n:=0) (p9 hE qe) (.inl ⟨q,u,none,0,0,rfl,ed,rfl⟩);simp [execOp,ho,resolve,hf,invoke,builtin,aH,ew,this]
    ·trivial
   ·trivial
  ·trivial
 ·rename_i hf
  split
  ·rename_i x T ha hT
   split
   ·rename_i q u bts hx qe
    obtain ⟨et,k',f1,_⟩:=F8 (p9 hE qe);have ed:a.eval x=Value.slice none 0 0:=by simpa using (show [a.eval x]=[Value.slice none 0 0] from C2 h hx)
    have aH:c.args=#[x]:=by rw [<- ha]
    have ew:c.argTypes=#[T]:=by rw [<- hT]
    refine y7.value (val:=.int .i64 0) ?_ h (VX.int (by unfold r7; simp [IntKind.min,IntKind.max,IntKind.signed,IntKind.bits]));simp [execOp,ho,resolve,hf,invoke,builtin,aH,ew,Builtin.cap_,u6 f1,ed,goInt]
   ·trivial
  ·trivial
 ·rename_i hf
  split
  ·rename_i x y T U ha hT
   split
   ·rename_i q u bts hU
    obtain ⟨et,k',f1,_⟩:=F8 (p9 hE hU)
    split
    ·exact b4w hE h ho hf ha hT (.inl ⟨et,f1⟩)
    ·exact c1T hE h ho hf ha hT ⟨et,f1⟩
   ·rename_i bts hU
    exact SZ hE h ho hf ha hT (.inr (W6 (p9 hE hU)))
   ·rename_i kd bts hU
    exact b4v hE h ho hf ha hT (ye (p9 hE hU))
   ·trivial
  ·trivial
 ·rename_i hf
  split
  ·rename_i x l ha
   split
   ·rename_i k m hx
    exact (SY h ho ha hx).1 hf
   ·trivial
  ·trivial
 ·rename_i hf
  split
  ·rename_i x l ha
   split
   ·rename_i k m hx
    exact (SY h ho ha hx).2 hf
   ·trivial
  ·trivial
 ·rename_i hf
  split
  ·rename_i x y T U ha hT; exact c1f hE h ho hf ha hT
  ·trivial
 ·rename_i hf
  split
  ·rename_i x T ha hT; exact b8f hE h ho hf ha hT
  ·trivial
 ·trivial
theorem XV (hE:C8 E B) (h:RS B S ι s a w) (o:Oper) (iw:∀ c x y,o.op≠.pick c x y):E8 E.P B o a w (l8 E o s):=by
 cases ho:o.op with
 | move x=>unfold l8; rw [ho]; exact y7.value (by simp [execOp,ho]) h (h.ev x)
 | assign x=>unfold l8; rw [ho]; exact y7.value (by simp [execOp,ho]) h (h.ev x)
 | alloc T=>exact b8C hE h ho
 | box T x=>exact Zj hE h ho
 | makeSlice T x y=>exact b0K hE h ho
 | slice T x lo hi mx =>
  have:l8 E o s=xQ E T (s.ev x) lo hi mx s:=by unfold l8; rw [ho]
  rw [this]; exact b5c hE h ho
 | build T parts=>exact b8x hE h ho
 | buildSlice T n parts=>exact a9O hE h ho
 | makeMap T r=>exact b4h hE h ho
 | lookup T x y ok =>
  have:l8 E o s=Ig E T (s.ev x) (s.ev y) ok s:=by unfold l8; rw [ho]
  rw [this]; exact b4i hE h ho
 | mapUpdate T m x y =>
  have:l8 E o s=Fy E T (s.ev m) (s.ev x) (s.ev y) s:=by unfold l8; rw [ho]
  rw [this]; exact b99 hE h ho
 | load T x =>
  have:l8 E o s=X8 E T (s.ev x) s:=by unfold l8; rw [ho]
  rw [this];cases hl:X8 E T (s.ev x) s with
  | fail why=>trivial
  | ok v s'=>exact b7T hE h ho hl
  | F3 p v s' =>
   exfalso;unfold X8 at hl
   repeat' split at hl
   all_goals cases hl
 | store T x y =>
  unfold l8; rw [ho];simp only
  split
  ·rename_i i p hx; exact b5b hE h ho hx
  ·trivial
 | nilCheck x =>
  unfold l8; rw [ho];simp only
  split
  ·rename_i i p hx
   have hv:=C2 h hx;obtain ⟨e,b,off,h1,h2,h3,h4⟩:=hv;have h4:a.eval x=.pointer (some ⟨b,off,none⟩):=by simpa using h4
   exact y7.value (val:=.pointer (some ⟨b,off,none⟩)) (by simp only [execOp,ho,h4]; rfl) h ⟨e,b,off,h1,h2,h3,rfl⟩
  ·rename_i t y hx
   obtain ⟨b,off,e,h1,h2,h3⟩:=C2 h hx;have e:a.eval x=.pointer (some ⟨b,off,none⟩):=by simpa using e
   exact y7.value (val:=.pointer (some ⟨b,off,none⟩)) (by simp only [execOp,ho,e]; rfl) h ⟨b,off,rfl,h1,h2,h3⟩
  ·rename_i t y hx
   intro hy;obtain ⟨b,off,e,h1,h2,h3⟩:=DM (C2 h hx) hy;have e:a.eval x=.pointer (some ⟨b,off,none⟩):=by simpa using e
   exact y7.value (val:=.pointer (some ⟨b,off,none⟩)) (by simp only [execOp,ho,e]; rfl) h ⟨b,off,rfl,h1,h2,h3⟩
  ·rename_i f t y hx
   intro hy;have hv:=C2 h hx;obtain ⟨p,e,-⟩:=II hv hy;exact y7.value (val:=a.eval x) (by simp only [execOp,ho,e]; rfl) h hv
  ·rename_i f l hx
   obtain ⟨us,e,h1⟩:=C2 h hx;have e:a.eval x=.func (.func f) #[] us.toArray:=by simpa using e
   exact y7.value (val:=.func (.func f) #[] us.toArray) (by simp only [execOp,ho,e]; rfl) h ⟨us,rfl,h1⟩
  ·rename_i g b hx
   intro hb;have hv:=Hw h hx;have hb:b=true:=hb;subst hb;exact y7.value (val:=.func (.func g) #[] #[]) (by simp only [execOp,ho,hv]; rfl) h ⟨[fnV g true],rfl,rfl,rfl⟩
  ·trivial
 | binOp op T x y T' =>
  have:l8 E o s=wa E T op (s.ev x) (s.ev y) s:=by unfold l8; rw [ho]
  rw [this]; exact c1N hE h ho
 | unOp op T x =>
  have:l8 E o s=unA op (s.ev x) s:=by unfold l8; rw [ho]
  rw [this]; exact c0a h ho
 | convert T' T x=>exact b4p hE h ho
 | fieldAddr T x n=>exact b0X hE h ho
 | indexAddr T x y=>exact b0R hE h ho
 | field T x n=>exact b71 hE h ho
 | index T x y=>exact b7Y hE h ho
 | extract x n =>
  unfold l8; rw [ho];simp only
  split
  ·rename_i l hx
   split
   ·rename_i v hn
    obtain ⟨us,e,hl⟩:=C2 h hx;have e:a.eval x=.tuple us.toArray:=by simpa using e
    obtain ⟨u,h1,h2⟩:=Nd hn hl;have he:execOp a.eval o=(do pure (.value (<- Instr.extract (a.eval x) n))):=by simp [execOp,ho]
    refine I1 he h (val:=u) ?_ h2;rw [e]; simp [Instr.extract,h1]
   ·trivial
  ·trivial
 | makeFunc fn first caps =>
  unfold l8;rw [ho];cases fn with
  | func f =>
   simp only
   split
   ·rename_i hf
    have hf:first=#[]:=by simpa using hf
    have:=h.J6 caps.toList;refine y7.value (val:=.func (.func f) #[] (caps.toList.map a.eval).toArray) ?_ h ⟨_,rfl,this⟩;simp [execOp,ho,Instr.makeFunc,hf,<- Array.toList_map]
   ·trivial
  | _=>trivial
 | call c=>exact c1D hE h ho
 | pick c x y=>exact absurd ho (iw c x y)
 | _=>unfold l8; rw [ho]; trivial
theorem Lc (hE:C8 E B) (hn:B.n=E.nt) (h:RS B S ι s a w) (o:Oper) {k:St->Tree (E.rs++E4 E.ps)} {L:Code->List Item->St->Prop} {Rt:DL (E.rs++E4 E.ps)->Prop} (ht:(yv E o s k).holds L Rt) {next:Act->World->Prop} {Q:Exit->Act->World->Prop}
  (hk:∀ S' ι' s' a' w',RS B S' ι' s' a' w'->(k s').holds L Rt->next a' w'):o.wp E.P a w next Q:=by
 unfold yv at ht;split at ht
 ·exact ht.elim
 ·rename_i hd
  rw [<- hn] at hd;split at ht
  ·rename_i c x y ho
   split at ht
   ·rename_i g hg
    have cP:=VX.zU (C2 h hg);have aP:(execOp a.eval o).run E.P w=.ok (.value (if g then a.eval x else a.eval y)) w:=by
     simp only [execOp,ho,cP,asBool];cases g<;>simp
    unfold Oper.wp;rw [aP];cases g with
    | true=>exact hk S ι _ _ _ (h.put hd (h.ev x)) ht
    | false=>exact hk S ι _ _ _ (h.put hd (h.ev y)) ht
   ·exact ht.elim
  ·rename_i rY
   have hs:=XV hE h o (λ c x y e=>rY c x y e);split at ht
   ·exact ht.elim
   ·rename_i v s' e
    rw [e] at hs;exact hs next Q (λ S' ι' w' val h1 h2=>hk S' ι' _ _ _ (h1.put hd h2) ht)
   ·rename_i p v s' e
    rw [e] at hs;exact hs ht.1 next Q (λ S' ι' w' val h1 h2=>hk S' ι' _ _ _ (h1.put hd h2) (ht.2 ht.1))
theorem ZG {ops:Array Oper} {o:Oper} {j:Nat} {want:Bool} (hg:o.guard=some (j,want)) {g:Nat} (hs:zY ops j=some g) {tmps:Array Value} :
  Region.wanted o (yielded ops tmps)=((match tmps[g]? with|some (.bool b)=>some b|_=>none) == some want):=by
 have:((ops[j]?).bind (·.dst)).bind (tmps[·]?)=tmps[g]?:=by
  have:(ops[j]?).bind (·.dst)=some g:=hs;rw [this]; rfl
 simp only [Region.wanted,hg,yielded,this];rfl
theorem getD_some {l:Array Value} {g:Nat} {v:Value} (h:l.getD g undef=v) (hv:v≠undef):l[g]?=some v:=by
 simp only [Array.getD_eq_getD_getElem?] at h;cases hl:l[g]? with
 | none=>rw [hl] at h; exact absurd h.symm hv
 | some x=>rw [hl] at h; simp at h; rw [h]
theorem Lb (hE:C8 E B) (hn:B.n=E.nt) (h:RS B S ι s a w) {ops:Array Oper} (o:Oper) {k:St->Tree (E.rs++E4 E.ps)} {L:Code->List Item->St->Prop} {Rt:DL (E.rs++E4 E.ps)->Prop} (ht:(xV E ops o s k).holds L Rt) {next:Act->World->Prop} {Q:Exit->Act->World->Prop}
  (hk:∀ S' ι' s' a' w',RS B S' ι' s' a' w'->(k s').holds L Rt->next a' w') :
  if Region.wanted o (yielded ops a.tmps) then o.wp E.P a w next Q else next (a.put o.dst undef) w:=by
 unfold xV at ht;split at ht
 ·rename_i hg
  simp only [Region.wanted,hg,if_true];exact Lc hE hn h o ht hk
 ·rename_i j want hg
  split at ht
  ·exact ht.elim
  ·rename_i g hs
   rw [ZG hg hs];have hv:=h.ev (.tmp g);split at ht
   ·rename_i vs cP
    rw [cP] at hv;have hv:[a.tmps.getD g undef]=[Value.tuple vs]:=hv;have hv:a.tmps.getD g undef=.tuple vs:=by simpa using hv
    have gJ:((match a.tmps[g]? with|some (.bool b)=>some b|_=>none) == some want)=false:=by
     simp only [Array.getD_eq_getD_getElem?] at hv;cases hl:a.tmps[g]? with
     | none=>rfl
     | some x=>rw [hl] at hv; simp at hv; rw [hv]; rfl
    rw [gJ];split at ht
    ·rename_i hd
     rw [<- hn] at hd;exact hk S ι _ _ _ (h.put hd (v:=.raw undef) (val:=undef) (by rfl)) ht
    ·exact ht.elim
   ·rename_i b cP
    rw [cP] at hv;have hb:=VX.zU hv;have cj:=getD_some hb (by simp [undef]);rw [cj];split at ht
    ·exact ht.elim
    ·rename_i hd
     rw [<- hn] at hd;have nJ:∀ c,b=c->RS B S ι (s.put (some g) (.val .bool c)) a w:=by
      rintro c rfl;have bc:g<a.tmps.size:=by
       rcases Nat.lt_or_ge g a.tmps.size with h1|h1
       ·exact h1
       ·rw [Array.getElem?_eq_none h1] at cj; cases cj
      have:=h.put (d:=some g) (v:=.val .bool b) (val:=.bool b) (by simp [G3,Nat.blt_eq,<- h.sz,bc]) VX.bool;have e:a.put (some g) (.bool b)=a:=by
       simp only [Act.put];have:a.tmps.setIfInBounds g (.bool b)=a.tmps:=by
        apply Array.ext_getElem?;intro i;rw [Array.getElem?_setIfInBounds]
        split
        ·rename_i e; subst e; exact cj.symm
        ·rfl
       rw [this]
      rw [e] at this;exact this
     cases b with
     | true =>
      cases want with
      | true=>exact Lc hE hn (nJ true rfl) o ht hk
      | false=>exact hk S ι _ _ _ ((nJ true rfl).put hd (v:=.raw undef) (val:=undef) (by rfl)) ht
     | false =>
      cases want with
      | false=>exact Lc hE hn (nJ false rfl) o ht hk
      | true=>exact hk S ι _ _ _ ((nJ false rfl).put hd (v:=.raw undef) (val:=undef) (by rfl)) ht
   ·exact ht.elim
theorem b0s {P:Program} {T et:TypeId} (h1:P.underlying T=some (.slice et)) (d:Nat) (A:Option Addr) (n c:Nat):(Op.equalIn (d+1) T (.slice A n c) (.slice none 0 0)).run P w=.ok A.isNone w:=by
 cases A<;>simp [Op.equalIn,u6 h1]
theorem Zk (hE:C8 E B) (h:RS B S ι s a w) {o:Oper} {p:Prop} {v1 v2:AV} (hb:brA E s o=some (p,v1,v2)) :
  ∃ val,(execOp a.eval o).run E.P w=.ok (.value val) w/\((p/\VX w.heap S ι s.hp v1 [val])\/VX w.heap S ι s.hp v2 [val]):=by
 unfold brA at hb;split at hb
 ·rename_i op T x y T' ho
  have key:∀ (b:Bool),(op=.eql/\b=true\/op=.neq/\b=false)->(match s.ev y,look T E.tt with
   | .raw (.slice none 0 0),some ⟨.d0 _ _,_⟩=>(match (s.ev x).els s with
    | some r=>some (r.2=[],AV.val .bool b,AV.val .bool (!b))
    | none=>none)
   | _,_=>none)=some (p,v1,v2)->∃ val,(execOp a.eval o).run E.P w=.ok (.value val) w/\((p/\VX w.heap S ι s.hp v1 [val])\/VX w.heap S ι s.hp v2 [val]):=by
   intro b cv hb;split at hb
   ·rename_i q u bts hy hT
    split at hb
    ·rename_i r hr
     obtain ⟨t0,l0⟩:=r;cases hb;have lK:[a.eval y]=[Value.slice none 0 0]:=C2 h hy;have lK:a.eval y=.slice none 0 0:=by simpa using lK
     obtain ⟨A,c,e,hA⟩:=DD h.hs (h.ev x) hr;obtain ⟨et,k2,h1,_,_⟩:=F8 (DJ (t:=.d0 q u) (u:=.d0 true u) rfl (p9 hE hT));have hg:(eqGuard op T x y (a.eval x) (a.eval y)).run E.P w=.ok () w:=by rw [e,lK]; cases op<;>rfl
     have heq:(Op.equal T (.slice A (List.length l0) c) (.slice none 0 0)).run E.P w=.ok A.isNone w:=b0s h1 9999 A _ c;have eJ:A=none->l0=[]:=by
      rintro rfl;rcases hA with h2|⟨b2,off2,O2,h2,_⟩
      ·exact h2
      ·cases h2
     have eK:∀ n:Bool,(n=A.isNone/\op=.eql/\b=true\/n=(!A.isNone)/\op=.neq/\b=false)->(l0=[]/\VX w.heap S ι s.hp (.val .bool b) [.bool n])\/VX w.heap S ι s.hp (.val .bool (!b)) [.bool n]:=by
      intro n hn;cases A with
      | none=>rcases hn with ⟨rfl,_,rfl⟩|⟨rfl,_,rfl⟩<;>exact .inl ⟨eJ rfl,VX.bool⟩
      | some A=>rcases hn with ⟨rfl,_,rfl⟩|⟨rfl,_,rfl⟩<;>exact .inr VX.bool
     rcases cv with ⟨rfl,rfl⟩|⟨rfl,rfl⟩
     ·exact ⟨.bool A.isNone,by rw [S9 ho hg (r:=.ok (.bool A.isNone) w)]; rfl; rw [e,lK]; simp [binOp,heq],eK _ (.inl ⟨rfl,rfl,rfl⟩)⟩
     ·exact ⟨.bool (!A.isNone),by rw [S9 ho hg (r:=.ok (.bool (!A.isNone)) w)]; rfl; rw [e,lK]; simp [binOp,heq],eK _ (.inr ⟨rfl,rfl,rfl⟩)⟩
    ·cases hb
   ·cases hb
  split at hb
  ·exact key true (.inl ⟨rfl,rfl⟩) hb
  ·exact key false (.inr ⟨rfl,rfl⟩) hb
  ·cases hb
 ·cases hb
end
end Go.Ex
