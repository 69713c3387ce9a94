import Derived.Test.YtijlnmgondibnaaGreatDoorExK4
import Derived.DeepKeys
import Derived.Laws.StructEq
import Derived.MapKept
import Derived.WideKeyRuns
import Derived.Lib.AppendZerosOnto
import Derived.Tactics
set_option linter.unusedVariables false
set_option linter.unusedSimpArgs false
set_option linter.unusedSectionVars false
namespace Go.Ex
section
variable {H H':Array Go.Obj} {S:Nat->Prop}
theorem R3.r8 {q:Bool} {b n:Nat} (h:H'[b]?=H[b]?):R3 q H b n->R3 q H' b n:=by
 rintro ⟨arr,T,⟨fz,e,ef⟩,hn⟩;exact ⟨arr,T,⟨fz,by rw [h]; exact e,ef⟩,hn⟩
theorem L8.r8 {b n:Nat} (h:H'[b]?=H[b]?):L8 H b n->L8 H' b n:=by
 rintro ⟨arr,T,⟨fz,e,ef⟩,hn⟩;exact ⟨arr,T,⟨fz,by rw [h]; exact e,ef⟩,hn⟩
theorem i7.r8 {t:Ty} {O:List Nat} {cs:List Value} {l:List t.den} (h:i7 (f8 H S t) t.size O cs l) (hH:∀ c,c∈O\/S c->H'[c]?=H[c]?):i7 (f8 H' S t) t.size O cs l :=
 i7.mono (L:=O) (λ _ h=>h) (λ _ _ _ hO hr=>hr.r8 (λ c hc=>hH c (hc.imp (hO c) id)) (λ _ h=>h)) h
theorem s8.r8:∀ {t:Ty} {p:List Step} {b off:Nat} {O:List Nat} {x:t.den},s8 H S t p b off O x->(∀ c,c=b\/c∈O\/S c->H'[c]?=H[c]?) ->
  s8 H' S t p b off O x/\w8 H' t p b off=w8 H t p b off:=by
 intro t
 induction t with
 | pair a c iha ihc =>
  intro p b off O x hR hH
  match p,hR with
  | [],hR=>exact ⟨hR,by rw [x6,x6]⟩
  | .l7 0::p,⟨O1,O2,e,h1,h2⟩ =>
   subst e;obtain ⟨k1,k2⟩:=iha h1 (λ c hc=>hH c (hc.imp id (Or.imp (λ h=>by simp [h]) id)));refine ⟨⟨O1,O2,rfl,k1,?_⟩,k2⟩;rw [l4 (hH b (.inl rfl))];exact h2.r8 (λ c hc=>hH c (.inr (hc.imp (λ h=>by simp [h]) id))) (λ _ h=>h)
  | .l7 (n+1)::p,⟨O1,O2,e,h1,h2⟩ =>
   subst e;obtain ⟨k1,k2⟩:=ihc h2 (λ c hc=>hH c (hc.imp id (Or.imp (λ h=>by simp [h]) id)));refine ⟨⟨O1,O2,rfl,?_,k1⟩,k2⟩;rw [l4 (hH b (.inl rfl))];exact h1.r8 (λ c hc=>hH c (.inr (hc.imp (λ h=>by simp [h]) id))) (λ _ h=>h)
  | .idx i::p,hR=>simp [s8] at hR
 | arr n t ih =>
  intro p b off O x hR hH
  match p,hR with
  | [],hR=>exact ⟨hR,by rw [x6,x6]⟩
  | .l7 i::p,hR=>simp [s8] at hR
  | .idx i::p,⟨hl,hi,O1,O2,O3,e,h1,h2,h3⟩ =>
   subst e;obtain ⟨k1,k2⟩:=ih h2 (λ c hc=>hH c (hc.imp id (Or.imp (λ h=>by simp [h]) id)));refine ⟨⟨hl,hi,O1,O2,O3,rfl,?_,k1,?_⟩,k2⟩
   ·rw [l4 (hH b (.inl rfl))]
    exact h1.r8 (λ c hc=>hH c (.inr (hc.imp (λ h=>by simp [h]) id)))
   ·rw [l4 (hH b (.inl rfl))]
    exact h3.r8 (λ c hc=>hH c (.inr (hc.imp (λ h=>by simp [h]) id)))
 | d0 o t ih =>
  intro p b off O x hR hH
  match p,hR with
  | [],hR=>exact ⟨by cases o<;>exact hR,by rw [x6,x6]⟩
  | .l7 i::p,hR=>cases o<;>simp [s8] at hR
  | .idx i::p,hR =>
   cases o with
   | false=>simp [s8] at hR
   | true =>
    obtain ⟨hi,b1,o1,cap,O1,O2,O3,e,e1,e2,e3,e4,h1,h2,h3⟩:=hR;subst e;have dh:H'[b1]?=H[b1]?:=hH b1 (by simp);obtain ⟨k1,k2⟩:=ih h2 (λ c hc=>hH c (hc.elim (λ h=>.inr (.inl (by simp [h]))) (λ h=>.inr (h.imp (λ h=>by simp [h]) id))));refine ⟨⟨hi,b1,o1,cap,O1,O2,O3,rfl,by rw [M2 (hH b (.inl rfl))]; exact e1,e2,e3,e4.r8 dh,?_,k1,?_⟩,?_⟩
    ·rw [l4 dh]
     exact h1.r8 (λ c hc=>hH c (.inr (hc.imp (λ h=>by simp [h]) id)))
    ·rw [l4 dh]
     exact h3.r8 (λ c hc=>hH c (.inr (hc.imp (λ h=>by simp [h]) id)))
    ·simp only [w8,M2 (hH b (.inl rfl)),e1]
     exact k2
 | _ =>
  intro p b off O x hR hH
  match p,hR with
  | [],hR=>exact ⟨hR,by rw [x6,x6]⟩
  | .l7 i::p,hR=>simp [s8] at hR
  | .idx i::p,hR=>simp [s8] at hR
end
section
variable {S:Nat->Prop} {ι:Ix} {H H':Array Go.Obj}
theorem s8.move {i:Nat} {e:g8} {p:List Step} (hk:(∃ t x,e=.var t x)\/∃ t x j q,e=.own (.d0 true t) x/\p=.idx j::q) {O:List Nat} (hR:s8 (VH H ι i e) S e.ty p (VR H ι i e).1 (VR H ι i e).2 O e.x)
  (hO:∀ c∈O,c<H.size) (hS:∀ c,S c->c<H.size) (bn:H.size<=H'.size) (hH:∀ c,(c=(VR H ι i e).1/\c<H.size)\/c∈O\/S c->H'[c]?=H[c]?) (bD:(∃ t x,e=.var t x)->(VR H ι i e).1<H.size) :
  s8 (VH H' ι i e) S e.ty p (VR H' ι i e).1 (VR H' ι i e).2 O e.x/\w8 (VH H' ι i e) e.ty p (VR H' ι i e).1 (VR H' ι i e).2=w8 (VH H ι i e) e.ty p (VR H ι i e).1 (VR H ι i e).2:=by
 rcases hk with ⟨t,x,rfl⟩|⟨t,x,j,q,rfl,rfl⟩
 ·exact s8.r8 (H:=H) hR (λ c hc=>hH c (hc.imp (λ h=>⟨h,h▸bD ⟨_,_,rfl⟩⟩) id))
 ·have hg:∀ c,c∈O\/S c->(VH H' ι i (.own (.d0 true t) x))[c]?=(VH H ι i (.own (.d0 true t) x))[c]?:=λ c hc=>by
   have h1:c<H.size:=hc.elim (hO c) (hS c);rw [E9 h1,E9 (Nat.lt_of_lt_of_le h1 bn)];exact hH c (.inr hc)
  obtain ⟨hi,b1,o1,cap,O1,O2,O3,e0,e1,e2,e3,e4,h1,h2,h3⟩:=hR;subst e0;have dh:=hg b1 (by simp);obtain ⟨k1,k2⟩:=s8.r8 h2 (H':=VH H' ι i (.own (.d0 true t) x)) (λ c hc=>hg c (hc.elim (λ h=>.inl (by simp [h])) (λ h=>h.imp (λ h=>by simp [h]) id)));have dn:(s9 (VH H' ι i (.own (.d0 true t) x)) (VR H' ι i (.own (.d0 true t) x)).1)[(VR H' ι i (.own (.d0 true t) x)).2]?=some (.slice (some ⟨b1,o1,none⟩) (List.length x) cap):=by
   refine Eq.trans ?_ (show (s9 (VH H ι i (.own (.d0 true t) x)) (VR H ι i (.own (.d0 true t) x)).1)[(VR H ι i (.own (.d0 true t) x)).2]?=some (.slice (some ⟨b1,o1,none⟩) (List.length x) cap) from e1);simp only [VH,VR,a0n]
  refine ⟨⟨hi,b1,o1,cap,O1,O2,O3,rfl,dn,e2,e3,e4.r8 dh,?_,k1,?_⟩,?_⟩
  ·rw [l4 dh]; exact h1.r8 (λ c hc=>hg c (hc.imp (λ h=>by simp [h]) id))
  ·rw [l4 dh]; exact h3.r8 (λ c hc=>hg c (hc.imp (λ h=>by simp [h]) id))
  ·have e1':(s9 (VH H ι i (.own (.d0 true t) x)) (VR H ι i (.own (.d0 true t) x)).1)[(VR H ι i (.own (.d0 true t) x)).2]?=some (.slice (some ⟨b1,o1,none⟩) (List.length x) cap):=e1
   simp only [g8.ty,w8,dn,e1'];exact k2
theorem T9.refl {b off n m:Nat} (h:L8 H b m):T9 H H b off n:=by
 obtain ⟨arr,T,⟨fz,e,ef⟩,_⟩:=h;exact ⟨⟨arr,arr,T,⟨fz,⟨e,ef⟩,e⟩,rfl,λ _ _=>rfl⟩,λ _ _ _=>rfl⟩
theorem b1D:∀ {t:Ty} {x:t.den} {p:List Step} {u:Ty} {y:u.den},w5 t x p->j8 t x p=some ⟨u,y⟩->s6 t x p u y=some ⟨t,x⟩:=by
 intro t;have set_self:∀ {α:Type} {l:List α} {i:Int} {d:α},(0<=i/\i<List.length l)->List.set l i.toNat (List.getD l i.toNat d)=l:=by
  intro α l i d h;have h1:i.toNat<l.length:=by omega
  rw [List.getD_eq_getElem?_getD,List.getElem?_eq_getElem h1]; simp
 induction t with
 | pair a c iha ihc =>
  intro x p u y ho hg
  match p,ho,hg with
  | [],_,hg=>simp only [j8,Option.some.injEq] at hg; cases hg; simp [s6]
  | .l7 0::p,ho,hg=>simp only [s6,iha (x:=x.1) ho hg]
  | .l7 (n+1)::p,ho,hg=>simp only [s6,ihc (x:=x.2) (p:=.l7 n::p) ho hg]
  | .idx i::p,ho,_=>simp [w5] at ho
 | arr n t ih =>
  intro x p u y ho hg
  match p,ho,hg with
  | [],_,hg=>simp only [j8,Option.some.injEq] at hg; cases hg; simp [s6]
  | .l7 i::p,ho,_=>simp [w5] at ho
  | .idx i::p,ho,hg =>
   simp only [s6,ih ho.2 hg,dif_pos];by_cases hl:i<List.length x
   ·rw [set_self ⟨ho.1.1,hl⟩]
   ·rw [List.set_eq_of_length_le (by have:=ho.1.1; omega)]
 | d0 o t ih =>
  intro x p u y ho hg
  match p,ho,hg with
  | [],_,hg=>rw [x7] at hg; cases hg; cases o<;>simp [s6]
  | .l7 i::p,ho,_=>cases o<;>simp [w5] at ho
  | .idx i::p,ho,hg =>
   cases o with
   | false=>simp [w5] at ho
   | true =>
    simp only [s6,ih ho.2 hg,dif_pos];rw [set_self ho.1]
 | _ =>
  intro x p u y ho hg
  match p,ho,hg with
  | [],_,hg=>simp only [j8,Option.some.injEq] at hg; cases hg; simp [s6]
  | .idx i::p,ho,_=>simp [w5] at ho
  | .l7 i::p,ho,_=>simp [w5] at ho
theorem OB.set {i:Nat} {e:g8} (ho:OB H S ι i e) (bI:∀ c∈l6 ι i e,¬ S c/\c<H.size) (hS:∀ c,S c->c<H.size) {p:List Step} (hk:(∃ t x,e=.var t x)\/∃ t x j q,e=.own (.d0 true t) x/\p=.idx j::q) (aP:w5 e.ty e.x p) {u:Ty} {y:u.den} (hg:j8 e.ty e.x p=some ⟨u,y⟩)
  {b off:Nat} (hl:Loc H ι i e p=some (b,off)) (bn:H.size<=H'.size) {Op:List Nat} (fI:f8 H S u Op (d9 H b off u.size) y) (hH:∀ c,c<H.size->c∉Op->H'[c]?=H[c]?) {y':u.den} (eV:f8 H' S u Op (d9 H' b off u.size) y') {r:Sigma Ty.den} (aO:s6 e.ty e.x p u y'=some r) :
  OB H' S ι i (e.D6 r)/\Loc H' ι i e p=some (b,off):=by
 have he:e≠.J0:=L7 hl;have eK:=ho.a0I he hS aP hg hl fI;obtain ⟨Om,m1,mn,m2,m3,m4,m5⟩:=N7 he ho hS aP hg hl;obtain ⟨O,hO,hR,hb,aI,bo,fT,dw⟩:=ho.see he hS;obtain ⟨O1,O3,b',aq,e1,e2,e3,e4,e5,e6⟩:=focus hR hb aP hg
 obtain ⟨bW,cU⟩:=B0 hl;rw [F9 he] at bW;rw [e3] at bW; cases bW;have cf:(O1++O3).Nodup:=(e1.nodup_iff).1 ((hO.nodup_iff).2 (List.nodup_cons.1 aI).2);have bG:∀ c∈O1,c∈ι.own i:=λ c hc=>hO.mem_iff.1 (e1.mem_iff.2 (by simp [hc]));have cx:∀ c∈O3,c∈ι.own i:=λ c hc=>hO.mem_iff.1 (e1.mem_iff.2 (by simp [hc]));have bD:=(List.nodup_cons.1 aI).1;have cS:∀ c∈ι.own i,c∈l6 ι i e:=by intro c hc; cases e<;>simp [l6,hc]
 have e4':f8 H S u O3 (d9 H b off u.size) y:=by
  rw [l4 (E9 cU)] at e4;exact (Z5 (λ c hc=>ho.Q0 he (cx c hc)) hS).1 e4
 obtain rfl:Op=O3:=fI.det e4';have ez:∀ c∈O1,c<H.size:=λ c hc=>ho.Q0 he (bG c hc);have dp:∀ c,(c=(VR H ι i e).1/\c<H.size)\/c∈O1\/S c->H'[c]?=H[c]?:=by
  rintro c (⟨rfl,h1⟩|h1|h1)
  ·exact hH _ h1 (λ h=>bD (cx _ h))
  ·exact hH c (ez c h1) (λ h=>(List.nodup_append.1 cf).2.2 c h1 c h rfl)
  ·exact hH c (hS c h1) (λ h=>(bI c (cS c (cx c h))).1 h1)
 have iU:(∃ t x,e=.var t x)->(VR H ι i e).1<H.size:=by rintro ⟨t,x,rfl⟩; exact bo
 obtain ⟨n1,n2⟩:=s8.move (H':=H') hk e2 ez hS bn dp iU;have cX:(VR H' ι i e).2+e.ty.size<=(s9 (VH H' ι i e) (VR H' ι i e).1).length/\(VR H' ι i e).1<(VH H' ι i e).size/\¬ S (VR H' ι i e).1/\(VR H' ι i e).1∉O1:=by
  rcases hk with ⟨t,x,rfl⟩|⟨t,x,j,q,rfl,rfl⟩
  ·have hr:=iU ⟨_,_,rfl⟩
   refine ⟨?_,Nat.lt_of_lt_of_le hr bn,(bI _ (by simp [l6,VR])).1,λ h=>bD (bG _ h)⟩;have:=M2 (dp _ (.inl ⟨rfl,hr⟩));show (VR H ι i (.var t x)).2+_<=(s9 H' (VR H ι i (.var t x)).1).length;rw [this]; exact hb
  ·refine ⟨?_,by simp [VH,VR,a4K],λ h=>by have:=hS _ h; simp only [VR] at this; omega,λ h=>by have:=ez _ h; simp only [VR] at this; omega⟩
   simp only [VH,VR,a0n] at hb ⊢; exact hb
 have fk:L8 (VH H' ι i e) b (off+u.size):=L8.r8 (H:=H') (E9 (Nat.lt_of_lt_of_le cU bn)) (m5.r8 (hH b cU eK));have rO:f8 (VH H' ι i e) S u Op (d9 (VH H' ι i e) b off u.size) y':=by
  rw [l4 (E9 (Nat.lt_of_lt_of_le cU bn))];exact (Z5 (λ c hc=>Nat.lt_of_lt_of_le (ho.Q0 he (cx c hc)) bn) (λ c hc=>Nat.lt_of_lt_of_le (hS c hc) bn)).2 eV
 obtain ⟨O4,f1,f2,f3⟩:=a4B n1 hg (n2.trans e3) cX.1 cX.2.1 (List.nodup_append.1 cf).1 cX.2.2.2 (λ c hc=>⟨(bI c (cS c (bG c hc))).1,Nat.lt_of_lt_of_le (ez c hc) (Nat.le_trans bn a2q)⟩) cX.2.2.1
  (λ c hc=>Nat.lt_of_lt_of_le (hS c hc) (Nat.le_trans bn a2q)) (λ _ h=>h) (T9.refl fk) rO aO
 have bV:∀ c∈O4,c∈ι.own i:=λ c hc=>(List.mem_append.1 (f1.mem_iff.1 hc)).elim (bG c) (cx c);have fV:O4.Nodup:=(f1.nodup_iff).2 cf;have f2':=(Z5 (λ c hc=>Nat.lt_of_lt_of_le (ho.Q0 he (bV c hc)) bn) (λ c hc=>Nat.lt_of_lt_of_le (hS c hc) bn)).1 f2;have pE:O4.Perm (ι.own i):=f1.trans (e1.symm.trans hO);refine ⟨?_,Z7 (by rw [F9 he,n2]; exact e3) (Nat.lt_of_lt_of_le cU bn)⟩;have fc:r.1.size=e.ty.size:=E4 f3;cases e with
 | var t x =>
  obtain ⟨_,hf,fD⟩:=ho;have hf:L8 H (ι.root i).1 ((ι.root i).2+t.size):=hf;refine ⟨⟨O4,pE,f2'⟩,?_,fD⟩;have fc:r.1.size=t.size:=fc;show L8 H' (ι.root i).1 ((ι.root i).2+r.1.size);rw [fc];exact hf.r8 (dp _ (.inl ⟨rfl,iU ⟨_,_,rfl⟩⟩))
 | own t x =>
  obtain ⟨⟨O',_,eV⟩,fD⟩:=ho;refine ⟨⟨O4,pE,?_⟩,fD⟩;have fc:r.1.size=t.size:=fc;have:d9 (VH H' ι i (.own t x)) (VR H' ι i (.own t x)).1 (VR H' ι i (.own t x)).2 r.1.size=ι.cells i:=by
   simp only [VH,VR,d9,a0n,List.drop_zero];exact List.take_of_length_le (by rw [eV.length,fc]; exact Nat.le_refl _)
  have f2'':f8 H' S r.1 O4 (d9 (VH H' ι i (.own t x)) (VR H' ι i (.own t x)).1 (VR H' ι i (.own t x)).2 r.1.size) r.2:=f2';rw [this] at f2'';exact f2''
 | J0=>exact absurd rfl he
theorem OB.same {i:Nat} {e:g8} (ho:OB H S ι i e) (bI:∀ c∈l6 ι i e,¬ S c/\c<H.size) (hS:∀ c,S c->c<H.size) {p:List Step} (hk:(∃ t x,e=.var t x)\/∃ t x j q,e=.own (.d0 true t) x/\p=.idx j::q) (aP:w5 e.ty e.x p) {u:Ty} {y:u.den} (hg:j8 e.ty e.x p=some ⟨u,y⟩)
  {b off:Nat} (hl:Loc H ι i e p=some (b,off)) (bn:H.size<=H'.size) {Op:List Nat} (fI:f8 H S u Op (d9 H b off u.size) y) (hH:∀ c,c<H.size->c∉Op->H'[c]?=H[c]?) (eV:f8 H' S u Op (d9 H' b off u.size) y) :
  OB H' S ι i e/\Loc H' ι i e p=some (b,off):=by
 have h1:=OB.set ho bI hS hk aP hg hl bn fI hH eV (b1D aP hg);have he:=L7 hl;have e9:e.D6 ⟨e.ty,e.x⟩=e:=by cases e<;>first|rfl|exact absurd rfl he
 rw [e9] at h1;exact h1
end
section
variable {E:Env} {B:D4} {S:Nat->Prop} {ι:Ix} {s:St} {a:Act} {w:World}
theorem a8K {H:Array Go.Obj} {i:Nat} {e:g8} (ho:OB H S ι i e) (hS:∀ c,S c->c<H.size) {p:List Step} (jh:(∃ t x,e=.var t x)\/∃ t x j q,e=.own (.d0 true t) x/\p=.idx j::q) (aP:w5 e.ty e.x p) {u:Ty} {y:u.den} (hg:j8 e.ty e.x p=some ⟨u,y⟩) :
  ∃ b off,Loc H ι i e p=some (b,off):=by
 have cE:e≠.J0:=by rcases jh with ⟨_,_,rfl⟩|⟨_,_,_,_,rfl,_⟩<;>(intro h; cases h)
 obtain ⟨O,hO,hR,dL,fD,nU,fT,dw⟩:=ho.see cE hS;obtain ⟨O1,O3,b',aq,g1,g2,g3,g4,g5,g6⟩:=focus hR dL aP hg
 have bX:∀ c∈O1,c<H.size:=λ c hc=>ho.Q0 cE (hO.mem_iff.1 (g1.mem_iff.2 (by simp [hc])));refine ⟨b',aq,Z7 (by rw [F9 cE]; exact g3) ?_⟩;rcases jh with ⟨t,x,rfl⟩|⟨t,x,j,q,rfl,rfl⟩
 ·rcases s8.range g2 hg g3 with ⟨h1,_⟩|h1
  ·rw [h1]; exact ho.2.1.lt
  ·exact bX _ h1
 ·obtain ⟨hi,c1,o1,cap,P1,P2,P3,e,e1,e2,e3,e4,e5,e6,e7⟩:=g2
  subst e;have e1':(s9 (VH H ι i (.own (.d0 true t) x)) (VR H ι i (.own (.d0 true t) x)).1)[(VR H ι i (.own (.d0 true t) x)).2]?=some (.slice (some ⟨c1,o1,none⟩) (List.length x) cap):=e1;simp only [g8.ty,w8,e1'] at g3;rcases s8.range e6 hg g3 with ⟨h1,_⟩|h1
  ·rw [h1]; exact bX _ (by simp)
  ·exact bX _ (by simp [h1])
theorem b9k {e:g8} {p:List Step} {r:Sigma Ty.den} (h:a5D e p r=true):(∃ t x,e=.var t x)\/∃ t x,e=.own (.d0 true t) x/\(p=[]\/∃ j q,p=.idx j::q):=by
 unfold a5D at h;split at h
 ·exact .inl ⟨_,_,rfl⟩
 ·simp only [Bool.and_eq_true] at h
  obtain ⟨_,h⟩:=h;split at h
  ·exact .inr ⟨_,_,rfl,.inl rfl⟩
  ·exact .inr ⟨_,_,rfl,.inr ⟨_,_,rfl⟩⟩
  ·cases h
 ·cases h
theorem a77 {e:g8} {p:List Step} {r:Sigma Ty.den} (h:a5D e p r=true):a7r e (e.D6 r):=by
 unfold a5D at h;obtain ⟨r1,r2⟩:=r;split at h
 ·rename_i t x
  obtain rfl:r1=t:=of_decide_eq_true h;exact .inl ⟨r1,x,r2,rfl,rfl⟩
 ·rename_i t x
  simp only [Bool.and_eq_true] at h;obtain rfl:r1=.d0 true t:=of_decide_eq_true h.1;exact .inr (.inl ⟨t,x,r2,rfl,rfl⟩)
 ·cases h
theorem b6r {P:Program} (h:RS B S ι s a w) {i:Nat} {e:g8} (he:look i s.hp=some e) {p:List Step} (aP:w5 e.ty e.x p) {t0:Ty} {l:List t0.den} (hg:j8 e.ty e.x p=some ⟨.d0 true t0,l⟩) (bT:t0.shared=true)
  {b1 o1 cap:Nat} (hc:Cells w.heap ι i e p (.d0 true t0) [.slice (some ⟨b1,o1,none⟩) l.length cap]) (kt:1<=cap) {lo:Nat} {m:List t0.den} (ic:lo+m.length<=l.length) {news:List Value} (hN:i7 (f8 w.heap S t0) t0.size [] news m)
  {r:Sigma Ty.den} (aO:s6 e.ty e.x p (.d0 true t0) (l.take lo++m++l.drop (lo+m.length))=some r) (bN:a5D e p r=true) :
  ∃ w' ι',(storeCells ⟨b1,o1+lo*t0.size,none⟩ news).run P w=.ok () w'/\RS B S ι' ((s.U1 i e.X0).u5 i (e.D6 r)) a w':=by
 have cE:e≠.J0:=a2M hc;obtain ⟨Op,m1,mn,hR⟩:=F1 h.hs he aP hg hc;have bI:∀ c∈l6 ι i e,¬ S c/\c<w.heap.size:=λ c cI=>⟨(h.hs.bl i e he c cI).1,(h.hs.bl i e he c cI).2.2⟩;have eT:=hR;rcases hR with ⟨_,⟨A,c,e0,dO⟩,_⟩|⟨b2,o2,cap2,O',c1,c2,c3,c4,c5,rfl,c7⟩
 ·simp only [List.cons.injEq,Value.slice.injEq,and_true] at e0
  have:=dO rfl; omega
 simp only [List.cons.injEq,Value.slice.injEq,Option.some.injEq,Addr.mk.injEq,and_true,true_and] at c1;obtain ⟨⟨rfl,rfl⟩,rfl⟩:=c1;have fJ:O'=[]:=i7.J7 (λ _ _ _ hr=>f8.J7 bT hr) c5;subst fJ;have dh:b1∈l6 ι i e:=F6 (m1 b1 (by simp));have fQ:=(bI b1 dh).2;have kL:news.length=m.length*t0.size:=i7.length (λ _ _ _ h=>h.length) hN;have qS:lo*t0.size+m.length*t0.size<=l.length*t0.size:=by rw [<- Nat.add_mul]; exact Nat.mul_le_mul_right _ ic
 have qR:l.length*t0.size<=cap*t0.size:=Nat.mul_le_mul_right _ c2;obtain ⟨arr,T',⟨fz,e1,ef⟩,hn⟩:=c7;have dn:s9 w.heap b1=arr.toList:=by simp only [s9,e1]
 have iz:=Y3 (P:=P) b1 (o1+lo*t0.size) T' fz news 0 arr w ⟨e1,ef.imp id (·.2)⟩ (by omega) (λ v hv=>(i7.plain (λ _ _ _ hr=>hr.plain) hN v hv).1);simp only [Nat.add_zero] at iz;have gI:arr.toList.take (o1+lo*t0.size)++news++arr.toList.drop (o1+lo*t0.size+news.length)=over (s9 w.heap b1) (o1+lo*t0.size) news:=by rw [dn]; rfl
 rw [gI] at iz;obtain ⟨fx,hcs⟩:=a3U (w:=w) (b:=b1) (off:=o1+lo*t0.size) (cs:=news) ⟨arr,T',⟨fz,e1,ef.imp id (·.2)⟩,by omega⟩;generalize fL:w.setRow b1 (over (s9 w.heap b1) (o1+lo*t0.size) news).toArray=w' at iz fx hcs;have bn:w'.heap.size=w.heap.size:=by rw [<- fL]; exact setRow_size
 have bj:y9 [b1] w w':=⟨by rw [<- fL]; rfl,.of (by rw [<- fL]; rfl) (by rw [<- fL]; rfl),by rw [<- fL]; rfl,by rw [bn]; exact Nat.le_refl _,λ c _ cO=>by rw [<- fL]; exact setRow_other (by simpa using cO)⟩;have dw:R3 t0.isB w'.heap b1 (o1+cap*t0.size):=fx.b9f ⟨arr,T',⟨fz,e1,ef⟩,hn⟩;have hlen:(l.take lo++m++l.drop (lo+m.length)).length=l.length:=by simp only [List.length_append,List.length_take,List.length_drop]; omega
 have jE:∀ {O:List Nat} {cs:List Value} {y:t0.den},f8 w.heap S t0 O cs y->f8 w'.heap S t0 O cs y:=by
  intro O cs y hr;have hO:=f8.J7 bT hr;subst hO;refine hr.r8 (λ c cI=>bj.frame c ?_ ?_) (λ _ h=>h)
  ·rcases cI with h9|h9
   ·cases h9
   ·exact h.hs.slt c h9
  ·rcases cI with h9|h9
   ·cases h9
   ·rintro h8
    have:c=b1:=by simpa using h8
    exact (bI b1 dh).1 (this▸h9)
 have gM:∀ {cs:List Value} {l':List t0.den},i7 (f8 w.heap S t0) t0.size [] cs l'->i7 (f8 w'.heap S t0) t0.size [] cs l':=λ hr=>i7.mono (L:=[]) (λ _ h=>h) (λ _ _ _ _ hr=>jE hr) hr;have dW:∀ {k:Nat} {l':List t0.den} {O:List Nat} {cs:List Value},k<=l'.length->i7 (f8 w.heap S t0) t0.size O cs l'->i7 (f8 w.heap S t0) t0.size [] (cs.take (k*t0.size)) (l'.take k)/\i7 (f8 w.heap S t0) t0.size [] (cs.drop (k*t0.size)) (l'.drop k):=by
  intro k
  induction k with
  | zero =>
   intro l' O cs _ hr;have:=i7.J7 (λ _ _ _ hr=>f8.J7 bT hr) hr;subst this;simp only [Nat.zero_mul,List.take_zero,List.drop_zero];exact ⟨⟨rfl,rfl⟩,hr⟩
  | succ k ih =>
   intro l' O cs hk hr
   match l',hk,hr with
   | x::l',hk,⟨O1,O2,_,r1,r2⟩ =>
    obtain ⟨q1,q2⟩:=ih (by simpa using hk) r2;have e9:=f8.J7 bT r1;subst e9;refine ⟨⟨[],[],rfl,?_,?_⟩,?_⟩
    ·rw [List.take_take,Nat.min_eq_left (by rw [Nat.succ_mul]; omega)]; exact r1
    ·rw [List.drop_take,show (k+1)*t0.size - t0.size=k*t0.size by rw [Nat.succ_mul]; omega]; exact q1
    ·rw [List.drop_drop,show t0.size+k*t0.size=(k+1)*t0.size by rw [Nat.succ_mul]; omega] at q2; exact q2
 have bH:d9 w'.heap b1 o1 (l.length*t0.size)=(d9 w.heap b1 o1 (l.length*t0.size)).take (lo*t0.size)++news++(d9 w.heap b1 o1 (l.length*t0.size)).drop ((lo+m.length)*t0.size):=by
  have e3:l.length*t0.size=lo*t0.size+(news.length+(l.length - (lo+m.length))*t0.size):=by
   rw [kL,<- Nat.add_mul,<- Nat.add_mul]; congr 1; omega
  have e4:o1+lo*t0.size+news.length=o1+(lo+m.length)*t0.size:=by rw [kL,Nat.add_mul]; omega
  rw [m0 _ _ _ _ (by omega),n6];have e5:l.length*t0.size - (lo+m.length)*t0.size=(l.length - (lo+m.length))*t0.size:=by rw [Nat.sub_mul]
  rw [e5]
  conv=>lhs; rw [e3]
  rw [a2m,a2m,hcs,e4,fx.cells fQ (λ _=>.inl (Nat.le_refl _)),fx.cells fQ (λ _=>.inr (by rw [kL,Nat.add_mul]; omega)),List.append_assoc]
 have pa:i7 (f8 w'.heap S t0) t0.size [] (d9 w'.heap b1 o1 (l.length*t0.size)) (l.take lo++m++l.drop (lo+m.length)):=by
  rw [bH];exact i7.append (λ _ _ _ h=>h.length) (i7.append (λ _ _ _ h=>h.length) (gM (dW (by omega) c5).1) (gM hN)) (gM (dW (by omega) c5).2)
 have eV:f8 w'.heap S (.d0 true t0) [b1] [.slice (some ⟨b1,o1,none⟩) l.length cap] (l.take lo++m++l.drop (lo+m.length)):=by
  refine .inr ⟨b1,o1,cap,[],by rw [hlen],by rw [hlen]; exact c2,c3,?_,by rw [hlen]; exact pa,rfl,dw⟩;rw [hlen];have:=dw.free.s9;omega
 have rU:∃ O,OB w'.heap S (ι.y8 i O) i (e.D6 r)/\∀ c∈l6 (ι.y8 i O) i (e.D6 r),c∈l6 ι i e:=by
  have br:∀ (ob:OB w'.heap S ι i (e.D6 r)),∃ O,OB w'.heap S (ι.y8 i O) i (e.D6 r)/\∀ c∈l6 (ι.y8 i O) i (e.D6 r),c∈l6 ι i e:=by
   intro ob;refine ⟨ι.own i,?_,?_⟩
   ·cases e<;>simpa [OB,Ix.y8,g8.D6] using ob
   ·intro c cI
    cases e with
    | var t x=>simpa [l6,Ix.y8,g8.D6] using cI
    | own t x=>simpa [l6,Ix.y8,g8.D6] using cI
    | J0=>exact absurd rfl cE
  obtain ⟨b0,off0,bW,fG⟩:=hc;rcases b9k bN with ⟨t,x,rfl⟩|⟨t,x,rfl,hp⟩
  ·
   have gK:=aP;obtain ⟨b,off,hl⟩:=a8K (h.hs.ob i _ he) h.hs.slt (.inl ⟨_,_,rfl⟩) aP hg;have gG:=(B0 hl).1;rw [bW] at gG; cases gG;have db:=(B0 hl).2;obtain ⟨Oq,q1,q2,q3,q4,q5,q6⟩:=N7 cE (h.hs.ob i _ he) h.hs.slt aP hg hl;have lW:d9 w.heap b0 off0 1=[.slice (some ⟨b1,o1,none⟩) l.length cap]:=by
    rw [l4 (E9 db)] at fG; exact fG.symm
   have pc:Oq=[b1]:=by
    have q3':f8 w.heap S (.d0 true t0) Oq [.slice (some ⟨b1,o1,none⟩) l.length cap] l:=by rw [<- lW]; exact q3
    exact q3'.det eT
   subst pc;have kh:=(h.hs.ob i _ he).a0I cE h.hs.slt aP hg hl q3;have jZ:d9 w'.heap b0 off0 1=[.slice (some ⟨b1,o1,none⟩) l.length cap]:=by
    rw [l4 (bj.frame b0 db kh)]; exact lW
   exact br (OB.set (h.hs.ob i _ he) bI h.hs.slt (.inl ⟨_,_,rfl⟩) aP hg hl (by rw [bn]; exact Nat.le_refl _) q3 (λ c df oH=>bj.frame c df oH) (by
    show f8 w'.heap S (.d0 true t0) [b1] (d9 w'.heap b0 off0 1) _;rw [jZ]; exact eV) aO).1
  ·
   rcases hp with rfl|⟨j,q,rfl⟩
   ·have jm:j8 (.d0 true t) x []=some ⟨.d0 true t0,l⟩:=hg
    rw [x7] at jm;simp only [Option.some.injEq,Sigma.mk.injEq,Ty.d0.injEq,true_and] at jm;obtain ⟨rfl,pk⟩:=jm;obtain rfl:x=l:=eq_of_heq pk;obtain ⟨⟨O9,qD,pb⟩,nP⟩:=h.hs.ob i _ he;have gS:ι.cells i=[.slice (some ⟨b1,o1,none⟩) (List.length x) cap]:=by
     rw [F9 cE,x6] at bW;cases bW;have pJ:(ι.cells i).length=1:=pb.length;simp only [VH,VR,d9,a0n,List.drop_zero,Ty.size] at fG;rw [List.take_of_length_le (by omega)] at fG;exact fG.symm
    have iW:s6 (.d0 true t) x [] (.d0 true t) (x.take lo++m++x.drop (lo+m.length))=some r:=aO;have hr:r=⟨.d0 true t,x.take lo++m++x.drop (lo+m.length)⟩:=by
     simp only [s6,if_true,Option.some.injEq] at iW;exact iW.symm
    subst hr;rw [gS] at pb;have rV:O9=[b1]:=pb.det eT;subst rV;refine br ⟨⟨[b1],qD,?_⟩,nP⟩;rw [gS]; exact eV
   ·obtain ⟨b,off,hl⟩:=a8K (h.hs.ob i _ he) h.hs.slt (.inr ⟨_,_,_,_,rfl,rfl⟩) aP hg
    have gG:=(B0 hl).1;rw [bW] at gG; cases gG;have db:=(B0 hl).2;obtain ⟨Oq,q1,q2,q3,q4,q5,q6⟩:=N7 cE (h.hs.ob i _ he) h.hs.slt aP hg hl;have lW:d9 w.heap b0 off0 1=[.slice (some ⟨b1,o1,none⟩) l.length cap]:=by
     rw [l4 (E9 db)] at fG; exact fG.symm
    have pc:Oq=[b1]:=by
     have q3':f8 w.heap S (.d0 true t0) Oq [.slice (some ⟨b1,o1,none⟩) l.length cap] l:=by rw [<- lW]; exact q3
     exact q3'.det eT
    subst pc;have kh:=(h.hs.ob i _ he).a0I cE h.hs.slt aP hg hl q3;have jZ:d9 w'.heap b0 off0 1=[.slice (some ⟨b1,o1,none⟩) l.length cap]:=by
     rw [l4 (bj.frame b0 db kh)]; exact lW
    exact br (OB.set (h.hs.ob i _ he) bI h.hs.slt (.inr ⟨_,_,_,_,rfl,rfl⟩) aP hg hl (by rw [bn]; exact Nat.le_refl _) q3 (λ c df oH=>bj.frame c df oH) (by
     show f8 w'.heap S (.d0 true t0) [b1] (d9 w'.heap b0 off0 1) _;rw [jZ]; exact eV) aO).1
 obtain ⟨O,aX,mQ⟩:=rU;refine ⟨w',_,iz,h.renew he (a77 bN) C9.nil (L:=l6 ι i e) (bj.mono (by simpa using dh)) (λ b hb=>.inl hb) (λ _ h=>h) (λ _ h=>.inl h) (O':=O) aX (λ c cI=>?_)⟩;have:=h.hs.bl i e he c (mQ c cI);exact ⟨this.1,.inr (mQ c cI),by rw [bn]; exact this.2.2⟩
theorem b9j (h:RS B S ι s a w) {i:Nat} {e:g8} (he:look i s.hp=some e) {p:List Step} {r:Sigma Ty.den} (bN:a5D e p r=true) (hr:e.D6 r=e):∃ ι',RS B S ι' ((s.U1 i e.X0).u5 i (e.D6 r)) a w:=by
 have ee:=a77 bN;rw [hr] at ee ⊢;have hs:ι.y8 i (ι.own i)=ι:=by
  cases ι with
  | mk r c o =>
   simp only [Ix.y8,Ix.mk.injEq,true_and]
   funext j
   split
   ·rename_i e9; rw [e9]
   ·rfl
 exact ⟨_,h.renew he ee C9.nil (L:=l6 ι i e) ⟨rfl,.refl _,rfl,Nat.le_refl _,λ _ _ _=>rfl⟩ (λ b hb=>.inl hb) (λ _ h=>h) (λ _ h=>.inl h) (O':=ι.own i) (by rw [hs]; exact h.hs.ob i e he) (λ c cI=>by
  rw [hs] at cI;have:=h.hs.bl i e he c cI;exact ⟨this.1,.inr cI,this.2.2⟩)⟩
theorem b0Z (h:RS B S ι s a w) {v:AV} {val:Value} (hv:VX w.heap S ι s.hp v [val]) {i:Nat} {p:List Step} {lo hi:Int} (hd:v.a2S s=some (i,p,lo,hi)) :
  ∃ e t0 l A cap c A',look i s.hp=some e/\w5 e.ty e.x p/\j8 e.ty e.x p=some ⟨.d0 true t0,l⟩/\Cells w.heap ι i e p (.d0 true t0) [.slice A (List.length l) cap]/\0<=lo/\lo<=hi/\hi<=(List.length l:Int) /\
   val=.slice A' (hi - lo).toNat c/\(c≠0->A'=A.map (·.add (lo.toNat*t0.size)))/\(hi - lo).toNat<=c:=by
 unfold AV.a2S at hd;split at hd
 ·rename_i j q
  split at hd
  ·rename_i t0 l cM
   cases hd;obtain ⟨e,u,y,cs,h1,h2,h3,h4,h5⟩:=hv;have hg:=G6 h1 cM;rw [h3] at hg; cases hg;obtain ⟨O2,m1,m2,m3⟩:=F1 h.hs h1 h2 h3 h4;obtain ⟨A,cap,hcs,hle⟩:∃ A cap,cs=[.slice A (List.length l) cap]/\List.length l<=cap:=by
    rcases m3 with ⟨_,⟨A,c,e0,dO⟩,hl⟩|⟨b2,o2,cap2,O',c1,c2,_⟩
    ·subst hl; exact ⟨A,c,e0,Nat.zero_le _⟩
    ·exact ⟨_,_,c1,c2⟩
   subst hcs;refine ⟨e,t0,l,A,cap,cap,A,h1,h2,h3,h4,Int.le_refl _,by omega,Int.le_refl _,?_,λ _=>?_,by omega⟩
   ·have h5:val=.slice A (List.length l) cap:=by simpa [j9,Ty.agg] using h5
    rw [h5,show ((List.length l:Int) - 0).toNat=List.length l by omega]
   ·cases A with
    | none=>rfl
    | some A=>simp [Addr.add]
  ·cases hd
 ·rename_i j q lo' cB
  split at hd
  ·rename_i t0 l cM
   cases hd;obtain ⟨e,v',h1,h2,h3,h4,h5,h6⟩:=hv;have hg:=G6 h1 cM;cases h3;rcases h6 with ⟨t1,l1,A,cap,k1,k2,k3,c,A',k4,k5,k6,k7⟩|⟨n,t1,l1,b,off,k1,_,_,_⟩
   ·rw [k1] at hg; cases hg
    exact ⟨e,t0,l,A,cap,c,A',h1,h2,k1,k3,h4,h5,k2,k4,k5,k6⟩
   ·rw [k1] at hg; cases hg
  ·cases hd
 ·cases hd
theorem c1a {t:Ty} {O:List Nat} {cs:List Value} {l:List t.den} (bT:t.shared=true) (hr:i7 (f8 w.heap S t) t.size O cs l):∀ {k:Nat},i7 (f8 w.heap S t) t.size [] (cs.take (k*t.size)) (l.take k):=by
 have hO:=i7.J7 (λ _ _ _ hr=>f8.J7 bT hr) hr;subst hO;intro k
 induction k generalizing cs l with
 | zero=>simp only [Nat.zero_mul,List.take_zero]; exact ⟨rfl,rfl⟩
 | succ k ih =>
  match l,hr with
  | [],⟨_,e⟩=>subst e; simp only [List.take_nil]; exact ⟨rfl,rfl⟩
  | x::l,⟨O1,O2,e,r1,r2⟩ =>
   obtain ⟨rfl,rfl⟩:=List.append_eq_nil_iff.1 e.symm;refine ⟨[],[],rfl,?_,?_⟩
   ·rw [List.take_take,Nat.min_eq_left (by rw [Nat.succ_mul]; omega)]; exact r1
   ·rw [List.drop_take,show (k+1)*t.size - t.size=k*t.size by rw [Nat.succ_mul]; omega]; exact ih r2
theorem a4o {P:Program} (h:RS B S ι s a w) {v:AV} {val:Value} (hv:VX w.heap S ι s.hp v [val]) {i:Nat} {p:List Step} {lo hi:Int} (hd:v.a2S s=some (i,p,lo,hi)) {t:Ty} {m:List t.den} (hm:(m.length:Int)<=hi - lo) {news:List Value} (hN:i7 (f8 w.heap S t) t.size [] news m)
  {s':St} (hf:a0C s i p lo.toNat t m=some s'):∃ w' ι' A' c,val=.slice A' (hi - lo).toNat c/\RS B S ι' s' a w'/\((A'=none/\m=[]/\w'=w)\/∃ A,A'=some A/\(storeCells A news).run P w=.ok () w'):=by
 obtain ⟨e,t0,l,A,cap,c,A',h1,h2,h3,h4,h5,h6,h7,h8,h9,im⟩:=b0Z h hv hd;unfold a0C at hf;have aX:s.obj i=some e:=h1;rw [aX] at hf;simp only [h3] at hf;split at hf
 ·rename_i ht
  subst ht;split at hf
  ·rename_i r aO
   split at hf
   ·rename_i hc
    simp only [Bool.and_eq_true] at hc;cases hf;have aO:s6 e.ty e.x p (.d0 true t) (l.take lo.toNat++m++l.drop (lo.toNat+m.length))=some r:=aO;by_cases gr:m=[]
    ·subst gr
     have cG:news=[]:=hN.2;subst cG;have br:s6 e.ty e.x p (.d0 true t) l=some r:=by
      rw [<- aO]; congr 1; simp
     have hr:r=⟨e.ty,e.x⟩:=by
      have:=b1D h2 h3;rw [br] at this; cases this; rfl
     have ng:e.D6 r=e:=by
      rw [hr];cases e with
      | J0=>rfl
      | _=>rfl
     obtain ⟨ι',cR⟩:=b9j h h1 hc.2 ng;refine ⟨w,ι',A',c,h8,cR,?_⟩;cases A' with
     | none=>exact .inl ⟨rfl,rfl,rfl⟩
     | some A=>exact .inr ⟨A,rfl,by simp [storeCells]⟩
    ·have jL:1<=m.length:=List.length_pos_iff.2 gr
     have dO:c≠0:=by omega
     have hA:=h9 dO;obtain ⟨Op,m1,mn,hR⟩:=F1 h.hs h1 h2 h3 h4;rcases hR with ⟨_,⟨A9,c9,e0,sO⟩,hl⟩|⟨b2,o2,cap2,O',c1,c2,c3,_⟩
     ·rw [hl] at h7; simp at h7; omega
     ·simp only [List.cons.injEq,Value.slice.injEq,and_true,true_and] at c1
      obtain ⟨rfl,rfl⟩:=c1;obtain ⟨w',ι',k1,k2⟩:=b6r (P:=P) h h1 h2 h3 hc.1 h4 (c3.2 rfl) (lo:=lo.toNat) (m:=m) (by omega) hN aO hc.2;refine ⟨w',ι',A',c,h8,k2,.inr ⟨⟨b2,o2+lo.toNat*t.size,none⟩,by rw [hA]; simp [Addr.F8],k1⟩⟩
   ·cases hf
  ·cases hf
 ·cases hf
end
end Go.Ex
namespace Go.Ex
theorem b1w {P:Program} {k:Nat} {T:TypeId} {t:Ty} (h:n8 P k T (.hole t)=true):∃ e,P.underlying T=some (.slice e):=by
 cases k with
 | zero=>simp [n8] at h
 | succ k =>
  obtain ⟨d,h1,h2⟩:=N0 h;simp only [n8,Bool.and_eq_true,h1] at h;obtain ⟨_,h⟩:=h;cases d<;>first|(exact (Bool.false_ne_true h).elim)|skip
  ·exact ⟨_,h1⟩
  ·rename_i fs
   have h:l8 (n8 P k) fs.toList 0 (.hole t)=true:=h;cases hf:fs.toList<;>(rw [hf] at h; simp [l8] at h)
theorem b3C {P:Program} {k:Nat} {T:TypeId} {t:Ty} (h:n8 P k T (.w6 t)=true):∃ e,P.underlying T=some (.slice e):=by
 cases k with
 | zero=>simp [n8] at h
 | succ k =>
  obtain ⟨d,h1,h2⟩:=N0 h;simp only [n8,Bool.and_eq_true,h1] at h;obtain ⟨_,h⟩:=h;cases d<;>first|(exact (Bool.false_ne_true h).elim)|skip
  ·exact ⟨_,h1⟩
  ·rename_i fs
   have h:l8 (n8 P k) fs.toList 0 (.w6 t)=true:=h;cases hf:fs.toList<;>(rw [hf] at h; simp [l8] at h)
section
variable {E:Env} {B:D4} {S S':Nat->Prop} {ι:Ix} {s:St} {a:Act} {w:World} {hp:List (Nat×g8)} {H H':Array Go.Obj}
theorem a7T {P:Program} {e:TypeId} {t:Ty} {n d:Nat} (hT:n8 P n e t=true)
  (hA:∀ {cs cs':List Value} {x y:t.den},f8 H S t [] cs x->f8 H' S' t [] cs' y->(Op.equalIn d e (j9 t cs) (j9 t cs')).run P w=.ok (H3 t x y) w) {cs cs':List Value} :
  ∀ {l l':List t.den} {k:Nat},l.length=l'.length->i7 (f8 H S t) t.size [] (cs.drop (k*t.size)) l->i7 (f8 H' S' t) t.size [] (cs'.drop (k*t.size)) l' ->
   (Op.eqItems d e t.size cs.toArray cs'.toArray (List.range' k l.length)).run P w=.ok (H3.a8R (H3 t) l l') w
 | [],[],k,_,_,_=>by simp [Op.eqItems,H3.a8R]
 | [],_::_,_,h,_,_=>by cases h
 | _::_,[],_,h,_,_=>by cases h
 | x::l,y::l',k,hl,⟨O1,O2,e1,h1,h2⟩,⟨O3,O4,e2,h3,h4⟩=>by
  obtain ⟨rfl,rfl⟩:=List.append_eq_nil_iff.1 e1.symm;obtain ⟨rfl,rfl⟩:=List.append_eq_nil_iff.1 e2.symm;have p1:=a0c (w:=w) hT h1;have p2:=a0c (w:=w) hT h3;have e3:=hA h1 h3;have hk:k*t.size+t.size=(k+1)*t.size:=by rw [Nat.succ_mul]
  rw [List.drop_drop,hk] at h2 h4;have ih:=a7T hT hA (l:=l) (l':=l') (k:=k+1) (by simpa using hl) h2 h4;simp only [List.length_cons,List.range'_succ,Op.eqItems,Sem.run_bind,p1,p2,Result.andThen,e3,H3.a8R];cases hq:H3 t x y with
  | true=>simpa using ih
  | false=>simp
theorem run_eq {P:Program}:∀ (t:Ty),
  (∀ {n m d:Nat} {T:TypeId} {cs cs':List Value} {x y:t.den},n8 P n T t=true->R8 P m T t=true->t.ht<d->f8 H S t [] cs x->f8 H' S' t [] cs' y->(Op.equalIn d T (j9 t cs) (j9 t cs')).run P w=.ok (H3 t x y) w) /\
  (∀ {n m d off:Nat} {fs:List Field} {cs cs':List Value} {x y:t.den},l8 (n8 P n) fs off t=true->a6L (R8 P m) fs t=true->t.ht<=d->f8 H S t [] ((cs.drop off).take t.size) x->f8 H' S' t [] ((cs'.drop off).take t.size) y ->
   (Op.eqFields d cs.toArray cs'.toArray fs).run P w=.ok (H3 t x y) w):=by
 intro t;have strct:∀ {t:Ty},t.agg=true->(∀ n u,t≠.arr n u) ->
  (∀ {n m d off:Nat} {fs:List Field} {cs cs':List Value} {x y:t.den},l8 (n8 P n) fs off t=true->a6L (R8 P m) fs t=true->t.ht<=d->f8 H S t [] ((cs.drop off).take t.size) x->f8 H' S' t [] ((cs'.drop off).take t.size) y ->
   (Op.eqFields d cs.toArray cs'.toArray fs).run P w=.ok (H3 t x y) w) ->
  (∀ {n m d:Nat} {T:TypeId} {cs cs':List Value} {x y:t.den},n8 P n T t=true->R8 P m T t=true->t.ht<d->f8 H S t [] cs x->f8 H' S' t [] cs' y->(Op.equalIn d T (j9 t cs) (j9 t cs')).run P w=.ok (H3 t x y) w):=by
  intro t cV nS hB n m d T cs cs' x y hT hq hd h1 h2;obtain ⟨fs,k',g1,g2⟩:=a4g hT cV nS;have ft:P.underlying T=some (.struct (P.fieldsOf T)):=by simp [Program.fieldsOf,g1]
  have fj:P.fieldsOf T=fs:=by rw [g1] at ft; cases ft; rfl
  cases m with
  | zero=>simp [R8] at hq
  | succ m =>
   have hq:(!P.stoodInHeld T && a6L (R8 P m) fs.toList t)=true:=by
    simp only [R8,g1] at hq;exact hq
   simp only [Bool.and_eq_true,Bool.not_eq_true'] at hq;obtain ⟨d,rfl⟩:∃ e,d=e+1:=⟨d - 1,by omega⟩;have hv:∀ cs,j9 t cs=.agg cs.toArray:=by intro cs; simp [j9,cV]
   rw [hv,hv,run_equalIn_struct w d T _ _ ft hq.1,fj];refine hB g2 hq.2 (by omega) ?_ ?_
   ·rw [List.drop_zero,List.take_of_length_le (by rw [h1.length]; exact Nat.le_refl _)]; exact h1
   ·rw [List.drop_zero,List.take_of_length_le (by rw [h2.length]; exact Nat.le_refl _)]; exact h2
 induction t with
 | int k =>
  refine ⟨?_,by intro n m d off fs cs cs' x y h; cases fs<;>simp [l8] at h⟩;rintro n m d T cs cs' x y hT _ hd ⟨_,rfl,_⟩ ⟨_,rfl,_⟩;obtain ⟨d,rfl⟩:∃ e,d=e+1:=⟨d - 1,by omega⟩;exact run_equalIn_int w d T k k x y (X7 hT)
 | bool =>
  refine ⟨?_,by intro n m d off fs cs cs' x y h; cases fs<;>simp [l8] at h⟩;rintro n m d T cs cs' x y hT _ hd ⟨_,rfl⟩ ⟨_,rfl⟩;obtain ⟨d,rfl⟩:∃ e,d=e+1:=⟨d - 1,by omega⟩;exact run_equalIn_bool (a1l hT) d x y
 | str =>
  refine ⟨?_,by intro n m d off fs cs cs' x y h; cases fs<;>simp [l8] at h⟩;rintro n m d T cs cs' x y hT _ hd ⟨_,rfl,_⟩ ⟨_,rfl,_⟩;obtain ⟨d,rfl⟩:∃ e,d=e+1:=⟨d - 1,by omega⟩;have:=run_equalIn_string w d T (⟨(x:List UInt8).toArray⟩:ByteArray) ⟨(y:List UInt8).toArray⟩ (S9 hT);refine Eq.trans this ?_;rw [ByteArray.toList_eq,ByteArray.toList_eq];congr 1;show ((x:List UInt8) == y)=decide ((x:List UInt8)=y);rw [Bool.eq_iff_iff]; simp
 | unit =>
  have hB:∀ {n m d off:Nat} {fs:List Field} {cs cs':List Value} {x y:Ty.unit.den},l8 (n8 P n) fs off .unit=true->a6L (R8 P m) fs .unit=true->Ty.unit.ht<=d->f8 H S .unit [] ((cs.drop off).take Ty.unit.size) x->f8 H' S' .unit [] ((cs'.drop off).take Ty.unit.size) y ->
   (Op.eqFields d cs.toArray cs'.toArray fs).run P w=.ok (H3 .unit x y) w:=by
   intro n m d off fs cs cs' x y h _ _ _ _;cases fs with
   | nil=>simp [Op.eqFields,H3]
   | cons f fs=>simp [l8] at h
  exact ⟨strct rfl (by simp) hB,hB⟩
 | pair p q ihp ihq =>
  have hB:∀ {n m d off:Nat} {fs:List Field} {cs cs':List Value} {x y:(Ty.pair p q).den},l8 (n8 P n) fs off (.pair p q)=true->a6L (R8 P m) fs (.pair p q)=true->(Ty.pair p q).ht<=d ->
    f8 H S (.pair p q) [] ((cs.drop off).take (Ty.pair p q).size) x->f8 H' S' (.pair p q) [] ((cs'.drop off).take (Ty.pair p q).size) y->(Op.eqFields d cs.toArray cs'.toArray fs).run P w=.ok (H3 (.pair p q) x y) w:=by
   rintro n m d off fs cs cs' x y hf hq hd ⟨O1,O2,e1,h1,h2⟩ ⟨O3,O4,e2,h3,h4⟩;obtain ⟨rfl,rfl⟩:=List.append_eq_nil_iff.1 e1.symm;obtain ⟨rfl,rfl⟩:=List.append_eq_nil_iff.1 e2.symm;cases fs with
   | nil=>simp [l8] at hf
   | cons f fs =>
    simp only [l8,Bool.and_eq_true] at hf;simp only [a6L,Bool.and_eq_true] at hq;obtain ⟨⟨⟨⟨g1,_⟩,g3⟩,g4⟩,g5⟩:=hf;have g1:f.offset=off:=Nat.eq_of_beq_eq_true g1;have mH:p.ht+1<=d/\q.ht<=d:=by
     have:max (p.ht+1) q.ht<=d:=hd;omega
    have bn:(Ty.pair p q).size=p.size+q.size:=rfl;rw [List.take_take,Nat.min_eq_left (by omega)] at h1 h3;rw [List.drop_take,List.drop_drop,bn,Nat.add_sub_cancel_left] at h2 h4;rw [<- g1] at h1 h3;have p1:=a0c (w:=w) g3 h1;have p2:=a0c (w:=w) g3 h3;have e3:=ihp.1 (d:=d) g3 hq.1 (by omega) h1 h3;have ih:=ihq.2 (d:=d) (cs:=cs) (cs':=cs') g5 hq.2 mH.2 h2 h4;have hn:f.name≠ "_":=by simpa using g4
    simp only [Op.eqFields,hn,ne_eq,not_false_eq_true,if_true,Sem.run_bind,p1,p2,Result.andThen,e3,H3];cases hh:H3 p x.1 y.1 with
    | true=>simpa using ih
    | false=>simp
  exact ⟨strct rfl (by simp) hB,hB⟩
 | arr k t ih =>
  refine ⟨?_,by intro n m d off fs cs cs' x y h; cases fs<;>simp [l8] at h⟩;rintro n m d T cs cs' x y hT hq hd ⟨h1,h2⟩ ⟨h3,h4⟩;obtain ⟨e,k',g1,g2,g3⟩:=U9 hT;cases m with
  | zero=>simp [R8] at hq
  | succ m =>
   have hq:R8 P m e t=true:=by simpa only [R8,g1] using hq
   obtain ⟨d,rfl⟩:∃ e,d=e+1:=⟨d - 1,by omega⟩;obtain ⟨i,hi,rh,_⟩:=R4 g3;have hc:P.cellsOf e=t.size:=by simp [Program.cellsOf,hi,rh]
   have hv:∀ cs,j9 (.arr k t) cs=.agg cs.toArray:=λ cs=>rfl;have oA:t.ht<d:=by have:t.ht+1<d+1:=hd; omega
   rw [hv,hv,run_equalIn_array w d _ _ g1 hi,hc,List.range_eq_range'];have:=a7T (w:=w) (cs:=cs) (cs':=cs') (l:=x) (l':=y) (k:=0) g3 (λ a b=>ih.1 g3 hq oA a b) (by rw [h1,h3]) (by simpa using h2) (by simpa using h4);rw [h1] at this;exact this
 | fn f =>
  refine ⟨?_,by intro n m d off fs cs cs' x y h; cases fs<;>simp [l8] at h⟩;rintro n m d T cs cs' x y hT hq;obtain ⟨_,_,_,g1⟩:=b69 hT;cases m<;>simp [R8,g1] at hq
 | map o a b =>
  refine ⟨?_,by intro n m d off fs cs cs' x y h; cases fs<;>simp [l8] at h⟩;rintro n m d T cs cs' x y hT hq;obtain ⟨_,_,_,g1,_⟩:=a47 hT;cases m<;>simp [R8,g1] at hq
 | box o g t =>
  refine ⟨?_,by intro n m d off fs cs cs' x y h; cases fs<;>simp [l8] at h⟩;rintro n m d T cs cs' x y hT hq;cases g with
  | none =>
   obtain ⟨_,_,g1,_⟩:=a8v hT;cases m<;>simp [R8,g1] at hq
  | some f =>
   obtain ⟨_,_,_,g1⟩:=b1x hT;cases m<;>simp [R8,g1] at hq
 | d0 o t ih =>
  refine ⟨?_,by intro n m d off fs cs cs' x y h; cases fs<;>simp [l8] at h⟩;rintro n m d T cs cs' x y hT hq;obtain ⟨e,k',g1,_⟩:=E6 hT;cases m<;>simp [R8,g1] at hq
 | hole t ih =>
  refine ⟨?_,by intro n m d off fs cs cs' x y h; cases fs<;>simp [l8] at h⟩;rintro n m d T cs cs' x y hT hq;obtain ⟨e,g1⟩:=b1w hT;cases m<;>simp [R8,g1] at hq
 | w6 t ih =>
  refine ⟨?_,by intro n m d off fs cs cs' x y h; cases fs<;>simp [l8] at h⟩;rintro n m d T cs cs' x y hT hq;obtain ⟨e,g1⟩:=b3C hT;cases m<;>simp [R8,g1] at hq
theorem b1Y (hE:C2 E B) (h:RS B S ι s a w) {o:Oper} {op:BinOp} {T T':TypeId} {x y:Operand} (ho:o.op=.binOp op T x y T') {t u:Ty} {p:t.den} {q:u.den} (hx:s.ev x=.val t p) (hy:s.ev y=.val u q):D3 E.P B o a w (eqA E T op t p u q s):=by
 unfold eqA
 split
 ·rename_i hu
  subst hu;have core:(u.agg && I2 E T u && R8 E.P 100 T u && !(E.P.eqGuardType E.P.depth T) && Nat.blt u.ht 100)=true ->
    ∃ cs cs',a.eval x=.agg cs/\a.eval y=.agg cs'/\(∀ op,(eqGuard op T x y (a.eval x) (a.eval y)).run E.P w=.ok () w)/\(Op.equalIn 10000 T (.agg cs) (.agg cs')).run E.P w=.ok (H3 u p q) w:=by
   intro hc;simp only [Bool.and_eq_true,Bool.not_eq_true',Nat.blt_eq] at hc;obtain ⟨⟨⟨⟨c1,c2⟩,c3⟩,c4⟩,c5⟩:=hc;obtain ⟨cs,e1,h1⟩:=x8 h hx;obtain ⟨cs',e2,h2⟩:=x8 h hy;have hv:∀ cs,j9 u cs=.agg cs.toArray:=by intro cs; simp [j9,c1]
   have e1:a.eval x=.agg cs.toArray:=by rw [hv] at e1; simpa using e1
   have e2:a.eval y=.agg cs'.toArray:=by rw [hv] at e2; simpa using e2
   refine ⟨_,_,e1,e2,λ op=>by rw [e1,e2]; exact run_eqGuard_agg w op T x y _ _ c4,?_⟩;have:=(run_eq (P:=E.P) (w:=w) (H:=w.heap) (H':=w.heap) (S:=S) (S':=S) u).1 (d:=10000) (C1 hE c2) c3 (by omega) h1 h2
   rwa [hv,hv] at this
  split
  ·rename_i hc
   obtain ⟨cs,cs',e1,e2,hg,he⟩:=core hc;refine w4.value (val:=.bool (H3 u p q)) ?_ h VX.bool;rw [R7 ho (hg .eql) (r:=.ok (.bool (H3 u p q)) w)]; rfl;rw [e1,e2,run_eql_struct,he]; rfl
  ·rename_i hc
   obtain ⟨cs,cs',e1,e2,hg,he⟩:=core hc;refine w4.value (val:=.bool (!(H3 u p q))) ?_ h VX.bool;rw [R7 ho (hg .neq) (r:=.ok (.bool (!(H3 u p q))) w)]; rfl;rw [e1,e2,run_neq_struct,he]; rfl
  ·trivial
 ·trivial
theorem b8T (hE:C2 E B) (h:RS B S ι s a w) {o:Oper} {op:BinOp} {T T':TypeId} {x y:Operand} (ho:o.op=.binOp op T x y T') {i:Nat} {p:List Step} (ex:s.ev x=.ptr i p) (ey:s.ev y=.raw (.pointer none)):D3 E.P B o a w (b36 E T op s):=by
 have hx:=h.ev x;have hy:=h.ev y;rw [ex] at hx; rw [ey] at hy;obtain ⟨e,b,off,-,-,-,hx⟩:=hx;have hx:a.eval x=.pointer (some ⟨b,off,none⟩):=by simpa using hx
 have hy:a.eval y=.pointer none:=by
  have hy:[a.eval y]=[Value.pointer none]:=hy;simpa using hy
 have hg:(eqGuard op T x y (a.eval x) (a.eval y)).run E.P w=.ok () w:=by rw [hx,hy]; cases op<;>rfl
 have run:∀ {o':Bool} {t:Ty} {n:Nat},look T E.tt=some ⟨.box o' none t,n⟩->(Op.equal T (.pointer (some ⟨b,off,none⟩)) (.pointer none)).run E.P w=.ok false w:=by
  intro o' t n hl;obtain ⟨e',k',h1,-⟩:=a8v (q9 (B:=B) hE hl);have key:∀ d,(Op.equalIn (d+1) T (.pointer (some ⟨b,off,none⟩)) (.pointer none)).run E.P w=.ok false w:=λ d=>by simp [Op.equalIn,o6 h1]
  exact key 9999
 unfold b36
 split
 ·rename_i hl
  exact w4.value (by rw [R7 ho hg (r:=.ok (.bool false) w)]; rfl; rw [hx,hy]; simp [binOp,run hl]) h VX.bool
 ·rename_i hl
  exact w4.value (by rw [R7 ho hg (r:=.ok (.bool true) w)]; rfl; rw [hx,hy]; simp [binOp,run hl]) h VX.bool
 ·trivial
theorem c0a (hE:C2 E B) (h:RS B S ι s a w) {o:Oper} {op:BinOp} {T T':TypeId} {x y:Operand} (ho:o.op=.binOp op T x y T'):D3 E.P B o a w (a5O E T op (s.ev x) (s.ev y) s):=by
 unfold a5O
 split
 ·rename_i e1 e2; exact b8T hE h ho e1 e2
 ·rename_i e1 e2; exact b1Y hE h ho e1 e2
 ·rename_i e1 e2; exact b1Y hE h ho e1 e2
 ·exact c0b hE h ho
end
end Go.Ex
namespace Go.Ex
section
variable {E:Env} {B:D4} {S S':Nat->Prop} {ι:Ix} {s:St} {a:Act} {w:World} {hp:List (Nat×g8)} {H H':Array Go.Obj}
theorem b1N {t:Ty} (hk:t.key=true) {cs cs':List Value} {x y:t.den} (h1:f8 H S t [] cs x) (h2:f8 H' S' t [] cs' y) (he:H3 t x y=true):cs=cs':=by
 unfold Ty.key at hk;split at hk
 ·obtain ⟨_,rfl,_⟩:=h1
  obtain ⟨_,rfl,_⟩:=h2;rw [show x=y from of_decide_eq_true he]
 ·obtain ⟨_,rfl⟩:=h1
  obtain ⟨_,rfl⟩:=h2;rw [show x=y from eq_of_beq he]
 ·obtain ⟨_,rfl,_⟩:=h1
  obtain ⟨_,rfl,_⟩:=h2;rw [show x=y from of_decide_eq_true he]
 ·rename_i n k
  obtain ⟨_,h1⟩:=h1;obtain ⟨_,h2⟩:=h2;rw [a0U h1,a0U h2];have:∀ l m:List Int,H3.a8R (H3 (.int k)) l m=true->l=m:=by
   intro l
   induction l with
   | nil=>intro m h; cases m<;>first|rfl|cases h
   | cons a l ih =>
    intro m h;cases m with
    | nil=>cases h
    | cons b m =>
     simp only [H3.a8R,Bool.and_eq_true] at h;rw [show a=b from of_decide_eq_true h.1,ih m h.2]
  rw [this x y he]
 ·cases hk
theorem c3A {t:Ty} (hk:t.key=true) {cs:List Value} {x:t.den} (h1:f8 H S t [] cs x) {P:Program}:(Instr.keyThatStays (j9 t cs) (j9 t cs)).run P w=.ok (j9 t cs) w:=by
 have:Instr.sameBits 10000 (j9 t cs) (j9 t cs)=true:=by
  unfold Ty.key at hk;split at hk
  ·obtain ⟨_,rfl,_⟩:=h1; simp [j9,Ty.agg,Instr.sameBits]
  ·obtain ⟨_,rfl⟩:=h1; simp [j9,Ty.agg,Instr.sameBits]
  ·obtain ⟨_,rfl,_⟩:=h1; exact MapKept.sameBits_self (d:=.string) (k:=.string ⟨(show List UInt8 from x).toArray⟩) trivial _
  ·rename_i n k
   obtain ⟨_,h1⟩:=h1;rw [a0U h1];show Instr.sameBits (9999+1) (.agg _) (.agg _)=true;simp only [Instr.sameBits,beq_self_eq_true,Bool.true_and,List.all_eq_true];rintro ⟨p,q⟩ kF;have hz:∀ l:List Int,(p,q)∈(l.map (Value.int k)).zip (l.map (Value.int k))->∃ n,p=.int k n/\q=.int k n:=by
    intro l
    induction l with
    | nil=>intro h; cases h
    | cons n l ih =>
     intro h;simp only [List.map_cons,List.zip_cons_cons,List.mem_cons,Prod.mk.injEq] at h;exact h.elim (λ h=>⟨n,h.1,h.2⟩) ih
   obtain ⟨n,rfl,rfl⟩:=hz _ (by simpa using kF);simp [Instr.sameBits]
  ·cases hk
 simp [Instr.keyThatStays,this]
theorem a33 {t:Ty} {n:Nat} {K:TypeId} (hk:t.key=true) (hT:n8 E.P n K t=true) {cs:List Value} {x:t.den} (h1:f8 H S t [] cs x) (em:Bool):(Instr.checkKey em 10000 K (j9 t cs)).run E.P w=.ok () w:=by
 have simple:∀ {t:Ty} {n:Nat} {K:TypeId} (m:Nat),(t=.bool\/t=.str\/∃ k,t=.int k)->n8 E.P n K t=true->∀ {v:Value},(Instr.checkKey em (m+1) K v).run E.P w=.ok () w:=by
  intro t n K m ht hT v;rcases ht with rfl|rfl|⟨k,rfl⟩
  ·simp [Instr.checkKey,o6 (a1l hT)]
  ·simp [Instr.checkKey,o6 (S9 hT)]
  ·simp [Instr.checkKey,o6 (X7 hT)]
 unfold Ty.key at hk;split at hk
 ·exact simple 9999 (.inr (.inr ⟨_,rfl⟩)) hT
 ·exact simple 9999 (.inl rfl) hT
 ·exact simple 9999 (.inr (.inl rfl)) hT
 ·rename_i m k
  obtain ⟨e,k',g1,_,g3⟩:=U9 hT;obtain ⟨hl,hr⟩:=h1;have hcs:=a0U hr;show (Instr.checkKey em (9998+1+1) K (.agg cs.toArray)).run E.P w=.ok () w;rw [Instr.checkKey];simp only [Sem.run_bind,o6 g1,Result.andThen_ok];simp only [Std.Legacy.Range.forIn_eq_forIn_range',Std.Legacy.Range.size,Nat.sub_zero,Nat.add_one_sub_one,Nat.div_one];have each:∀ j∈List.range' 0 m,(part e cs.toArray (j*1)).run E.P w=.ok (j9 (.int k) ((cs.drop (j*1)).take 1)) w:=by
   intro j hj;simp only [List.mem_range'_1,Nat.zero_add] at hj;have hlen:List.length x=m:=hl;refine a0c (H:=H) (u:=.int k) (z:=List.getD x j 0) (O:=[]) (S:=S) g3 ?_;have og:j<List.length x:=by omega
   have:(cs.drop (j*1)).take 1=[.int k (List.getD x j 0)]:=by
    rw [hcs,Nat.mul_one,<- List.map_drop,<- List.map_take,List.drop_eq_getElem_cons og,List.take_succ_cons,List.take_zero];simp [List.getD_eq_getElem?_getD,List.getElem?_eq_getElem og]
   rw [show (Ty.int k).size=1 from rfl,this];refine ⟨rfl,rfl,?_⟩;have dQ:=i7.split (d:=(0:Int)) (i:=j) og hr;obtain ⟨_,_,_,_,_,h9,_⟩:=dQ;exact h9.2.2
  generalize List.range' 0 m=is at each
  induction is with
  | nil=>simp
  | cons j is ih =>
   have hs:(sizeOf e).run E.P w=.ok 1 w:=run_sizeOf g3;have hp:=each j (by simp);have hc:=simple 9998 (.inr (.inr ⟨k,rfl⟩)) g3 (v:=j9 (.int k) ((cs.drop (j*1)).take 1));simp only [List.forIn_cons,Sem.run_bind,hs,Result.andThen_ok,hp,hc,Sem.run_pure];exact ih (λ i hi=>each i (by simp [hi]))
 ·cases hk
theorem a5v {t u:Ty} {n:Nat} {K:TypeId} (hk:t.key=true) (hT:n8 E.P n K t=true) (hq:R8 E.P 100 K t=true) {cs:List Value} {x:t.den} (h1:f8 H S t [] cs x) :
  ∀ {es:List MapEntry} {l:List (t.den×u.den)} (i:Nat),N2 (f8 H' S' t []) (f8 H' S' u []) t u es l ->
   ∃ r,(Instr.findAsking K (j9 t cs) es i).run E.P w=.ok r w/\(i=0->(Instr.findKey K (j9 t cs) es).run E.P w=.ok r w) /\
    ((posOf (H3 t) x l i=none/\r=none)\/∃ j y e ds,posOf (H3 t) x l i=some (i+j,y)/\r=some (i+j,e.val)/\es[j]?=some e/\e.key=j9 t cs/\e.val=j9 u ds/\f8 H' S' u [] ds y):=by
 have mH:t.ht<10000:=by
  unfold Ty.key at hk; split at hk<;>first|(cases hk; done)|simp [Ty.ht]
 have oR:∀ {es:List MapEntry} {l:List (t.den×u.den)} (i:Nat),N2 (f8 H' S' t []) (f8 H' S' u []) t u es l ->
   ∃ r,(Instr.findAsking K (j9 t cs) es i).run E.P w=.ok r w /\
    ((posOf (H3 t) x l i=none/\r=none)\/∃ j y e ds,posOf (H3 t) x l i=some (i+j,y)/\r=some (i+j,e.val)/\es[j]?=some e/\e.key=j9 t cs/\e.val=j9 u ds/\f8 H' S' u [] ds y):=by
  intro es
  induction es with
  | nil =>
   intro l i h;rw [show l=[] from h];exact ⟨none,rfl,.inl ⟨rfl,rfl⟩⟩
  | cons e es ih =>
   rintro l i ⟨x',y',l',c1,d1,rfl,e1,e2,e3,e4,e5⟩;have hr:(Op.equal K (j9 t cs) e.key).run E.P w=.ok (H3 t x x') w:=by
    rw [e1]; exact (run_eq (w:=w) t).1 hT hq mH h1 e2
   cases hb:H3 t x x' with
   | true =>
    have:j9 t cs=j9 t c1:=by rw [b1N hk h1 e2 hb]
    refine ⟨some (i,e.val),?_,.inr ⟨0,y',e,d1,by simp [posOf,hb],rfl,rfl,by rw [e1,this],e3,e4⟩⟩;simp only [Instr.findAsking,Sem.run_bind,hr,hb,Result.andThen_ok,if_true,Sem.run_pure]
   | false =>
    obtain ⟨r,r1,r2⟩:=ih (i+1) e5;refine ⟨r,?_,?_⟩
    ·simp only [Instr.findAsking,Sem.run_bind,hr,hb,Result.andThen_ok,Bool.false_eq_true,if_false]; exact r1
    ·rcases r2 with ⟨r2,r3⟩|⟨j,y,e0,ds,r2,r3,r4,r5⟩
     ·exact .inl ⟨by simp only [posOf,hb]; exact r2,r3⟩
     ·exact .inr ⟨j+1,y,e0,ds,by simp only [posOf,hb]; rw [r2]; congr 2; omega,by rw [r3]; congr 2; omega,by simpa using r4,r5⟩
 have nM:∀ (d:TypeDesc),E.P.underlying K=some d->MapKept.IsKey d (j9 t cs)->(∀ {cs':List Value} {x':t.den},f8 H' S' t [] cs' x'->MapKept.IsKey d (j9 t cs')/\(j9 t cs'=j9 t cs->H3 t x x'=true))->∀ {es:List MapEntry} {l:List (t.den×u.den)} (i:Nat),N2 (f8 H' S' t []) (f8 H' S' u []) t u es l ->
   ∃ r,(Instr.findNow d (j9 t cs) es i)=some r/\(Instr.findAsking K (j9 t cs) es i).run E.P w=.ok r w:=by
  intro d hd jR bL es
  induction es with
  | nil=>intro l i h; exact ⟨none,rfl,rfl⟩
  | cons e es ih =>
   rintro l i ⟨x',y',l',c1,d1,rfl,e1,e2,e3,e4,e5⟩;have hr:(Op.equal K (j9 t cs) e.key).run E.P w=.ok (H3 t x x') w:=by
    rw [e1]; exact (run_eq (w:=w) t).1 hT hq mH h1 e2
   obtain ⟨a1,a2⟩:=bL e2;have pB:Instr.sameNow d (j9 t cs) e.key=some (H3 t x x'):=by
    rw [e1];rcases MapKept.findNow_spec jR [⟨j9 t c1,e.val,0⟩] 0 (by intro q hq; simp at hq; subst hq; exact a1) with ⟨b1,b2⟩|⟨j,e9,b1,b2,b3⟩
    ·have bK:=b2 _ (List.mem_singleton.2 rfl)
     have:Instr.sameNow d (j9 t cs) (j9 t c1)=some false:=by
      simp only [Instr.findNow] at b1;cases hs:Instr.sameNow d (j9 t cs) (j9 t c1) with
      | none=>rw [hs] at b1; cases b1
      | some b=>cases b with
       | true=>rw [hs] at b1; cases b1
       | false=>rfl
     rw [this];cases hb:H3 t x x' with
     | false=>rfl
     | true=>exact absurd (by rw [b1N hk h1 e2 hb]) bK
    ·have:j=0:=by
      cases j with
      | zero=>rfl
      | succ j=>simp at b2
     subst this;simp only [List.getElem?_cons_zero,Option.some.injEq] at b2;subst b2;have b3:j9 t c1=j9 t cs:=b3;rw [a2 b3];simp only [Instr.findNow] at b1;cases hs:Instr.sameNow d (j9 t cs) (j9 t c1) with
     | none=>rw [hs] at b1; cases b1
     | some b=>cases b with
      | true=>rfl
      | false=>rw [hs] at b1; cases b1
   cases hb:H3 t x x' with
   | true =>
    refine ⟨some (i,e.val),?_,?_⟩
    ·simp only [Instr.findNow,pB,hb]
    ·simp only [Instr.findAsking,Sem.run_bind,hr,hb,Result.andThen_ok,if_true,Sem.run_pure]
   | false =>
    obtain ⟨r,r1,r2⟩:=ih (i+1) e5;refine ⟨r,?_,?_⟩
    ·simp only [Instr.findNow,pB,hb]; exact r1
    ·simp only [Instr.findAsking,Sem.run_bind,hr,hb,Result.andThen_ok,Bool.false_eq_true,if_false]; exact r2
 have oe:∀ {es:List MapEntry} {l:List (t.den×u.den)},N2 (f8 H' S' t []) (f8 H' S' u []) t u es l->(Instr.findKey K (j9 t cs) es).run E.P w=(Instr.findAsking K (j9 t cs) es 0).run E.P w:=by
  intro es l hr;have simple:∀ d:TypeDesc,E.P.underlying K=some d->MapKept.IsKey d (j9 t cs)->(∀ {cs':List Value} {x':t.den},f8 H' S' t [] cs' x'->MapKept.IsKey d (j9 t cs')/\(j9 t cs'=j9 t cs->H3 t x x'=true))->(Instr.findKey K (j9 t cs) es).run E.P w=(Instr.findAsking K (j9 t cs) es 0).run E.P w:=by
   intro d hd h2 h3;obtain ⟨r,r1,r2⟩:=nM d hd h2 h3 0 hr;rw [r2];exact MapKept.run_findKey hd r1
  unfold Ty.key at hk;split at hk
  ·rename_i k
   obtain ⟨_,rfl,_⟩:=h1;refine simple _ (X7 hT) rfl (λ hx=>?_);obtain ⟨_,rfl,_⟩:=hx;refine ⟨rfl,λ h=>?_⟩;simp only [j9,Ty.agg,Bool.false_eq_true,if_false,List.headD_cons,Value.int.injEq,true_and] at h;exact decide_eq_true h.symm
  ·obtain ⟨_,rfl⟩:=h1
   refine simple _ (a1l hT) trivial (λ hx=>?_);obtain ⟨_,rfl⟩:=hx;refine ⟨trivial,λ h=>?_⟩;simp only [j9,Ty.agg,Bool.false_eq_true,if_false,List.headD_cons,Value.bool.injEq] at h;rw [h]; exact beq_self_eq_true _
  ·obtain ⟨_,rfl,_⟩:=h1
   refine simple _ (S9 hT) trivial (λ hx=>?_);obtain ⟨_,rfl,_⟩:=hx;refine ⟨trivial,λ h=>?_⟩;simp only [j9,Ty.agg,Bool.false_eq_true,if_false,List.headD_cons,Value.string.injEq,ByteArray.mk.injEq] at h;exact decide_eq_true (List.toArray_inj h).symm
  ·obtain ⟨e,k',g1,_,g3⟩:=U9 hT
   exact run_findKey_eq w (by simp [g1]) _ _
  ·cases hk
 intro es l i hr;obtain ⟨r,r1,r2⟩:=oR i hr;refine ⟨r,r1,λ hi=>?_,r2⟩;subst hi;rw [oe hr]; exact r1
theorem b1J (hE:C2 E B) {T:TypeId} {k v:Ty} (h:b3i E T k v=true):∃ K V n,E.P.underlying T=some (.map K V)/\k.key=true/\R8 E.P 100 K k=true/\n8 E.P n K k=true/\n8 E.P n V v=true/\v.shared=true:=by
 unfold b3i at h;split at h
 ·rename_i o k' v' bts K V hT hu
  simp only [Bool.and_eq_true] at h;obtain ⟨⟨⟨h1,h2⟩,h3⟩,h4⟩:=h;have h1:=of_decide_eq_true h1;have h2:=of_decide_eq_true h2;subst h1 h2;obtain ⟨K',V',n,g1,g2,g3,g4,g5⟩:=a47 (q9 hE hT);rw [hu] at g1;cases g1;exact ⟨K,V,n,hu,h3,h4,g4,g5,g3⟩
 ·cases h
theorem c1s (h:HS B S ι s.hp w) {v:AV} {val:Value} (hv:VX w.heap S ι s.hp v [val]) {k u:Ty} {m:Option (List (k.den×u.den))} (hm:v.mp s=some ⟨(k,u),m⟩) :
  (m=none/\val=.map none)\/∃ l b es ck,m=some l/\val=.map (some b)/\w.heap[b]?=some (.map es ck)/\N2 (f8 w.heap S k []) (f8 w.heap S u []) k u es.toList l:=by
 have key:∀ {o:Bool} {O:List Nat} {cs:List Value},f8 w.heap S (.map o k u) O cs m->val=j9 (.map o k u) cs->(m=none/\val=.map none)\/∃ l b es ck,m=some l/\val=.map (some b)/\w.heap[b]?=some (.map es ck)/\N2 (f8 w.heap S k []) (f8 w.heap S u []) k u es.toList l:=by
  rintro o O cs (⟨h1,_,rfl⟩|⟨l,b,es,ck,h1,rfl,h3,h4,_⟩) e
  ·exact .inl ⟨h1,by simpa [j9,Ty.agg] using e⟩
  ·exact .inr ⟨l,b,es,ck,h1,by simpa [j9,Ty.agg] using e,h3,h4⟩
 unfold AV.mp at hm;split at hm
 ·cases hm
  obtain ⟨cs,e,hR⟩:=hv;exact key hR (by simpa using e)
 ·rename_i i p
  split at hm
  ·rename_i o k' v' m' cM
   cases hm;obtain ⟨e,u',y,cs,k1,k2,k3,k4,k5⟩:=hv;have hg:=G6 k1 cM;rw [k3] at hg; cases hg;obtain ⟨O2,m1,m2,m3⟩:=F1 h k1 k2 k3 k4;exact key m3 (by simpa using k5)
  ·cases hm
 ·cases hm
theorem b2V (hE:C2 E B) (h:RS B S ι s a w) {o:Oper} {T:TypeId} {x y:Operand} {ok:Bool} (ho:o.op=.lookup T x y ok):D3 E.P B o a w (a16 E T (s.ev x) (s.ev y) ok s):=by
 have he:execOp a.eval o=(do pure (.value (<- Instr.lookup T (a.eval x) (a.eval y) ok))):=by simp [execOp,ho]
 unfold a16
 split
 ·rename_i k u m t z hm hy
  split
  ·rename_i ht
   subst ht;obtain ⟨cs,e,hR⟩:=x8 h hy;have e:a.eval y=j9 t cs:=by simpa using e
   split
   ·rename_i lD
    obtain ⟨K,V,n,g1,g2,g3,g4,g5,g6⟩:=b1J hE lD;have ir:(zeroValue V).run E.P w=.ok (j9 u (zc u)) w:=a1c g5;have core:∃ val,(Instr.lookup T (a.eval x) (a.eval y) true).run E.P w=.ok (.tuple #[val,.bool (a2P (H3 t) z (m.getD [])).isSome]) w/\(Instr.lookup T (a.eval x) (a.eval y) false).run E.P w=.ok val w /\
      VX w.heap S ι s.hp (.val u ((a2P (H3 t) z (m.getD [])).getD u.o8)) [val]:=by
     rcases c1s h.hs (h.ev x) hm with ⟨rfl,ex⟩|⟨l,b,es,ck,rfl,ex,h3,h4⟩
     ·refine ⟨j9 u (zc u),?_,?_,⟨zc u,rfl,f8.o8 u⟩⟩
      ·rw [ex,e]
       have hc:=a33 (w:=w) g2 g4 hR true;obtain ⟨r,_,r2,r3⟩:=a5v (w:=w) (u:=u) (es:=[]) (l:=[]) (H':=w.heap) (S':=S) g2 g4 g3 hR 0 rfl;have hr:r=none:=by rcases r3 with r3|⟨j,y,e0,ds,_,_,q,_⟩; exact r3.2; simp at q
       subst hr;simp [Instr.lookup,o6 g1,hc,r2 rfl,ir,Result.andThen,a2P,posOf]
      ·rw [ex,e]
       have hc:=a33 (w:=w) g2 g4 hR true;obtain ⟨r,_,r2,r3⟩:=a5v (w:=w) (u:=u) (es:=[]) (l:=[]) (H':=w.heap) (S':=S) g2 g4 g3 hR 0 rfl;have hr:r=none:=by rcases r3 with r3|⟨j,y,e0,ds,_,_,q,_⟩; exact r3.2; simp at q
       subst hr;simp [Instr.lookup,o6 g1,hc,r2 rfl,ir,Result.andThen]
     ·have hc:=λ em=>a33 (w:=w) g2 g4 hR em
      obtain ⟨r,_,r2,r3⟩:=a5v (w:=w) g2 g4 g3 hR 0 h4;have r2:=r2 rfl;have iN:=MapKept.run_getObj_map (P:=E.P) h3;rcases r3 with ⟨p1,rfl⟩|⟨j,y',e0,ds,p1,rfl,p3,p4,p5,p6⟩
      ·refine ⟨j9 u (zc u),?_,?_,⟨zc u,rfl,?_⟩⟩
       ·rw [ex,e]; simp [Instr.lookup,o6 g1,iN,hc,r2,ir,Result.andThen,a2P,p1]
       ·rw [ex,e]; simp [Instr.lookup,o6 g1,iN,hc,r2,ir,Result.andThen]
       ·simp only [a2P,Option.getD_some,p1,Option.map_none,Option.getD_none]; exact f8.o8 u
      ·refine ⟨e0.val,?_,?_,⟨ds,by rw [p5],?_⟩⟩
       ·rw [ex,e]; simp [Instr.lookup,o6 g1,iN,hc,r2,Result.andThen,a2P,p1]
       ·rw [ex,e]; simp [Instr.lookup,o6 g1,iN,hc,r2,Result.andThen]
       ·simp only [a2P,Option.getD_some,p1,Option.map_some]; exact p6
    obtain ⟨val,c1,c2,c3⟩:=core
    split
    ·refine w4.value (val:=.tuple #[val,.bool (a2P (H3 t) z (m.getD [])).isSome]) ?_ h ⟨[val,.bool (a2P (H3 t) z (m.getD [])).isSome],rfl,⟨_,_,rfl,c3,_,_,rfl,⟨[_],rfl,rfl,rfl⟩,rfl⟩⟩
     rw [he];simp only [Sem.run_bind,Sem.run_pure];rw [c1]; rfl
    ·refine w4.value (val:=val) ?_ h c3
     rw [he];simp only [Sem.run_bind,Sem.run_pure];rw [c2]; rfl
   ·trivial
  ·trivial
 ·trivial
theorem b2U (_hE:C2 E B) (h:RS B S ι s a w) {o:Oper} {T:TypeId} {r:Option Operand} (ho:o.op=.makeMap T r):D3 E.P B o a w (n7 E o s):=by
 unfold n7;rw [ho];simp only
 split
 ·rename_i k v bts d hT hd
  refine D3.lay (λ v' s' hl=>?_);have aW:(execOp a.eval o).run E.P w=.ok (.value (.map (some w.heap.size))) (C6 w (.map #[] 0)):=by
   simp [execOp,ho,Instr.makeMap,newObj,Sem.run,C6]
  have dz:=h.u4 (g:=[]) rfl;have hp:y9 [] w (C6 w (.map #[] 0)):=y9.push _;refine w4.lay hl aW (O:=[w.heap.size]) (cs:=[.map (some w.heap.size)]) (by simp [j9,Ty.agg]) (.inr ⟨[],w.heap.size,#[],0,rfl,rfl,a3x,rfl,rfl⟩) (dz.W5 C9.nil hp) (C9.new dz C9.nil hp (by simp [C6]) (by simp) (by simp))
 ·trivial
theorem b3c (hE:C2 E B) (h:RS B S ι s a w) {o:Oper} {c:Call} (ho:o.op=.call c) (hc:c.callee=.builtin .append) {x y:Operand} {T U:TypeId} (ha:c.args.toList=[x,y]) (eu:c.argTypes.toList=[T,U])
  {kd:IntKind} (hU:E.P.underlying U=some (.int kd)):D3 E.P B o a w (a3o E T (s.ev x) (s.ev y) o.dst s):=by
 unfold a3o
 split
 ·rename_i t0 bts d k n hT hd hx hy
  refine D3.a4I (λ v s' hl hp=>?_);have cG:@LE.le Int Int.instLEInt 0 n:=hp.1;obtain ⟨N,rfl⟩:∃ N:Nat,n=((N:Nat):Int):=⟨Int.toNat n,(Int.toNat_of_nonneg cG).symm⟩;have cE:N<=140737488355328:=by have:@LE.le Int Int.instLEInt (N:Int) 140737488355328:=hp.2.1; omega
  have gz:N*t0.wb<=140737488355328:=by
   have:@LE.le Int Int.instLEInt ((N:Int)*(t0.wb:Nat)) 140737488355328:=hp.2.2;rw [<- Int.natCast_mul] at this;omega
  obtain ⟨et,k2,h1,h2,h3⟩:=E6 (q9 hE hT);obtain ⟨i,hi,dB,jj⟩:=R4 h3;have jk:=a2Z h3 hi;have dP:a.eval x=.slice none 0 0:=by simpa using (show [a.eval x]=[Value.slice none 0 0] from x8 h hx)
  obtain ⟨de,_⟩:=VX.G0 (x8 h hy);have aF:c.args=#[x,y]:=by rw [<- ha]
  have dI:c.argTypes=#[T,U]:=by rw [<- eu]
  have dz:=h.u4 (g:=[]) rfl;have e0:List.replicate (Int.toNat (N:Int)) t0.o8=List.replicate N t0.o8:=rfl;by_cases h0:N=0
  ·subst h0
   have aW:(execOp a.eval o).run E.P w=.ok (.value (.slice none 0 0)) w:=by
    have:IntKind.i64.wrap 0=0:=rfl;simp [execOp,ho,resolve,hc,invoke,builtin,aF,dI,Builtin.append_,o6 h1,o6 hU,dP,de,run_sizeOf h3,asInt,asIntOf,this,typeInfo,hi,Result.andThen]
   exact w4.lay hl aW (O:=[]) (cs:=[.slice none 0 0]) (by simp [j9,Ty.agg]) (.inl ⟨rfl,⟨none,0,rfl,λ _=>rfl⟩,rfl⟩) dz C9.nil
  ·have hr:=Lib.run_append_grow_zeros (P:=E.P) w T U o.type et i (j9 t0 (zc t0)) k kd h1 hU hi jj none 0 0 [] (run_firstCells_none w.drew _ 0 0 0) N (by omega) (by rw [dB]; exact h2) (by omega) (by omega) (by rw [jk]; omega) (by rw [jk]; exact growslice_fits (by omega) (by simpa using gz))
   simp only [Nat.zero_add] at hr;have jl:=grownCap_ge w N 0 et;have fi:=grownCap_le_maxLen w N 0 et (by unfold maxLen; omega);generalize jU:grownCap w N 0 et=gc at hr jl fi;have gB:(j9 t0 (zc t0)).cells=(zc t0).toArray:=(f8.o8 (H:=w.heap) (S:=S) t0).cells;have cv:(([]:List Value).toArray++Builtin.zeroCells (j9 t0 (zc t0)).cells N++Builtin.zeroCells (j9 t0 (zc t0)).cells (gc - N))=((List.replicate N (zc t0)).flatten++(List.replicate (gc - N) (zc t0)).flatten).toArray:=by
    rw [gB,a1w,a1w]; simp
   rw [cv] at hr;have iJ:((List.replicate N (zc t0)).flatten).length=N*t0.size:=by simp [I6]
   have bj:y9 [] w (w.drew.alloc (.cells ((List.replicate N (zc t0)).flatten++(List.replicate (gc - N) (zc t0)).flatten).toArray et)):=y9.trans y9.drew (y9.push _) (by simp);obtain ⟨O',q1,q2,q3⟩:=a5h (w:=w) (t:=t0) (l:=List.replicate N t0.o8) (cap:=gc) h.hs.slt (O:=[]) (cells:=(List.replicate N (zc t0)).flatten++(List.replicate (gc - N) (zc t0)).flatten) (by
    rw [List.length_replicate,List.take_left' iJ]; exact i7.b3e N) (by rw [List.length_replicate]; exact jl) fi (by
    simp only [List.length_append,iJ,List.length_flatten,List.map_replicate,List.sum_replicate_nat,I6];rw [<- Nat.add_mul]; exact Nat.mul_le_mul_right _ (by omega)) et (by simp) (w':=w.drew.alloc (.cells ((List.replicate N (zc t0)).flatten++(List.replicate (gc - N) (zc t0)).flatten).toArray et)) rfl (.inl rfl)
   rw [List.length_replicate] at q1;have aW:(execOp a.eval o).run E.P w=.ok (.value (.slice (some ⟨w.heap.size,0,none⟩) N gc)) (w.drew.alloc (.cells ((List.replicate N (zc t0)).flatten++(List.replicate (gc - N) (zc t0)).flatten).toArray et)):=by
    simp [execOp,ho,resolve,hc,invoke,builtin,aF,dI,dP,de,hr]
   have bn:w.heap.size<(w.drew.alloc (.cells ((List.replicate N (zc t0)).flatten++(List.replicate (gc - N) (zc t0)).flatten).toArray et)).heap.size:=by
    show w.heap.size<(w.heap.push _).size;simp
   exact w4.lay hl aW (cs:=[.slice (some ⟨w.heap.size,0,none⟩) N gc]) (by simp [j9,Ty.agg]) q1 (dz.W5 C9.nil bj) (C9.new dz C9.nil bj bn q2 (q3 List.nodup_nil))
 ·trivial
theorem N2.length {α β:Type} {R:List Value->α->Prop} {R':List Value->β->Prop} {t u:Ty}:∀ {es:List MapEntry} {l:List (α×β)},N2 R R' t u es l->es.length=l.length
 | [],l,h=>by rw [show l=[] from h]; rfl
 | _::es,_,⟨x,y,l',cs,ds,rfl,_,_,_,_,h⟩=>by simp [N2.length h]
theorem N2.snoc {α β:Type} {R:List Value->α->Prop} {R':List Value->β->Prop} {t u:Ty} {e:MapEntry} {x:α} {y:β} {cs ds:List Value} (h1:e.key=j9 t cs) (h2:R cs x) (h3:e.val=j9 u ds) (h4:R' ds y) :
  ∀ {es:List MapEntry} {l:List (α×β)},N2 R R' t u es l->N2 R R' t u (es++[e]) (l++[(x,y)])
 | [],l,h=>by rw [show l=[] from h]; exact ⟨x,y,[],cs,ds,rfl,h1,h2,h3,h4,rfl⟩
 | _::es,_,⟨x',y',l',c,d,rfl,g1,g2,g3,g4,h⟩=>⟨x',y',l'++[(x,y)],c,d,rfl,g1,g2,g3,g4,N2.snoc h1 h2 h3 h4 h⟩
theorem N2.set {α β:Type} {R:List Value->α->Prop} {R':List Value->β->Prop} {t u:Ty} {e:MapEntry} {x:α} {y:β} {cs ds:List Value} (h1:e.key=j9 t cs) (h2:R cs x) (h3:e.val=j9 u ds) (h4:R' ds y) :
  ∀ {es:List MapEntry} {l:List (α×β)} {i:Nat},i<es.length->N2 R R' t u es l->N2 R R' t u (es.set i e) (l.set i (x,y))
 | [],_,_,hi,_=>by simp at hi
 | _::es,_,0,_,⟨x',y',l',c,d,rfl,g1,g2,g3,g4,h⟩=>⟨x,y,l',cs,ds,rfl,h1,h2,h3,h4,h⟩
 | _::es,_,i+1,hi,⟨x',y',l',c,d,rfl,g1,g2,g3,g4,h⟩=>⟨x',y',l'.set i (x,y),c,d,rfl,g1,g2,g3,g4,N2.set h1 h2 h3 h4 (by simpa using hi) h⟩
theorem b8m (hE:C2 E B) (h:RS B S ι s a w) {o:Oper} {T:TypeId} {m x y:Operand} (ho:o.op=.mapUpdate T m x y):D3 E.P B o a w (a6i E T (s.ev m) (s.ev x) (s.ev y) s):=by
 have he:execOp a.eval o=(do (Instr.mapUpdate T (a.eval m) (a.eval x) (a.eval y)); pure .skip):=by simp [execOp,ho]
 unfold a6i
 split
 ·rename_i j t z t' q hm hx hy
  split
  ·rename_i k u l aX
   split
   ·rename_i hu
    subst hu
    split
    ·rename_i mB
     subst mB
     split
     ·rename_i lD
      obtain ⟨K,V,n,g1,g2,g3,g4,g5,g6⟩:=b1J hE lD;obtain ⟨cs,ex,hR⟩:=x8 h hx;have ex:a.eval x=j9 t cs:=by simpa using ex
      obtain ⟨ds,ey,hQ⟩:=x8 h hy;have ey:a.eval y=j9 t' ds:=by simpa using ey
      obtain ⟨e,u0,y0,cs0,k1,k2,k3,k4,k5⟩:=x8 h hm;obtain rfl:=a0o k1 aX;rw [x7] at k3; cases k3;obtain ⟨⟨O0,p0,hO⟩,aI⟩:=h.hs.ob j _ k1;have hcs:=P9 k4 hO.length;rcases hO with ⟨h0,_⟩|⟨l0,b,es,ck,h0,dO,h3,h4,rfl⟩
      ·cases h0
      cases h0;have k5:a.eval m=.map (some b):=by
       have:a.eval m=j9 (g8.own (Ty.map true t t') (some l)).ty cs0:=by simpa using k5
       rw [this,hcs,dO]; rfl
      have hb:b∈ι.own j:=p0.mem_iff.1 (by simp);have bI:b<w.heap.size:=(Array.getElem?_eq_some_iff.1 h3).1;have hc:=a33 (w:=w) g2 g4 hR false;obtain ⟨r,_,r2,r3⟩:=a5v (w:=w) g2 g4 g3 hR 0 h4;have r2:=r2 rfl;have iN:=MapKept.run_getObj_map (P:=E.P) h3;have core:∃ es' ck',(execOp a.eval o).run E.P w=.ok .skip { w with heap:=w.heap.setIfInBounds b (.map es' ck') }/\N2 (f8 w.heap S t []) (f8 w.heap S t' []) t t' es'.toList (a6z (H3 t) (G4 rfl z) (G4 rfl q) l):=by
       have pA:=λ o=>MapKept.run_setObj_map (P:=E.P) o h3;rcases r3 with ⟨p1,rfl⟩|⟨i,y',e0,ds0,p1,rfl,p3,p4,p5,p6⟩
       ·refine ⟨es.push { key:=j9 t cs,val:=j9 t' ds,born:=ck },ck+1,?_,?_⟩
        ·rw [he,k5,ex,ey]
         simp [Instr.mapUpdate,o6 g1,iN,hc,r2,pA,Result.andThen]
        ·have:a6z (H3 t) (G4 rfl z) (G4 rfl q) l=l++[(z,q)]:=by simp only [a6z,G4]; rw [p1]
         rw [this,Array.toList_push];exact N2.snoc rfl hR rfl hQ h4
       ·have hi:i<es.toList.length:=(List.getElem?_eq_some_iff.1 p3).1
        have nD:es[i]?=some e0:=by simpa using p3
        refine ⟨es.modify i λ e=>{ e with key:=j9 t cs,val:=j9 t' ds },ck,?_,?_⟩
        ·rw [he,k5,ex,ey]
         have kN:=c3A (w:=w) (P:=E.P) g2 hR;simp [Instr.mapUpdate,o6 g1,iN,hc,r2,pA,nD,p4,kN,Result.andThen]
        ·have:a6z (H3 t) (G4 rfl z) (G4 rfl q) l=l.set i (z,q):=by simp only [a6z,G4]; rw [p1]; simp
         rw [this];have fW:(es.modify i λ e=>{ e with key:=j9 t cs,val:=j9 t' ds }).toList=es.toList.set i { e0 with key:=j9 t cs,val:=j9 t' ds }:=by
          apply List.ext_getElem?;intro n;simp only [Array.getElem?_toList,Array.getElem?_modify,List.getElem?_set];by_cases hn:i=n
          ·subst hn
           have cB:i<es.size:=by simpa using hi
           have rz:es[i]=e0:=by rw [Array.getElem?_eq_getElem cB] at nD; exact Option.some.inj nD
           simp [cB,rz]
          ·simp [hn]
         rw [fW];exact N2.set rfl hR rfl hQ hi h4
      obtain ⟨es',ck',c1,c2⟩:=core;have bj:y9 [b] w { w with heap:=w.heap.setIfInBounds b (.map es' ck') }:=by
       refine ⟨rfl,.of rfl rfl,rfl,by simp,λ c hc hn=>?_⟩;simp only [List.mem_cons,List.not_mem_nil,or_false] at hn;show (w.heap.setIfInBounds b _)[c]?=_;rw [Array.getElem?_setIfInBounds_ne (Ne.symm hn)]
      have gA:¬ S b:=(h.hs.bl j _ k1 b (F6 hb)).1;have iV:∀ c,c∈([]:List Nat)\/S c->(w.heap.setIfInBounds b (.map es' ck'))[c]?=w.heap[c]?:=by
       intro c hc;rcases hc with hc|hc
       ·cases hc
       ·rw [Array.getElem?_setIfInBounds_ne (by rintro rfl; exact gA hc)]
      have nz:=h.renew k1 (.inr (.inr ⟨true,t,t',some l,some (a6z (H3 t) (G4 rfl z) (G4 rfl q) l),rfl,rfl⟩)) C9.nil (L:=[b]) bj (λ c hc=>.inl (by simp only [List.mem_cons,List.not_mem_nil,or_false] at hc; subst hc; exact F6 hb)) (λ _ h=>h) (λ _ h=>.inl h) (O':=[b])
       ⟨⟨[b],by simp [Ix.y8],by
        refine .inr ⟨_,b,es',ck',rfl,by simpa [Ix.y8] using dO,?_,c2.mono (λ _ _ h=>h.r8 iV (λ _ h=>h)) (λ _ _ h=>h.r8 iV (λ _ h=>h)),rfl⟩;show (w.heap.setIfInBounds b _)[b]?=_;rw [Array.getElem?_setIfInBounds_self_of_lt bI]⟩,by simp [Ix.y8]⟩
       (λ c hc=>by
        have:c=b:=by simpa [l6,Ix.y8] using hc
        subst this;exact ⟨gA,.inr (by simp),by simpa using bI⟩)
      intro next Q hn
      unfold Oper.wp;rw [c1];exact hn S _ _ undef nz rfl
     ·trivial
    ·trivial
   ·trivial
  ·trivial
 ·trivial
end
end Go.Ex
namespace Go.Ex
section
variable {E:Env} {B:D4} {S S':Nat->Prop} {ι:Ix} {s:St} {a:Act} {w:World} {hp:List (Nat×g8)} {H H':Array Go.Obj}
theorem b7s:∀ {n:Nat} {l v:AV} {us:List Value},n7.nth n l=some v->VX H S ι hp l us->∃ u,us[n]?=some u/\VX H S ι hp v [u]
 | 0,l,v,us,h,hl=>by
  cases l<;>simp only [n7.nth] at h<;>first|cases h|skip
  obtain ⟨u,us',rfl,ha,hb⟩:=hl;exact ⟨u,rfl,ha⟩
 | n+1,l,v,us,h,hl=>by
  cases l<;>simp only [n7.nth] at h<;>first|cases h|skip
  obtain ⟨u,us',rfl,ha,hb⟩:=hl;obtain ⟨u2,e,h2⟩:=b7s h hb;exact ⟨u2,by simpa using e,h2⟩
theorem a6A (h:RS B S ι s a w) {o:Oper} {c:Call} (ho:o.op=.call c) {P:Program} {x:Operand} {l:List Operand} (ha:c.args.toList=x::l) {k:IntKind} {m:Int} (hx:s.ev x=.val (.int k) m) :
  (c.callee=.builtin .max->D3 P B o a w (foldI s k (λ a b=>if a<b then b else a) m l))/\(c.callee=.builtin .min->D3 P B o a w (foldI s k (λ a b=>if b<a then b else a) m l)):=by
 obtain ⟨eN,bx⟩:=VX.G0 (x8 h hx);have aF:c.args.map a.eval=(a.eval x::l.map a.eval).toArray:=by
  apply Array.ext';simp [ha]
 constructor
 ·intro hc
  cases hl:foldI s k (λ a b=>if a<b then b else a) m l with
  | fail y=>trivial
  | E5 p v s'=>exact absurd hl a6I
  | ok v s' =>
   obtain ⟨n,rfl,rfl,hn,aW⟩:=a5A (P:=P) (w:=w) h (m2:=Builtin.max2) (by intro x y hx hy; split<;>assumption) (by intro x y; simp [Builtin.max2]) bx hl;refine w4.value (val:=.int k n) ?_ h (VX.int hn);simp [execOp,ho,resolve,hc,invoke,builtin,aF,eN,Builtin.max_,aW]
 ·intro hc
  cases hl:foldI s k (λ a b=>if b<a then b else a) m l with
  | fail y=>trivial
  | E5 p v s'=>exact absurd hl a6I
  | ok v s' =>
   obtain ⟨n,rfl,rfl,hn,aW⟩:=a5A (P:=P) (w:=w) h (m2:=Builtin.min2) (by intro x y hx hy; split<;>assumption) (by intro x y; simp [Builtin.min2]) bx hl;refine w4.value (val:=.int k n) ?_ h (VX.int hn);simp [execOp,ho,resolve,hc,invoke,builtin,aF,eN,Builtin.min_,aW]
theorem b4m {i:Nat} {p:List Step} {lo:Nat} {t:Ty} {m:List t.den} {s':St} (hf:a0C s i p lo t m=some s'):t.shared=true:=by
 unfold a0C at hf;split at hf
 ·split at hf
  ·split at hf
   ·split at hf
    ·split at hf
     ·rename_i hc
      simp only [Bool.and_eq_true] at hc;exact hc.1
     ·cases hf
    ·cases hf
   ·cases hf
  ·cases hf
 ·cases hf
theorem a8p {T:TypeId} {x y:AV} {p:Prop} {v:AV} {s':St} (hI:Z3 E T x y s=.E5 p v s'):∃ i lo hi q t0 bts t m l,x=.sub i [] lo hi/\look T E.tt=some ⟨.d0 q t0,bts⟩/\y.a1j s t0=some (⟨t,m⟩,[])/\s.obj i=some (.own (.d0 true t) l) /\
  a0C s i [] hi.toNat t m=some s'/\I2 E T (.d0 true t)=true/\p=(hi+(List.length m:Int)<=(List.length l:Int))/\v=.sub i [] lo (hi+(List.length m:Int)):=by
 unfold Z3 at hI;split at hI
 ·rename_i i lo hi q t0 bts hT
  split at hI
  ·rename_i t m u l cg aX
   split at hI
   ·rename_i s1 hf bE hd
    cases hI;obtain rfl:=of_decide_eq_true hd;exact ⟨i,lo,hi,q,t0,bts,t,m,l,rfl,hT,cg,aX,hf,bE,rfl,rfl⟩
   ·cases hI
  ·cases hI
 ·cases hI
theorem b6W {T:TypeId} {x y:AV} {r:Prop×AV×St} (hI:(Z3 E T x y s).get=some r):Z3 E T x y s=.E5 r.1 r.2.1 r.2.2:=by
 unfold Z3 at hI ⊢
 repeat' split at hI
 all_goals first|(cases hI; done)|(cases hI; rfl)
theorem c1K {i:Nat} {lo:Nat} {t:Ty} {m l:List t.den} {s':St} (aX:s.obj i=some (.own (.d0 true t) l)) (hf:a0C s i [] lo t m=some s'):s'=(s.U1 i true).u5 i (.own (.d0 true t) (List.take lo l++m++List.drop (lo+m.length) l)):=by
 unfold a0C at hf;rw [aX] at hf;simp only [g8.ty,g8.x,x7] at hf;rw [dif_pos trivial] at hf;simp only [s6,if_true] at hf;split at hf
 ·cases hf; rfl
 ·cases hf
theorem b3d (hE:C2 E B) (h:RS B S ι s a w) {o:Oper} {c:Call} (ho:o.op=.call c) (hc:c.callee=.builtin .append) {x y:Operand} {T U:TypeId} (ha:c.args.toList=[x,y]) (eu:c.argTypes.toList=[T,U])
  (hk:(∃ e',E.P.underlying U=some (.slice e'))\/E.P.underlying U=some .string):D3 E.P B o a w (Z3 E T (s.ev x) (s.ev y) s):=by
 cases hI:Z3 E T (s.ev x) (s.ev y) s with
 | fail why=>trivial
 | ok v s' =>
  exfalso;unfold Z3 at hI
  repeat' split at hI
  all_goals cases hI
 | E5 p v s' =>
  intro hp;obtain ⟨i,lo,hi,q,t0,bts,t,m,l,hx,hT,cg,aX,hf,bE,rfl,rfl⟩:=a8p hI;obtain ⟨Og,news,dX,hN,_,kR⟩:=a5R (P:=E.P) h hk cg (h.ev y);have bT:=b4m hf;have pd:Og=[]:=i7.J7 (λ _ _ _ hr=>f8.J7 bT hr) hN;subst pd;have iE:look i s.hp=some (.own (.d0 true t) l):=aX;obtain ⟨e,v',h1,h2,h3,h4,h5,h6⟩:=x8 h hx;rw [iE] at h1; cases h1;have fa:a.eval x=v':=by simpa using h3
  rcases h6 with ⟨t1,l1,a0,cap,k1,k2,k3,c0,A,k4,kA,k5,k6⟩|⟨n,t1,l1,b,off,k1,_,k3,_⟩
  rotate_left
  ·exfalso
   simp only [Loc,Place,x6,VR] at k3;simp at k3
  have k1':j8 (.d0 true t) l []=some ⟨.d0 true t1,l1⟩:=k1;rw [x7] at k1'; cases k1';have cD:l.length<=cap:=by
   obtain ⟨O2,_,_,m3⟩:=F1 h.hs iE h2 k1 k3;rcases m3 with ⟨_,_,hl⟩|⟨b2,o2,cap2,O',c1,c2,_⟩
   ·rw [hl]; exact Nat.zero_le _
   ·simp only [List.cons.injEq,Value.slice.injEq,and_true] at c1
    rw [c1.2.2]; exact c2
  have hp:hi+(m.length:Int)<=(l.length:Int):=hp;have dA:VX w.heap S ι s.hp (.sub i [] hi (hi+(m.length:Int))) [.slice (a0.map (·.add (hi.toNat*t.size))) m.length (cap - hi.toNat)] :=
   ⟨_,_,iE,h2,rfl,by omega,by omega,.inl ⟨t,l,a0,cap,k1,hp,k3,cap - hi.toNat,_,by rw [show (hi+(m.length:Int) - hi).toNat=m.length by omega],λ _=>rfl,by omega,by omega⟩⟩
  have dz:(AV.sub i [] hi (hi+(m.length:Int))).a2S s=some (i,[],hi,hi+(m.length:Int)):=by
   simp only [AV.a2S,St.part,aX,g8.ty,g8.x,x7]
  obtain ⟨w',ι',A',c',e1,cR,bN⟩:=a4o (P:=E.P) h dA dz (by omega) hN hf;simp only [Value.slice.injEq] at e1;obtain ⟨e1,_,_⟩:=e1;obtain ⟨et,k',g1,g2,g3⟩:=E6 (C1 hE bE);obtain ⟨inf,lN,dB,jj⟩:=R4 g3;have aF:c.args=#[x,y]:=by rw [<- ha]
  have dI:c.argTypes=#[T,U]:=by rw [<- eu]
  have ch:(hi - lo).toNat+m.length<=c0:=by omega
  have aW:(Builtin.append_ #[T,U] o.type #[a.eval x,a.eval y]).run E.P w=.ok (.slice A ((hi - lo).toNat+m.length) c0) w':=by
   rw [fa,k4];rw [<- dB] at dX;by_cases gr:m=[]
   ·subst gr
    have cG:news=[]:=hN.2;subst cG;have qi:w'=w:=by
     rcases bN with ⟨_,_,rfl⟩|⟨A1,_,bN⟩
     ·rfl
     ·simpa [storeCells] using bN.symm
    subst qi;have ie:=dX.len;have dO:=dX.cells;simp only [List.length_nil,Nat.add_zero] at ie dO ch;rcases dX.kind with ⟨e',eo⟩|eo<;>cases A<;>simp [Builtin.append_,run_underlying g1,run_underlying eo,sizeOf,typeInfo,lN,ie,dO,storeCells,ch]
   ·have jL:1<=m.length:=List.length_pos_iff.2 gr
    rcases bN with ⟨_,ib,_⟩|⟨A1,sk,bN⟩
    ·exact absurd ib gr
    subst sk;obtain ⟨O2,_,_,m3⟩:=F1 h.hs iE h2 k1 k3;rcases m3 with ⟨_,_,hl⟩|⟨b2,o2,cap2,O',c1,c2,_⟩
    ·have hl:l=[]:=hl
     rw [hl] at hp; simp at hp; omega
    ·simp only [List.cons.injEq,Value.slice.injEq,and_true,true_and] at c1
     obtain ⟨rfl,rfl⟩:=c1;have hA:=kA (by omega);subst hA;simp only [Option.map_some,Option.some.injEq] at e1;subst e1;have oT:((⟨b2,o2,none⟩:Addr).add (lo.toNat*t.size)).add ((hi - lo).toNat*t.size)=(⟨b2,o2,none⟩:Addr).add (hi.toNat*t.size):=by
      rw [Addr.F8,Addr.F8,Addr.F8,Nat.add_assoc,<- Nat.add_mul,show lo.toNat+(hi - lo).toNat=hi.toNat by omega]
     rw [<- oT] at bN;simp only [Option.map_some];generalize sS:((⟨b2,o2,none⟩:Addr).add (lo.toNat*t.size))=AA at bN ⊢;rw [<- dB] at bN;rcases dX.kind with ⟨e',eo⟩|eo<;>simp [Builtin.append_,run_underlying g1,run_underlying eo,sizeOf,typeInfo,lN,dX.len,ch,dX.cells,bN]
  have fg:(execOp a.eval o).run E.P w=.ok (.value (.slice A ((hi - lo).toNat+m.length) c0)) w':=by
   simp [execOp,ho,resolve,hc,invoke,builtin,aF,dI,aW]
  intro next Q ja
  unfold Oper.wp;rw [fg];refine ja S ι' w' _ cR ?_;have kC:=c1K aX hf;have kZ:s'.ev x=.sub i [] lo hi:=by
   cases x with
   | tmp n =>
    have pF:Nat.beq n H7=false:=by
     cases hb:Nat.beq n H7 with
     | true=>simp [St.ev,hb] at hx
     | false=>rfl
    have my:(look n s.fr).getD .any=.sub i [] lo hi:=by
     have h9:=hx;simp only [St.ev,pF] at h9;exact h9
    show (match Nat.beq n H7 with|true=>AV.any|false=>s'.get n)=_;rw [pF];show (look n s'.fr).getD .any=_;rw [kC];show (look n (mapA (AV.map (AV.a1H i true)) s.fr)).getD .any=_;rw [N5];cases pK:look n s.fr with
    | none=>rw [pK] at my; cases my
    | some u9 =>
     rw [pK] at my;have:u9=.sub i [] lo hi:=my;subst this;simp [AV.map,AV.a1H,AV.i6]
   | const v9=>exact absurd hx (by
     simp only [St.ev];intro h9;unfold ofConst at h9
     repeat' split at h9
     all_goals cases h9)
   | global g=>cases hx
   | func f=>cases hx
  have pw:=cR.ev x;rw [kZ,fa,k4] at pw;obtain ⟨e9,v9,r1,r2,r3,r4,r5,r6⟩:=pw;have lv:look i s'.hp=some (.own (.d0 true t) (List.take hi.toNat l++m++List.drop (hi.toNat+m.length) l)):=by
   rw [kC];show look i (Ex.put i _ _)=_;rw [o7,if_pos rfl]
  rw [lv] at r1; cases r1;have lH:(List.take hi.toNat l++m++List.drop (hi.toNat+m.length) l).length=l.length:=by
   simp only [List.length_append,List.length_take,List.length_drop]; omega
  rcases r6 with ⟨t2,l2,a2,cap2,q1,q2,q3,c2,A2,q4,qA,q5,q6⟩|⟨n,t2,l2,b,off,q1,_,q3,_⟩
  ·have q1':j8 (.d0 true t) (List.take hi.toNat l++m++List.drop (hi.toNat+m.length) l) []=some ⟨.d0 true t2,l2⟩:=q1
   rw [x7] at q1'; cases q1';have r3':Value.slice A (hi - lo).toNat c0=v9:=by simpa using r3
   rw [q4] at r3';simp only [Value.slice.injEq,true_and] at r3';obtain ⟨rfl,rfl⟩:=r3';exact ⟨_,_,lv,r2,rfl,r4,by omega,.inl ⟨t,_,a2,cap2,q1,by rw [lH]; exact hp,q3,c0,A,by rw [show (hi+(m.length:Int) - lo).toNat=(hi - lo).toNat+m.length by omega],qA,by omega,q6⟩⟩
  ·exfalso
   simp only [Loc,Place,x6,VR] at q3;simp at q3
theorem b9E (hE:C2 E B) (h:RS B S ι s a w) {o:Oper} {c:Call} (ho:o.op=.call c) (hc:c.callee=.builtin .copy) {x y:Operand} {T U:TypeId} (ha:c.args.toList=[x,y]) (hT:c.argTypes.toList=[T,U]):D3 E.P B o a w (a7J E T (s.ev x) (s.ev y) s):=by
 unfold a7J
 split
 ·rename_i i p lo hi t m hd eI
  split
  ·rename_i s' hf bE
   obtain ⟨et,k',g1,_,g3⟩:=E6 (C1 hE bE);obtain ⟨A2,c2,ey,hA⟩:=a7G h.hs (h.ev y) eI;have hlen:=b0Y h.hs (h.ev y) eI;have aF:c.args=#[x,y]:=by rw [<- ha]
   have dI:c.argTypes=#[T,U]:=by rw [<- hT]
   have bT:t.shared=true:=b4m hf;obtain ⟨e,t9,l9,A9,cap9,c9,A8,z1,z2,z3,z4,z5,z6,z7,z8,z9,z10⟩:=b0Z h (h.ev x) hd;have dX:∃ news,(Builtin.firstCells t.size (List.take (hi - lo).toNat m).length (a.eval y)).run E.P w=.ok news.toArray w/\i7 (f8 w.heap S t) t.size [] news (List.take (hi - lo).toNat m):=by
    rw [ey];rcases hA with rfl|⟨b,off,O',rfl,k1,k2,k3,k4⟩
    ·refine ⟨[],?_,by rw [List.take_nil]; exact ⟨rfl,rfl⟩⟩
     rw [List.take_nil];cases A2 with
     | none=>exact run_firstCells_none w t.size 0 0 c2
     | some A=>exact run_firstCells_some w t.size 0 A 0 c2 [] (by simp) (by simp)
    ·have hr:=c1a bT k3 (k:=(List.take (hi - lo).toNat m).length)
     have e9:List.take (List.take (hi - lo).toNat m).length m=List.take (hi - lo).toNat m:=by
      rw [List.length_take];rcases Nat.le_total (hi - lo).toNat m.length with h9|h9
      ·rw [Nat.min_eq_left h9]
      ·rw [Nat.min_eq_right h9,List.take_length,List.take_of_length_le h9]
     rw [e9] at hr;refine ⟨_,run_firstCells_some w t.size _ _ _ c2 _ (i7.length (λ _ _ _ h=>h.length) hr) (λ j u hu=>?_),hr⟩;rw [Addr.F8];refine K1 (n:=List.length m*t.size) ?_;rw [List.getElem?_take] at hu;split at hu
     ·exact hu
     ·cases hu
   obtain ⟨news,eP,lC⟩:=dX;have jL:((List.take (hi - lo).toNat m).length:Int)<=hi - lo:=by rw [List.length_take]; omega
   obtain ⟨w',ι',A',c',e1,cR,bN⟩:=a4o (P:=E.P) h (h.ev x) hd jL lC hf;have lB:Nat.min m.length (hi - lo).toNat=(List.take (hi - lo).toNat m).length:=by rw [List.length_take,Nat.min_comm]
   have aW:(Builtin.copy_ #[T,U] o.type #[a.eval x,a.eval y]).run E.P w=.ok (.int .i64 ((List.take (hi - lo).toNat m).length:Int)) w':=by
    have jJ:=eP;rw [ey,List.length_take] at jJ;rw [e1,ey];rcases bN with ⟨rfl,_,rfl⟩|⟨A,rfl,bN⟩
    ·simp only [Builtin.copy_]
     simp [o6 g1,Builtin.lenOf,lB,run_sizeOf g3,jJ,goInt]
    ·simp [Builtin.copy_,o6 g1,Builtin.lenOf,lB,run_sizeOf g3,jJ,bN,goInt]
   have fg:(execOp a.eval o).run E.P w=.ok (.value (.int .i64 ((List.take (hi - lo).toNat m).length:Int))) w':=by
    simp [execOp,ho,resolve,hc,invoke,builtin,aF,dI,aW]
   intro next Q ja
   unfold Oper.wp;rw [fg];refine ja S ι' w' _ cR (VX.int ?_);have:(List.take (hi - lo).toNat m).length<=m.length:=by rw [List.length_take]; omega
   unfold maxLen at hlen;unfold r7;simp only [IntKind.min,IntKind.max,IntKind.signed,IntKind.bits];simp;omega
  ·trivial
 ·trivial
theorem b6F (hE:C2 E B) (h:RS B S ι s a w) {o:Oper} {c:Call} (ho:o.op=.call c) (hc:c.callee=.builtin .clear) {x:Operand} {T:TypeId} (ha:c.args.toList=[x]) (hT:c.argTypes.toList=[T]):D3 E.P B o a w (a4V E T (s.ev x) s):=by
 unfold a4V
 split
 ·rename_i i p lo hi q t bts hd rM
  split
  ·rename_i s' hf
   obtain ⟨et,k',g1,_,g3⟩:=E6 (q9 hE rM);have aF:c.args=#[x]:=by rw [<- ha]
   have dI:c.argTypes=#[T]:=by rw [<- hT]
   obtain ⟨e,t9,l9,A9,cap9,c9,A8,z1,z2,z3,z4,z5,z6,z7,z8,z9,z10⟩:=b0Z h (h.ev x) hd;have iB:i7 (f8 w.heap S t) t.size [] (List.replicate (hi - lo).toNat (zc t)).flatten (List.replicate (hi - lo).toNat t.o8):=(f8.o8 (H:=w.heap) (S:=S) (.arr (hi - lo).toNat t)).2;obtain ⟨w',ι',A',c',e1,cR,bN⟩:=a4o (P:=E.P) h (h.ev x) hd (by rw [List.length_replicate]; omega) iB hf;have gB:(j9 t (zc t)).cells=(zc t).toArray:=(f8.o8 (H:=w.heap) (S:=S) t).cells;have aW:(Builtin.clear_ #[T] o.type #[a.eval x]).run E.P w=.ok (.tuple #[]) w':=by
    rw [e1];rcases bN with ⟨rfl,_,rfl⟩|⟨A,rfl,bN⟩
    ·simp [Builtin.clear_,o6 g1]
    ·by_cases h0:(hi - lo).toNat=0
     ·rw [h0] at bN ⊢
      simp [storeCells] at bN;subst bN;simp [Builtin.clear_,o6 g1]
     ·obtain ⟨n,hn⟩:∃ n,(hi - lo).toNat=n+1:=⟨(hi - lo).toNat - 1,by omega⟩
      rw [hn] at bN ⊢;simp [Builtin.clear_,o6 g1,a1c g3,gB,a1w,bN]
   have fg:(execOp a.eval o).run E.P w=.ok (.value (.tuple #[])) w':=by
    simp [execOp,ho,resolve,hc,invoke,builtin,aF,dI,aW]
   intro next Q ja
   unfold Oper.wp;rw [fg];exact ja S ι' w' _ cR rfl
  ·trivial
 ·trivial
theorem b90 (hE:C2 E B) (h:RS B S ι s a w) {o:Oper} {c:Call} (ho:o.op=.call c):D3 E.P B o a w (n7 E o s):=by
 unfold n7;rw [ho];simp only
 split
 ·rename_i f hf
  split
  ·rename_i g caps hg
   obtain ⟨us,he,cD⟩:=x8 h hg;exact a4q hE h ho hf (by simpa using he) cD
  ·rename_i g b hg
   refine D3.a69 (λ hb=>?_);have hv:=b4l h hg;rw [hb] at hv;exact a4q hE h ho hf (us:=[]) hv rfl
  ·rename_i g t y hg
   refine D3.a69 (λ hy=>?_);obtain ⟨p,e,hp⟩:=a8u (x8 h hg) hy;exact a4q hE h ho hf (us:=[p]) (by simpa using e) ⟨p,[],rfl,hp,rfl⟩
  ·trivial
 ·rename_i hf
  split
  ·rename_i x T ha hT
   split
   ·rename_i q u y hx
    split
    ·rename_i hk
     obtain ⟨cs,e,hR⟩:=x8 h hx;obtain ⟨b,cap,hv,hl⟩:=a4E hR;have e:a.eval x=j9 (.d0 q u) cs:=by simpa using e
     exact a0N hE h ho hf ha hT hk (.inl ⟨q,u,b,0,cap,rfl,by rw [e,hv],rfl⟩) hl
    ·trivial
   ·rename_i u y hx
    split
    ·rename_i hk
     obtain ⟨cs,e,hR⟩:=x8 h hx;obtain ⟨b,cap,hv,hl⟩:=b7t hR;have e:a.eval x=j9 (.w6 u) cs:=by simpa using e
     exact a0N hE h ho hf ha hT hk (.inl ⟨false,u,b,0,cap,rfl,by rw [e,hv],rfl⟩) hl
    ·trivial
   ·rename_i y hx
    split
    ·rename_i hk
     obtain ⟨hv,hl⟩:=VX.a10 (x8 h hx);exact a0N hE h ho hf ha hT hk (.inr (.inl ⟨y,rfl,hv,rfl⟩)) (by unfold maxLen at hl; omega)
    ·trivial
   ·rename_i n u y hx
    split
    ·rename_i hk
     split
     ·rename_i hn
      exact a0N hE h ho hf ha hT hk (.inr (.inr ⟨u,rfl⟩)) hn
     ·trivial
    ·trivial
   ·rename_i d p hx
    split
    ·rename_i q u z cM
     split
     ·rename_i hk
      obtain ⟨e,u',y,cs,k1,k2,k3,k4,k5⟩:=x8 h hx;have hg:=G6 k1 cM;rw [k3] at hg; cases hg;obtain ⟨O2,m1,m2,m3⟩:=F1 h.hs k1 k2 k3 k4;obtain ⟨b,cap,hv,hl⟩:=a4E m3;have k5:a.eval x=j9 (.d0 q u) cs:=by simpa using k5
      exact a0N hE h ho hf ha hT hk (.inl ⟨q,u,b,0,cap,rfl,by rw [k5,hv],rfl⟩) hl
     ·trivial
    ·rename_i u z cM
     split
     ·rename_i hk
      obtain ⟨e,u',y,cs,k1,k2,k3,k4,k5⟩:=x8 h hx;have hg:=G6 k1 cM;rw [k3] at hg; cases hg;obtain ⟨O2,m1,m2,m3⟩:=F1 h.hs k1 k2 k3 k4;obtain ⟨b,cap,hv,hl⟩:=b7t m3;have k5:a.eval x=j9 (.w6 u) cs:=by simpa using k5
      exact a0N hE h ho hf ha hT hk (.inl ⟨false,u,b,0,cap,rfl,by rw [k5,hv],rfl⟩) hl
     ·trivial
    ·rename_i k u z cM
     split
     ·rename_i hk
      intro hn;have hm:(s.ev x).mp s=some ⟨(k,u),z⟩:=by rw [hx]; simp only [AV.mp,cM]
      have aF:c.args=#[x]:=by rw [<- ha]
      have dI:c.argTypes=#[T]:=by rw [<- hT]
      obtain ⟨K,V,n,h1,_⟩:=a47 (C1 hE hk);refine w4.value (val:=.int .i64 (List.length (Option.getD (z:Option (List (k.den×u.den))) []))) ?_ h (VX.int (by unfold r7; simp [IntKind.min,IntKind.max,IntKind.signed,IntKind.bits]; omega));have aW:(Builtin.len_ #[T] o.type #[a.eval x]).run E.P w=.ok (.int .i64 (List.length (Option.getD (z:Option (List (k.den×u.den))) []))) w:=by
       rcases c1s h.hs (h.ev x) hm with ⟨h2,h3⟩|⟨l,b,es,ck,h2,h3,h4,h5⟩
       ·subst h2
        rw [h3];simp [Builtin.len_,o6 h1,goInt]
       ·subst h2
        rw [h3];have iN:=MapKept.run_getObj_map (P:=E.P) h4;have hl:=N2.length h5;rw [Array.length_toList] at hl;simp [Builtin.len_,o6 h1,goInt,iN,hl]
      simp [execOp,ho,resolve,hf,invoke,builtin,aF,dI,aW]
     ·trivial
    ·trivial
   ·rename_i d p lo hi hx
    split
    ·rename_i u y hw
     split
     ·rename_i hk
      obtain ⟨A,c,e,_,hl,h0,h1,_⟩:=a7w h.hs (x8 h hx) hw;have hm:=b0Y h.hs (x8 h hx) (l:=y) hw;have:=a0N hE h ho hf ha hT hk (n:=y.length) (.inl ⟨true,u,A,0,c,rfl,e,rfl⟩) (by unfold maxLen at hm; omega);rw [hl] at this;exact this
     ·trivial
    ·trivial
   ·rename_i hx
    split
    ·rename_i q u bts oY
     have dP:[a.eval x]=[Value.slice none 0 0]:=x8 h hx;have dP:a.eval x=Value.slice none 0 0:=by simpa using dP
     have aF:c.args=#[x]:=by rw [<- ha]
     have dI:c.argTypes=#[T]:=by rw [<- hT]
     refine w4.value (val:=.int .i64 0) ?_ h (VX.int (by unfold r7; simp [IntKind.min,IntKind.max,IntKind.signed,IntKind.bits]));have:=b7y (w:=w) (ty:=o.type) (n:=0) (q9 hE oY) (.inl ⟨q,u,none,0,0,rfl,dP,rfl⟩);simp [execOp,ho,resolve,hf,invoke,builtin,aF,dI,this]
    ·trivial
   ·trivial
  ·trivial
 ·rename_i hf
  split
  ·rename_i x T ha hT
   split
   ·rename_i q u bts hx oY
    obtain ⟨et,k',f1,_⟩:=E6 (q9 hE oY);have dP:a.eval x=Value.slice none 0 0:=by simpa using (show [a.eval x]=[Value.slice none 0 0] from x8 h hx)
    have aF:c.args=#[x]:=by rw [<- ha]
    have dI:c.argTypes=#[T]:=by rw [<- hT]
    refine w4.value (val:=.int .i64 0) ?_ h (VX.int (by unfold r7; simp [IntKind.min,IntKind.max,IntKind.signed,IntKind.bits]));simp [execOp,ho,resolve,hf,invoke,builtin,aF,dI,Builtin.cap_,o6 f1,dP,goInt]
   ·trivial
  ·trivial
 ·rename_i hf
  split
  ·rename_i x y T U ha hT
   split
   ·rename_i q u bts hU
    obtain ⟨et,k',f1,_⟩:=E6 (q9 hE hU)
    split
    ·exact b3d hE h ho hf ha hT (.inl ⟨et,f1⟩)
    ·exact c0g hE h ho hf ha hT ⟨et,f1⟩
   ·rename_i bts hU
    exact a68 hE h ho hf ha hT (.inr (S9 (q9 hE hU)))
   ·rename_i kd bts hU
    exact b3c hE h ho hf ha hT (X7 (q9 hE hU))
   ·trivial
  ·trivial
 ·rename_i hf
  split
  ·rename_i x l ha
   split
   ·rename_i k m hx
    exact (a6A h ho ha hx).1 hf
   ·trivial
  ·trivial
 ·rename_i hf
  split
  ·rename_i x l ha
   split
   ·rename_i k m hx
    exact (a6A h ho ha hx).2 hf
   ·trivial
  ·trivial
 ·rename_i hf
  split
  ·rename_i x y T U ha hT; exact b9E hE h ho hf ha hT
  ·trivial
 ·rename_i hf
  split
  ·rename_i x T ha hT; exact b6F hE h ho hf ha hT
  ·trivial
 ·trivial
theorem c2v (hE:C2 E B) (h:RS B S ι s a w) (o:Oper) (gH:∀ c x y,o.op≠.pick c x y):D3 E.P B o a w (n7 E o s):=by
 cases ho:o.op with
 | move x=>unfold n7; rw [ho]; exact w4.value (by simp [execOp,ho]) h (h.ev x)
 | assign x=>unfold n7; rw [ho]; exact w4.value (by simp [execOp,ho]) h (h.ev x)
 | alloc T=>exact b6Z hE h ho
 | box T x=>exact c2k hE h ho
 | makeSlice T x y=>exact a9L hE h ho
 | slice T x lo hi mx =>
  have:n7 E o s=a2w E T (s.ev x) lo hi mx s:=by unfold n7; rw [ho]
  rw [this]; exact b3I hE h ho
 | build T parts=>exact b6U hE h ho
 | buildSlice T n parts=>exact a8W hE h ho
 | makeMap T r=>exact b2U hE h ho
 | lookup T x y ok =>
  have:n7 E o s=a16 E T (s.ev x) (s.ev y) ok s:=by unfold n7; rw [ho]
  rw [this]; exact b2V hE h ho
 | mapUpdate T m x y =>
  have:n7 E o s=a6i E T (s.ev m) (s.ev x) (s.ev y) s:=by unfold n7; rw [ho]
  rw [this]; exact b8m hE h ho
 | load T x =>
  have:n7 E o s=a1a E T (s.ev x) s:=by unfold n7; rw [ho]
  rw [this];cases hl:a1a E T (s.ev x) s with
  | fail why=>trivial
  | ok v s'=>exact b6k hE h ho hl
  | E5 p v s' =>
   exfalso;unfold a1a at hl
   repeat' split at hl
   all_goals cases hl
 | store T x y =>
  unfold n7; rw [ho];simp only
  split
  ·rename_i i p hx; exact b3H hE h ho hx
  ·trivial
 | nilCheck x =>
  unfold n7; rw [ho];simp only
  split
  ·rename_i i p hx
   have hv:=x8 h hx;obtain ⟨e,b,off,h1,h2,h3,h4⟩:=hv;have h4:a.eval x=.pointer (some ⟨b,off,none⟩):=by simpa using h4
   exact w4.value (val:=.pointer (some ⟨b,off,none⟩)) (by simp only [execOp,ho,h4]; rfl) h ⟨e,b,off,h1,h2,h3,rfl⟩
  ·rename_i t y hx
   obtain ⟨b,off,e,h1,h2,h3⟩:=x8 h hx;have e:a.eval x=.pointer (some ⟨b,off,none⟩):=by simpa using e
   exact w4.value (val:=.pointer (some ⟨b,off,none⟩)) (by simp only [execOp,ho,e]; rfl) h ⟨b,off,rfl,h1,h2,h3⟩
  ·rename_i t y hx
   intro hy;obtain ⟨b,off,e,h1,h2,h3⟩:=a7u (x8 h hx) hy;have e:a.eval x=.pointer (some ⟨b,off,none⟩):=by simpa using e
   exact w4.value (val:=.pointer (some ⟨b,off,none⟩)) (by simp only [execOp,ho,e]; rfl) h ⟨b,off,rfl,h1,h2,h3⟩
  ·rename_i f t y hx
   intro hy;have hv:=x8 h hx;obtain ⟨p,e,-⟩:=a8u hv hy;exact w4.value (val:=a.eval x) (by simp only [execOp,ho,e]; rfl) h hv
  ·rename_i f l hx
   obtain ⟨us,e,h1⟩:=x8 h hx;have e:a.eval x=.func (.func f) #[] us.toArray:=by simpa using e
   exact w4.value (val:=.func (.func f) #[] us.toArray) (by simp only [execOp,ho,e]; rfl) h ⟨us,rfl,h1⟩
  ·rename_i g b hx
   intro hb;have hv:=b4l h hx;have hb:b=true:=hb;subst hb;exact w4.value (val:=.func (.func g) #[] #[]) (by simp only [execOp,ho,hv]; rfl) h ⟨[fnV g true],rfl,rfl,rfl⟩
  ·trivial
 | binOp op T x y T' =>
  have:n7 E o s=a5O E T op (s.ev x) (s.ev y) s:=by unfold n7; rw [ho]
  rw [this]; exact c0a hE h ho
 | unOp op T x =>
  have:n7 E o s=unA op (s.ev x) s:=by unfold n7; rw [ho]
  rw [this]; exact b8n h ho
 | convert T' T x=>exact b27 hE h ho
 | fieldAddr T x n=>exact a9V hE h ho
 | indexAddr T x y=>exact a9Q hE h ho
 | field T x n=>exact b6s hE h ho
 | index T x y=>exact b6p hE h ho
 | extract x n =>
  unfold n7; rw [ho];simp only
  split
  ·rename_i l hx
   split
   ·rename_i v hn
    obtain ⟨us,e,hl⟩:=x8 h hx;have e:a.eval x=.tuple us.toArray:=by simpa using e
    obtain ⟨u,h1,h2⟩:=b7s hn hl;have he:execOp a.eval o=(do pure (.value (<- Instr.extract (a.eval x) n))):=by simp [execOp,ho]
    refine G5 he h (val:=u) ?_ h2;rw [e]; simp [Instr.extract,h1]
   ·trivial
  ·trivial
 | makeFunc fn first caps =>
  unfold n7;rw [ho];cases fn with
  | func f =>
   simp only
   split
   ·rename_i hf
    have hf:first=#[]:=by simpa using hf
    have:=h.I1 caps.toList;refine w4.value (val:=.func (.func f) #[] (caps.toList.map a.eval).toArray) ?_ h ⟨_,rfl,this⟩;simp [execOp,ho,Instr.makeFunc,hf,<- Array.toList_map]
   ·trivial
  | _=>trivial
 | call c=>exact b90 hE h ho
 | pick c x y=>exact absurd ho (gH c x y)
 | _=>unfold n7; rw [ho]; trivial
theorem a4k (hE:C2 E B) (hn:B.n=E.nt) (h:RS B S ι s a w) (o:Oper) {k:St->Tree (E.rs++F4 E.ps)} {L:Code->List Item->St->Prop} {Rt:DL (E.rs++F4 E.ps)->Prop} (ht:(a5g E o s k).holds L Rt) {next:Act->World->Prop} {Q:Exit->Act->World->Prop}
  (hk:∀ S' ι' s' a' w',RS B S' ι' s' a' w'->(k s').holds L Rt->next a' w'):o.wp E.P a w next Q:=by
 unfold a5g at ht;split at ht
 ·exact ht.elim
 ·rename_i hd
  rw [<- hn] at hd;split at ht
  ·rename_i c x y ho
   split at ht
   ·rename_i g hg
    have cC:=VX.a2c (x8 h hg);have aW:(execOp a.eval o).run E.P w=.ok (.value (if g then a.eval x else a.eval y)) w:=by
     simp only [execOp,ho,cC,asBool];cases g<;>simp
    unfold Oper.wp;rw [aW];cases g with
    | true=>exact hk S ι _ _ _ (h.put hd (h.ev x)) ht
    | false=>exact hk S ι _ _ _ (h.put hd (h.ev y)) ht
   ·exact ht.elim
  ·rename_i qI
   have hs:=c2v hE h o (λ c x y e=>qI c x y e);split at ht
   ·exact ht.elim
   ·rename_i v s' e
    rw [e] at hs;exact hs next Q (λ S' ι' w' val h1 h2=>hk S' ι' _ _ _ (h1.put hd h2) ht)
   ·rename_i p v s' e
    rw [e] at hs;exact hs ht.1 next Q (λ S' ι' w' val h1 h2=>hk S' ι' _ _ _ (h1.put hd h2) (ht.2 ht.1))
theorem c0Z {ops:Array Oper} {o:Oper} {j:Nat} {want:Bool} (hg:o.guard=some (j,want)) {g:Nat} (hs:a1s ops j=some g) {tmps:Array Value} :
  Region.wanted o (yielded ops tmps)=((match tmps[g]? with|some (.bool b)=>some b|_=>none) == some want):=by
 have:((ops[j]?).bind (·.dst)).bind (tmps[·]?)=tmps[g]?:=by
  have:(ops[j]?).bind (·.dst)=some g:=hs;rw [this]; rfl
 simp only [Region.wanted,hg,yielded,this];rfl
theorem getD_some {l:Array Value} {g:Nat} {v:Value} (h:l.getD g undef=v) (hv:v≠undef):l[g]?=some v:=by
 simp only [Array.getD_eq_getD_getElem?] at h;cases hl:l[g]? with
 | none=>rw [hl] at h; exact absurd h.symm hv
 | some x=>rw [hl] at h; simp at h; rw [h]
theorem a7V (hE:C2 E B) (hn:B.n=E.nt) (h:RS B S ι s a w) {ops:Array Oper} (o:Oper) {k:St->Tree (E.rs++F4 E.ps)} {L:Code->List Item->St->Prop} {Rt:DL (E.rs++F4 E.ps)->Prop} (ht:(a4F E ops o s k).holds L Rt) {next:Act->World->Prop} {Q:Exit->Act->World->Prop}
  (hk:∀ S' ι' s' a' w',RS B S' ι' s' a' w'->(k s').holds L Rt->next a' w') :
  if Region.wanted o (yielded ops a.tmps) then o.wp E.P a w next Q else next (a.put o.dst undef) w:=by
 unfold a4F at ht;split at ht
 ·rename_i hg
  simp only [Region.wanted,hg,if_true];exact a4k hE hn h o ht hk
 ·rename_i j want hg
  split at ht
  ·exact ht.elim
  ·rename_i g hs
   rw [c0Z hg hs];have hv:=h.ev (.tmp g);split at ht
   ·rename_i vs cC
    rw [cC] at hv;have hv:[a.tmps.getD g undef]=[Value.tuple vs]:=hv;have hv:a.tmps.getD g undef=.tuple vs:=by simpa using hv
    have fN:((match a.tmps[g]? with|some (.bool b)=>some b|_=>none) == some want)=false:=by
     simp only [Array.getD_eq_getD_getElem?] at hv;cases hl:a.tmps[g]? with
     | none=>rfl
     | some x=>rw [hl] at hv; simp at hv; rw [hv]; rfl
    rw [fN];split at ht
    ·rename_i hd
     rw [<- hn] at hd;exact hk S ι _ _ _ (h.put hd (v:=.raw undef) (val:=undef) (by rfl)) ht
    ·exact ht.elim
   ·rename_i b cC
    rw [cC] at hv;have hb:=VX.a2c hv;have ca:=getD_some hb (by simp [undef]);rw [ca];split at ht
    ·exact ht.elim
    ·rename_i hd
     rw [<- hn] at hd;have mI:∀ c,b=c->RS B S ι (s.put (some g) (.val .bool c)) a w:=by
      rintro c rfl;have bo:g<a.tmps.size:=by
       rcases Nat.lt_or_ge g a.tmps.size with h1|h1
       ·exact h1
       ·rw [Array.getElem?_eq_none h1] at ca; cases ca
      have:=h.put (d:=some g) (v:=.val .bool b) (val:=.bool b) (by simp [J5,Nat.blt_eq,<- h.sz,bo]) VX.bool;have e:a.put (some g) (.bool b)=a:=by
       simp only [Act.put];have:a.tmps.setIfInBounds g (.bool b)=a.tmps:=by
        apply Array.ext_getElem?;intro i;rw [Array.getElem?_setIfInBounds]
        split
        ·rename_i e; subst e; exact ca.symm
        ·rfl
       rw [this]
      rw [e] at this;exact this
     cases b with
     | true =>
      cases want with
      | true=>exact a4k hE hn (mI true rfl) o ht hk
      | false=>exact hk S ι _ _ _ ((mI true rfl).put hd (v:=.raw undef) (val:=undef) (by rfl)) ht
     | false =>
      cases want with
      | false=>exact a4k hE hn (mI false rfl) o ht hk
      | true=>exact hk S ι _ _ _ ((mI false rfl).put hd (v:=.raw undef) (val:=undef) (by rfl)) ht
   ·exact ht.elim
theorem a9y {P:Program} {T et:TypeId} (h1:P.underlying T=some (.slice et)) (d:Nat) (A:Option Addr) (n c:Nat):(Op.equalIn (d+1) T (.slice A n c) (.slice none 0 0)).run P w=.ok A.isNone w:=by
 cases A<;>simp [Op.equalIn,o6 h1]
theorem c2j (hE:C2 E B) (h:RS B S ι s a w) {o:Oper} {p:Prop} {v1 v2:AV} (hb:brA E s o=some (p,v1,v2)) :
  ∃ val,(execOp a.eval o).run E.P w=.ok (.value val) w/\((p/\VX w.heap S ι s.hp v1 [val])\/VX w.heap S ι s.hp v2 [val]):=by
 unfold brA at hb;split at hb
 ·rename_i op T x y T' ho
  have key:∀ (b:Bool),(op=.eql/\b=true\/op=.neq/\b=false)->(match s.ev y,look T E.tt with
   | .raw (.slice none 0 0),some ⟨.d0 _ _,_⟩=>(match (s.ev x).els s with
    | some r=>some (r.2=[],AV.val .bool b,AV.val .bool (!b))
    | none=>none)
   | _,_=>none)=some (p,v1,v2)->∃ val,(execOp a.eval o).run E.P w=.ok (.value val) w/\((p/\VX w.heap S ι s.hp v1 [val])\/VX w.heap S ι s.hp v2 [val]):=by
   intro b cT hb;split at hb
   ·rename_i q u bts hy hT
    split at hb
    ·rename_i r hr
     obtain ⟨t0,l0⟩:=r;cases hb;have kT:[a.eval y]=[Value.slice none 0 0]:=x8 h hy;have kT:a.eval y=.slice none 0 0:=by simpa using kT
     obtain ⟨A,c,e,hA⟩:=a7G h.hs (h.ev x) hr;obtain ⟨et,k2,h1,_,_⟩:=E6 (a4C (t:=.d0 q u) (u:=.d0 true u) rfl (q9 hE hT));have hg:(eqGuard op T x y (a.eval x) (a.eval y)).run E.P w=.ok () w:=by rw [e,kT]; cases op<;>rfl
     have heq:(Op.equal T (.slice A (List.length l0) c) (.slice none 0 0)).run E.P w=.ok A.isNone w:=a9y h1 9999 A _ c;have ec:A=none->l0=[]:=by
      rintro rfl;rcases hA with h2|⟨b2,off2,O2,h2,_⟩
      ·exact h2
      ·cases h2
     have fX:∀ n:Bool,(n=A.isNone/\op=.eql/\b=true\/n=(!A.isNone)/\op=.neq/\b=false)->(l0=[]/\VX w.heap S ι s.hp (.val .bool b) [.bool n])\/VX w.heap S ι s.hp (.val .bool (!b)) [.bool n]:=by
      intro n hn;cases A with
      | none=>rcases hn with ⟨rfl,_,rfl⟩|⟨rfl,_,rfl⟩<;>exact .inl ⟨ec rfl,VX.bool⟩
      | some A=>rcases hn with ⟨rfl,_,rfl⟩|⟨rfl,_,rfl⟩<;>exact .inr VX.bool
     rcases cT with ⟨rfl,rfl⟩|⟨rfl,rfl⟩
     ·exact ⟨.bool A.isNone,by rw [R7 ho hg (r:=.ok (.bool A.isNone) w)]; rfl; rw [e,kT]; simp [binOp,heq],fX _ (.inl ⟨rfl,rfl,rfl⟩)⟩
     ·exact ⟨.bool (!A.isNone),by rw [R7 ho hg (r:=.ok (.bool (!A.isNone)) w)]; rfl; rw [e,kT]; simp [binOp,heq],fX _ (.inr ⟨rfl,rfl,rfl⟩)⟩
    ·cases hb
   ·cases hb
  split at hb
  ·exact key true (.inl ⟨rfl,rfl⟩) hb
  ·exact key false (.inr ⟨rfl,rfl⟩) hb
  ·cases hb
 ·cases hb
end
end Go.Ex
