import Derived.Test.YtijlnmgondibnaaGreatDoorExK4
import Derived.DeepKeys
import Derived.Laws.StructEq
import Derived.MapKept
import Derived.WideKeyRuns
import Derived.Lib.AppendZerosOnto
import Derived.Tactics
set_option linter.unusedVariables false
set_option linter.unusedSimpArgs false
set_option linter.unusedSectionVars false
namespace Go.Ex
section
variable {H H':Array Go.Obj} {S:Nat->Prop}
theorem S7.s4 {q:Bool} {b n:Nat} (h:H'[b]?=H[b]?):S7 q H b n->S7 q H' b n:=by
 rintro ⟨arr,T,⟨fz,e,ef⟩,hn⟩;exact ⟨arr,T,⟨fz,by rw [h]; exact e,ef⟩,hn⟩
theorem N1.s4 {b n:Nat} (h:H'[b]?=H[b]?):N1 H b n->N1 H' b n:=by
 rintro ⟨arr,T,⟨fz,e,ef⟩,hn⟩;exact ⟨arr,T,⟨fz,by rw [h]; exact e,ef⟩,hn⟩
theorem i8.s4 {t:Ty} {O:List Nat} {cs:List Value} {l:List t.den} (h:i8 (g8 H S t) t.size O cs l) (hH:∀ c,c∈O\/S c->H'[c]?=H[c]?):i8 (g8 H' S t) t.size O cs l :=
 i8.mono (L:=O) (λ _ h=>h) (λ _ _ _ hO hr=>hr.s4 (λ c hc=>hH c (hc.imp (hO c) id)) (λ _ h=>h)) h
theorem u5.s4:∀ {t:Ty} {p:List Step} {b off:Nat} {O:List Nat} {x:t.den},u5 H S t p b off O x->(∀ c,c=b\/c∈O\/S c->H'[c]?=H[c]?) ->
  u5 H' S t p b off O x/\x6 H' t p b off=x6 H t p b off:=by
 intro t
 induction t with
 | pair a c iha ihc =>
  intro p b off O x hR hH
  match p,hR with
  | [],hR=>exact ⟨hR,by rw [x7,x7]⟩
  | .l6 0::p,⟨O1,O2,e,h1,h2⟩ =>
   subst e;obtain ⟨k1,k2⟩:=iha h1 (λ c hc=>hH c (hc.imp id (Or.imp (λ h=>by simp [h]) id)));refine ⟨⟨O1,O2,rfl,k1,?_⟩,k2⟩;rw [l4 (hH b (.inl rfl))];exact h2.s4 (λ c hc=>hH c (.inr (hc.imp (λ h=>by simp [h]) id))) (λ _ h=>h)
  | .l6 (n+1)::p,⟨O1,O2,e,h1,h2⟩ =>
   subst e;obtain ⟨k1,k2⟩:=ihc h2 (λ c hc=>hH c (hc.imp id (Or.imp (λ h=>by simp [h]) id)));refine ⟨⟨O1,O2,rfl,?_,k1⟩,k2⟩;rw [l4 (hH b (.inl rfl))];exact h1.s4 (λ c hc=>hH c (.inr (hc.imp (λ h=>by simp [h]) id))) (λ _ h=>h)
  | .idx i::p,hR=>simp [u5] at hR
 | arr n t ih =>
  intro p b off O x hR hH
  match p,hR with
  | [],hR=>exact ⟨hR,by rw [x7,x7]⟩
  | .l6 i::p,hR=>simp [u5] at hR
  | .idx i::p,⟨hl,hi,O1,O2,O3,e,h1,h2,h3⟩ =>
   subst e;obtain ⟨k1,k2⟩:=ih h2 (λ c hc=>hH c (hc.imp id (Or.imp (λ h=>by simp [h]) id)));refine ⟨⟨hl,hi,O1,O2,O3,rfl,?_,k1,?_⟩,k2⟩
   ·rw [l4 (hH b (.inl rfl))]
    exact h1.s4 (λ c hc=>hH c (.inr (hc.imp (λ h=>by simp [h]) id)))
   ·rw [l4 (hH b (.inl rfl))]
    exact h3.s4 (λ c hc=>hH c (.inr (hc.imp (λ h=>by simp [h]) id)))
 | d0 o t ih =>
  intro p b off O x hR hH
  match p,hR with
  | [],hR=>exact ⟨by cases o<;>exact hR,by rw [x7,x7]⟩
  | .l6 i::p,hR=>cases o<;>simp [u5] at hR
  | .idx i::p,hR =>
   cases o with
   | false=>simp [u5] at hR
   | true =>
    obtain ⟨hi,b1,o1,cap,O1,O2,O3,e,e1,e2,e3,e4,h1,h2,h3⟩:=hR;subst e;have dG:H'[b1]?=H[b1]?:=hH b1 (by simp);obtain ⟨k1,k2⟩:=ih h2 (λ c hc=>hH c (hc.elim (λ h=>.inr (.inl (by simp [h]))) (λ h=>.inr (h.imp (λ h=>by simp [h]) id))));refine ⟨⟨hi,b1,o1,cap,O1,O2,O3,rfl,by rw [N7 (hH b (.inl rfl))]; exact e1,e2,e3,e4.s4 dG,?_,k1,?_⟩,?_⟩
    ·rw [l4 dG]
     exact h1.s4 (λ c hc=>hH c (.inr (hc.imp (λ h=>by simp [h]) id)))
    ·rw [l4 dG]
     exact h3.s4 (λ c hc=>hH c (.inr (hc.imp (λ h=>by simp [h]) id)))
    ·simp only [x6,N7 (hH b (.inl rfl)),e1]
     exact k2
 | _ =>
  intro p b off O x hR hH
  match p,hR with
  | [],hR=>exact ⟨hR,by rw [x7,x7]⟩
  | .l6 i::p,hR=>simp [u5] at hR
  | .idx i::p,hR=>simp [u5] at hR
end
section
variable {S:Nat->Prop} {ι:Ix} {H H':Array Go.Obj}
theorem u5.move {i:Nat} {e:g9} {p:List Step} (hk:(∃ t x,e=.var t x)\/∃ t x j q,e=.own (.d0 true t) x/\p=.idx j::q) {O:List Nat} (hR:u5 (VH H ι i e) S e.ty p (VR H ι i e).1 (VR H ι i e).2 O e.x)
  (hO:∀ c∈O,c<H.size) (hS:∀ c,S c->c<H.size) (aW:H.size<=H'.size) (hH:∀ c,(c=(VR H ι i e).1/\c<H.size)\/c∈O\/S c->H'[c]?=H[c]?) (bE:(∃ t x,e=.var t x)->(VR H ι i e).1<H.size) :
  u5 (VH H' ι i e) S e.ty p (VR H' ι i e).1 (VR H' ι i e).2 O e.x/\x6 (VH H' ι i e) e.ty p (VR H' ι i e).1 (VR H' ι i e).2=x6 (VH H ι i e) e.ty p (VR H ι i e).1 (VR H ι i e).2:=by
 rcases hk with ⟨t,x,rfl⟩|⟨t,x,j,q,rfl,rfl⟩
 ·exact u5.s4 (H:=H) hR (λ c hc=>hH c (hc.imp (λ h=>⟨h,h▸bE ⟨_,_,rfl⟩⟩) id))
 ·have hg:∀ c,c∈O\/S c->(VH H' ι i (.own (.d0 true t) x))[c]?=(VH H ι i (.own (.d0 true t) x))[c]?:=λ c hc=>by
   have h1:c<H.size:=hc.elim (hO c) (hS c);rw [F3 h1,F3 (Nat.lt_of_lt_of_le h1 aW)];exact hH c (.inr hc)
  obtain ⟨hi,b1,o1,cap,O1,O2,O3,e0,e1,e2,e3,e4,h1,h2,h3⟩:=hR;subst e0;have dG:=hg b1 (by simp);obtain ⟨k1,k2⟩:=u5.s4 h2 (H':=VH H' ι i (.own (.d0 true t) x)) (λ c hc=>hg c (hc.elim (λ h=>.inl (by simp [h])) (λ h=>h.imp (λ h=>by simp [h]) id)));have dN:(u6 (VH H' ι i (.own (.d0 true t) x)) (VR H' ι i (.own (.d0 true t) x)).1)[(VR H' ι i (.own (.d0 true t) x)).2]?=some (.slice (some ⟨b1,o1,none⟩) (List.length x) cap):=by
   refine Eq.trans ?_ (show (u6 (VH H ι i (.own (.d0 true t) x)) (VR H ι i (.own (.d0 true t) x)).1)[(VR H ι i (.own (.d0 true t) x)).2]?=some (.slice (some ⟨b1,o1,none⟩) (List.length x) cap) from e1);simp only [VH,VR,vL]
  refine ⟨⟨hi,b1,o1,cap,O1,O2,O3,rfl,dN,e2,e3,e4.s4 dG,?_,k1,?_⟩,?_⟩
  ·rw [l4 dG]; exact h1.s4 (λ c hc=>hg c (hc.imp (λ h=>by simp [h]) id))
  ·rw [l4 dG]; exact h3.s4 (λ c hc=>hg c (hc.imp (λ h=>by simp [h]) id))
  ·have e1':(u6 (VH H ι i (.own (.d0 true t) x)) (VR H ι i (.own (.d0 true t) x)).1)[(VR H ι i (.own (.d0 true t) x)).2]?=some (.slice (some ⟨b1,o1,none⟩) (List.length x) cap):=e1
   simp only [g9.ty,x6,dN,e1'];exact k2
theorem U9.refl {b off n m:Nat} (h:N1 H b m):U9 H H b off n:=by
 obtain ⟨arr,T,⟨fz,e,ef⟩,_⟩:=h;exact ⟨⟨arr,arr,T,⟨fz,⟨e,ef⟩,e⟩,rfl,λ _ _=>rfl⟩,λ _ _ _=>rfl⟩
theorem Pr:∀ {t:Ty} {x:t.den} {p:List Step} {u:Ty} {y:u.den},w8 t x p->j8 t x p=some ⟨u,y⟩->r8 t x p u y=some ⟨t,x⟩:=by
 intro t;have set_self:∀ {α:Type} {l:List α} {i:Int} {d:α},(0<=i/\i<List.length l)->List.set l i.toNat (List.getD l i.toNat d)=l:=by
  intro α l i d h;have h1:i.toNat<l.length:=by omega
  rw [List.getD_eq_getElem?_getD,List.getElem?_eq_getElem h1]; simp
 induction t with
 | pair a c iha ihc =>
  intro x p u y ho hg
  match p,ho,hg with
  | [],_,hg=>simp only [j8,Option.some.injEq] at hg; cases hg; simp [r8]
  | .l6 0::p,ho,hg=>simp only [r8,iha (x:=x.1) ho hg]
  | .l6 (n+1)::p,ho,hg=>simp only [r8,ihc (x:=x.2) (p:=.l6 n::p) ho hg]
  | .idx i::p,ho,_=>simp [w8] at ho
 | arr n t ih =>
  intro x p u y ho hg
  match p,ho,hg with
  | [],_,hg=>simp only [j8,Option.some.injEq] at hg; cases hg; simp [r8]
  | .l6 i::p,ho,_=>simp [w8] at ho
  | .idx i::p,ho,hg =>
   simp only [r8,ih ho.2 hg,dif_pos];by_cases hl:i<List.length x
   ·rw [set_self ⟨ho.1.1,hl⟩]
   ·rw [List.set_eq_of_length_le (by have:=ho.1.1; omega)]
 | d0 o t ih =>
  intro x p u y ho hg
  match p,ho,hg with
  | [],_,hg=>rw [y9] at hg; cases hg; cases o<;>simp [r8]
  | .l6 i::p,ho,_=>cases o<;>simp [w8] at ho
  | .idx i::p,ho,hg =>
   cases o with
   | false=>simp [w8] at ho
   | true =>
    simp only [r8,ih ho.2 hg,dif_pos];rw [set_self ho.1]
 | _ =>
  intro x p u y ho hg
  match p,ho,hg with
  | [],_,hg=>simp only [j8,Option.some.injEq] at hg; cases hg; simp [r8]
  | .idx i::p,ho,_=>simp [w8] at ho
  | .l6 i::p,ho,_=>simp [w8] at ho
theorem OB.set {i:Nat} {e:g9} (ho:OB H S ι i e) (bQ:∀ c∈l5 ι i e,¬ S c/\c<H.size) (hS:∀ c,S c->c<H.size) {p:List Step} (hk:(∃ t x,e=.var t x)\/∃ t x j q,e=.own (.d0 true t) x/\p=.idx j::q) (aM:w8 e.ty e.x p) {u:Ty} {y:u.den} (hg:j8 e.ty e.x p=some ⟨u,y⟩)
  {b off:Nat} (hl:Loc H ι i e p=some (b,off)) (aW:H.size<=H'.size) {Op:List Nat} (gF:g8 H S u Op (d9 H b off u.size) y) (hH:∀ c,c<H.size->c∉Op->H'[c]?=H[c]?) {y':u.den} (fA:g8 H' S u Op (d9 H' b off u.size) y') {r:Sigma Ty.den} (aI:r8 e.ty e.x p u y'=some r) :
  OB H' S ι i (e.D5 r)/\Loc H' ι i e p=some (b,off):=by
 have he:e≠.K1:=J8 hl;have fo:=ho.yD he hS aM hg hl gF;obtain ⟨Om,m1,mn,m2,m3,m4,m5⟩:=M2 he ho hS aM hg hl;obtain ⟨O,hO,hR,hb,aH,bf,fY,dV⟩:=ho.see he hS;obtain ⟨O1,O3,b',aA,e1,e2,e3,e4,e5,e6⟩:=focus hR hb aM hg
 obtain ⟨cf,dp⟩:=C1 hl;rw [G8 he] at cf;rw [e3] at cf; cases cf;have cu:(O1++O3).Nodup:=(e1.nodup_iff).1 ((hO.nodup_iff).2 (List.nodup_cons.1 aH).2);have br:∀ c∈O1,c∈ι.own i:=λ c hc=>hO.mem_iff.1 (e1.mem_iff.2 (by simp [hc]));have cL:∀ c∈O3,c∈ι.own i:=λ c hc=>hO.mem_iff.1 (e1.mem_iff.2 (by simp [hc]));have bE:=(List.nodup_cons.1 aH).1;have di:∀ c∈ι.own i,c∈l5 ι i e:=by intro c hc; cases e<;>simp [l5,hc]
 have e4':g8 H S u O3 (d9 H b off u.size) y:=by
  rw [l4 (F3 dp)] at e4;exact (vz (λ c hc=>ho.R7 he (cL c hc)) hS).1 e4
 obtain rfl:Op=O3:=gF.det e4';have eV:∀ c∈O1,c<H.size:=λ c hc=>ho.R7 he (br c hc);have dO:∀ c,(c=(VR H ι i e).1/\c<H.size)\/c∈O1\/S c->H'[c]?=H[c]?:=by
  rintro c (⟨rfl,h1⟩|h1|h1)
  ·exact hH _ h1 (λ h=>bE (cL _ h))
  ·exact hH c (eV c h1) (λ h=>(List.nodup_append.1 cu).2.2 c h1 c h rfl)
  ·exact hH c (hS c h1) (λ h=>(bQ c (di c (cL c h))).1 h1)
 have jH:(∃ t x,e=.var t x)->(VR H ι i e).1<H.size:=by rintro ⟨t,x,rfl⟩; exact bf
 obtain ⟨n1,n2⟩:=u5.move (H':=H') hk e2 eV hS aW dO jH;have cT:(VR H' ι i e).2+e.ty.size<=(u6 (VH H' ι i e) (VR H' ι i e).1).length/\(VR H' ι i e).1<(VH H' ι i e).size/\¬ S (VR H' ι i e).1/\(VR H' ι i e).1∉O1:=by
  rcases hk with ⟨t,x,rfl⟩|⟨t,x,j,q,rfl,rfl⟩
  ·have hr:=jH ⟨_,_,rfl⟩
   refine ⟨?_,Nat.lt_of_lt_of_le hr aW,(bQ _ (by simp [l5,VR])).1,λ h=>bE (br _ h)⟩;have:=N7 (dO _ (.inl ⟨rfl,hr⟩));show (VR H ι i (.var t x)).2+_<=(u6 H' (VR H ι i (.var t x)).1).length;rw [this]; exact hb
  ·refine ⟨?_,by simp [VH,VR,AL],λ h=>by have:=hS _ h; simp only [VR] at this; omega,λ h=>by have:=eV _ h; simp only [VR] at this; omega⟩
   simp only [VH,VR,vL] at hb ⊢; exact hb
 have fT:N1 (VH H' ι i e) b (off+u.size):=N1.s4 (H:=H') (F3 (Nat.lt_of_lt_of_le dp aW)) (m5.s4 (hH b dp fo));have tr:g8 (VH H' ι i e) S u Op (d9 (VH H' ι i e) b off u.size) y':=by
  rw [l4 (F3 (Nat.lt_of_lt_of_le dp aW))];exact (vz (λ c hc=>Nat.lt_of_lt_of_le (ho.R7 he (cL c hc)) aW) (λ c hc=>Nat.lt_of_lt_of_le (hS c hc) aW)).2 fA
 obtain ⟨O4,f1,f2,f3⟩:=AQ n1 hg (n2.trans e3) cT.1 cT.2.1 (List.nodup_append.1 cu).1 cT.2.2.2 (λ c hc=>⟨(bQ c (di c (br c hc))).1,Nat.lt_of_lt_of_le (eV c hc) (Nat.le_trans aW wB)⟩) cT.2.2.1
  (λ c hc=>Nat.lt_of_lt_of_le (hS c hc) (Nat.le_trans aW wB)) (λ _ h=>h) (U9.refl fT) tr aI
 have bU:∀ c∈O4,c∈ι.own i:=λ c hc=>(List.mem_append.1 (f1.mem_iff.1 hc)).elim (br c) (cL c);have gS:O4.Nodup:=(f1.nodup_iff).2 cu;have f2':=(vz (λ c hc=>Nat.lt_of_lt_of_le (ho.R7 he (bU c hc)) aW) (λ c hc=>Nat.lt_of_lt_of_le (hS c hc) aW)).1 f2;have qH:O4.Perm (ι.own i):=f1.trans (e1.symm.trans hO);refine ⟨?_,vy (by rw [G8 he,n2]; exact e3) (Nat.lt_of_lt_of_le dp aW)⟩;have fH:r.1.size=e.ty.size:=F0 f3;cases e with
 | var t x =>
  obtain ⟨_,hf,gr⟩:=ho;have hf:N1 H (ι.root i).1 ((ι.root i).2+t.size):=hf;refine ⟨⟨O4,qH,f2'⟩,?_,gr⟩;have fH:r.1.size=t.size:=fH;show N1 H' (ι.root i).1 ((ι.root i).2+r.1.size);rw [fH];exact hf.s4 (dO _ (.inl ⟨rfl,jH ⟨_,_,rfl⟩⟩))
 | own t x =>
  obtain ⟨⟨O',_,fA⟩,gr⟩:=ho;refine ⟨⟨O4,qH,?_⟩,gr⟩;have fH:r.1.size=t.size:=fH;have:d9 (VH H' ι i (.own t x)) (VR H' ι i (.own t x)).1 (VR H' ι i (.own t x)).2 r.1.size=ι.cells i:=by
   simp only [VH,VR,d9,vL,List.drop_zero];exact List.take_of_length_le (by rw [fA.length,fH]; exact Nat.le_refl _)
  have f2'':g8 H' S r.1 O4 (d9 (VH H' ι i (.own t x)) (VR H' ι i (.own t x)).1 (VR H' ι i (.own t x)).2 r.1.size) r.2:=f2';rw [this] at f2'';exact f2''
 | K1=>exact absurd rfl he
theorem OB.same {i:Nat} {e:g9} (ho:OB H S ι i e) (bQ:∀ c∈l5 ι i e,¬ S c/\c<H.size) (hS:∀ c,S c->c<H.size) {p:List Step} (hk:(∃ t x,e=.var t x)\/∃ t x j q,e=.own (.d0 true t) x/\p=.idx j::q) (aM:w8 e.ty e.x p) {u:Ty} {y:u.den} (hg:j8 e.ty e.x p=some ⟨u,y⟩)
  {b off:Nat} (hl:Loc H ι i e p=some (b,off)) (aW:H.size<=H'.size) {Op:List Nat} (gF:g8 H S u Op (d9 H b off u.size) y) (hH:∀ c,c<H.size->c∉Op->H'[c]?=H[c]?) (fA:g8 H' S u Op (d9 H' b off u.size) y) :
  OB H' S ι i e/\Loc H' ι i e p=some (b,off):=by
 have h1:=OB.set ho bQ hS hk aM hg hl aW gF hH fA (Pr aM hg);have he:=J8 hl;have e9:e.D5 ⟨e.ty,e.x⟩=e:=by cases e<;>first|rfl|exact absurd rfl he
 rw [e9] at h1;exact h1
end
section
variable {E:Env} {B:D7} {S:Nat->Prop} {ι:Ix} {s:St} {a:Act} {w:World}
theorem AU {H:Array Go.Obj} {i:Nat} {e:g9} (ho:OB H S ι i e) (hS:∀ c,S c->c<H.size) {p:List Step} (jT:(∃ t x,e=.var t x)\/∃ t x j q,e=.own (.d0 true t) x/\p=.idx j::q) (aM:w8 e.ty e.x p) {u:Ty} {y:u.den} (hg:j8 e.ty e.x p=some ⟨u,y⟩) :
  ∃ b off,Loc H ι i e p=some (b,off):=by
 have cH:e≠.K1:=by rcases jT with ⟨_,_,rfl⟩|⟨_,_,_,_,rfl,_⟩<;>(intro h; cases h)
 obtain ⟨O,hO,hR,ep,gr,pd,fY,dV⟩:=ho.see cH hS;obtain ⟨O1,O3,b',aA,g1,g2,g3,g4,g5,g6⟩:=focus hR ep aM hg
 have cj:∀ c∈O1,c<H.size:=λ c hc=>ho.R7 cH (hO.mem_iff.1 (g1.mem_iff.2 (by simp [hc])));refine ⟨b',aA,vy (by rw [G8 cH]; exact g3) ?_⟩;rcases jT with ⟨t,x,rfl⟩|⟨t,x,j,q,rfl,rfl⟩
 ·rcases u5.range g2 hg g3 with ⟨h1,_⟩|h1
  ·rw [h1]; exact ho.2.1.lt
  ·exact cj _ h1
 ·obtain ⟨hi,c1,o1,cap,P1,P2,P3,e,e1,e2,e3,e4,e5,e6,e7⟩:=g2
  subst e;have e1':(u6 (VH H ι i (.own (.d0 true t) x)) (VR H ι i (.own (.d0 true t) x)).1)[(VR H ι i (.own (.d0 true t) x)).2]?=some (.slice (some ⟨c1,o1,none⟩) (List.length x) cap):=e1;simp only [g9.ty,x6,e1'] at g3;rcases u5.range e6 hg g3 with ⟨h1,_⟩|h1
  ·rw [h1]; exact cj _ (by simp)
  ·exact cj _ (by simp [h1])
theorem Zm {e:g9} {p:List Step} {r:Sigma Ty.den} (h:yf e p r=true):(∃ t x,e=.var t x)\/∃ t x,e=.own (.d0 true t) x/\(p=[]\/∃ j q,p=.idx j::q):=by
 unfold yf at h;split at h
 ·exact .inl ⟨_,_,rfl⟩
 ·simp only [Bool.and_eq_true] at h
  obtain ⟨_,h⟩:=h;split at h
  ·exact .inr ⟨_,_,rfl,.inl rfl⟩
  ·exact .inr ⟨_,_,rfl,.inr ⟨_,_,rfl⟩⟩
  ·cases h
 ·cases h
theorem QX {e:g9} {p:List Step} {r:Sigma Ty.den} (h:yf e p r=true):Ar e (e.D5 r):=by
 unfold yf at h;obtain ⟨r1,r2⟩:=r;split at h
 ·rename_i t x
  obtain rfl:r1=t:=of_decide_eq_true h;exact .inl ⟨r1,x,r2,rfl,rfl⟩
 ·rename_i t x
  simp only [Bool.and_eq_true] at h;obtain rfl:r1=.d0 true t:=of_decide_eq_true h.1;exact .inr (.inl ⟨t,x,r2,rfl,rfl⟩)
 ·cases h
theorem b65 {P:Program} (h:RS B S ι s a w) {i:Nat} {e:g9} (he:look i s.hp=some e) {p:List Step} (aM:w8 e.ty e.x p) {t0:Ty} {l:List t0.den} (hg:j8 e.ty e.x p=some ⟨.d0 true t0,l⟩) (ch:t0.shared=true)
  {b1 o1 cap:Nat} (hc:Cells w.heap ι i e p (.d0 true t0) [.slice (some ⟨b1,o1,none⟩) l.length cap]) (lh:1<=cap) {lo:Nat} {m:List t0.den} (iR:lo+m.length<=l.length) {news:List Value} (hN:i8 (g8 w.heap S t0) t0.size [] news m)
  {r:Sigma Ty.den} (aI:r8 e.ty e.x p (.d0 true t0) (l.take lo++m++l.drop (lo+m.length))=some r) (bO:yf e p r=true) :
  ∃ w' ι',(storeCells ⟨b1,o1+lo*t0.size,none⟩ news).run P w=.ok () w'/\RS B S ι' ((s.Y1 i e.Y2).w4 i (e.D5 r)) a w':=by
 have cH:e≠.K1:=Bm hc;obtain ⟨Op,m1,mn,hR⟩:=F8 h.hs he aM hg hc;have bQ:∀ c∈l5 ι i e,¬ S c/\c<w.heap.size:=λ c cV=>⟨(h.hs.bl i e he c cV).1,(h.hs.bl i e he c cV).2.2⟩;have fy:=hR;rcases hR with ⟨_,⟨A,c,e0,eM⟩,_⟩|⟨b2,o2,cap2,O',c1,c2,c3,c4,c5,rfl,c7⟩
 ·simp only [List.cons.injEq,Value.slice.injEq,and_true] at e0
  have:=eM rfl; omega
 simp only [List.cons.injEq,Value.slice.injEq,Option.some.injEq,Addr.mk.injEq,and_true,true_and] at c1;obtain ⟨⟨rfl,rfl⟩,rfl⟩:=c1;have gG:O'=[]:=i8.M8 (λ _ _ _ hr=>g8.M8 ch hr) c5;subst gG;have dG:b1∈l5 ι i e:=H8 (m1 b1 (by simp));have gP:=(bQ b1 dG).2;have ga:news.length=m.length*t0.size:=i8.length (λ _ _ _ h=>h.length) hN;have sk:lo*t0.size+m.length*t0.size<=l.length*t0.size:=by rw [<- Nat.add_mul]; exact Nat.mul_le_mul_right _ iR
 have sj:l.length*t0.size<=cap*t0.size:=Nat.mul_le_mul_right _ c2;obtain ⟨arr,T',⟨fz,e1,ef⟩,hn⟩:=c7;have dN:u6 w.heap b1=arr.toList:=by simp only [u6,e1]
 have jh:=Z5 (P:=P) b1 (o1+lo*t0.size) T' fz news 0 arr w ⟨e1,ef.imp id (·.2)⟩ (by omega) (λ v hv=>(i8.plain (λ _ _ _ hr=>hr.plain) hN v hv).1);simp only [Nat.add_zero] at jh;have iv:arr.toList.take (o1+lo*t0.size)++news++arr.toList.drop (o1+lo*t0.size+news.length)=over (u6 w.heap b1) (o1+lo*t0.size) news:=by rw [dN]; rfl
 rw [iv] at jh;obtain ⟨gi,cE⟩:=DC (w:=w) (b:=b1) (off:=o1+lo*t0.size) (cs:=news) ⟨arr,T',⟨fz,e1,ef.imp id (·.2)⟩,by omega⟩;generalize gJ:w.setRow b1 (over (u6 w.heap b1) (o1+lo*t0.size) news).toArray=w' at jh gi cE;have aW:w'.heap.size=w.heap.size:=by rw [<- gJ]; exact setRow_size
 have bm:E3 [b1] w w':=⟨by rw [<- gJ]; rfl,.of (by rw [<- gJ]; rfl) (by rw [<- gJ]; rfl),by rw [<- gJ]; rfl,by rw [aW]; exact Nat.le_refl _,λ c _ cz=>by rw [<- gJ]; exact setRow_other (by simpa using cz)⟩;have dV:S7 t0.isB w'.heap b1 (o1+cap*t0.size):=gi.FG ⟨arr,T',⟨fz,e1,ef⟩,hn⟩;have hlen:(l.take lo++m++l.drop (lo+m.length)).length=l.length:=by simp only [List.length_append,List.length_take,List.length_drop]; omega
 have kt:∀ {O:List Nat} {cs:List Value} {y:t0.den},g8 w.heap S t0 O cs y->g8 w'.heap S t0 O cs y:=by
  intro O cs y hr;have hO:=g8.M8 ch hr;subst hO;refine hr.s4 (λ c cV=>bm.frame c ?_ ?_) (λ _ h=>h)
  ·rcases cV with h9|h9
   ·cases h9
   ·exact h.hs.slt c h9
  ·rcases cV with h9|h9
   ·cases h9
   ·rintro h8
    have:c=b1:=by simpa using h8
    exact (bQ b1 dG).1 (this▸h9)
 have iA:∀ {cs:List Value} {l':List t0.den},i8 (g8 w.heap S t0) t0.size [] cs l'->i8 (g8 w'.heap S t0) t0.size [] cs l':=λ hr=>i8.mono (L:=[]) (λ _ h=>h) (λ _ _ _ _ hr=>kt hr) hr;have eF:∀ {k:Nat} {l':List t0.den} {O:List Nat} {cs:List Value},k<=l'.length->i8 (g8 w.heap S t0) t0.size O cs l'->i8 (g8 w.heap S t0) t0.size [] (cs.take (k*t0.size)) (l'.take k)/\i8 (g8 w.heap S t0) t0.size [] (cs.drop (k*t0.size)) (l'.drop k):=by
  intro k
  induction k with
  | zero =>
   intro l' O cs _ hr;have:=i8.M8 (λ _ _ _ hr=>g8.M8 ch hr) hr;subst this;simp only [Nat.zero_mul,List.take_zero,List.drop_zero];exact ⟨⟨rfl,rfl⟩,hr⟩
  | succ k ih =>
   intro l' O cs hk hr
   match l',hk,hr with
   | x::l',hk,⟨O1,O2,_,r1,r2⟩ =>
    obtain ⟨q1,q2⟩:=ih (by simpa using hk) r2;have e9:=g8.M8 ch r1;subst e9;refine ⟨⟨[],[],rfl,?_,?_⟩,?_⟩
    ·rw [List.take_take,Nat.min_eq_left (by rw [Nat.succ_mul]; omega)]; exact r1
    ·rw [List.drop_take,show (k+1)*t0.size - t0.size=k*t0.size by rw [Nat.succ_mul]; omega]; exact q1
    ·rw [List.drop_drop,show t0.size+k*t0.size=(k+1)*t0.size by rw [Nat.succ_mul]; omega] at q2; exact q2
 have bM:d9 w'.heap b1 o1 (l.length*t0.size)=(d9 w.heap b1 o1 (l.length*t0.size)).take (lo*t0.size)++news++(d9 w.heap b1 o1 (l.length*t0.size)).drop ((lo+m.length)*t0.size):=by
  have e3:l.length*t0.size=lo*t0.size+(news.length+(l.length - (lo+m.length))*t0.size):=by
   rw [ga,<- Nat.add_mul,<- Nat.add_mul]; congr 1; omega
  have e4:o1+lo*t0.size+news.length=o1+(lo+m.length)*t0.size:=by rw [ga,Nat.add_mul]; omega
  rw [m0 _ _ _ _ (by omega),n8];have e5:l.length*t0.size - (lo+m.length)*t0.size=(l.length - (lo+m.length))*t0.size:=by rw [Nat.sub_mul]
  rw [e5]
  conv=>lhs; rw [e3]
  rw [JW,JW,cE,e4,gi.cells gP (λ _=>.inl (Nat.le_refl _)),gi.cells gP (λ _=>.inr (by rw [ga,Nat.add_mul]; omega)),List.append_assoc]
 have qd:i8 (g8 w'.heap S t0) t0.size [] (d9 w'.heap b1 o1 (l.length*t0.size)) (l.take lo++m++l.drop (lo+m.length)):=by
  rw [bM];exact i8.append (λ _ _ _ h=>h.length) (i8.append (λ _ _ _ h=>h.length) (iA (eF (by omega) c5).1) (iA hN)) (iA (eF (by omega) c5).2)
 have fA:g8 w'.heap S (.d0 true t0) [b1] [.slice (some ⟨b1,o1,none⟩) l.length cap] (l.take lo++m++l.drop (lo+m.length)):=by
  refine .inr ⟨b1,o1,cap,[],by rw [hlen],by rw [hlen]; exact c2,c3,?_,by rw [hlen]; exact qd,rfl,dV⟩;rw [hlen];have:=dV.free.u6;omega
 have tE:∃ O,OB w'.heap S (ι.C3 i O) i (e.D5 r)/\∀ c∈l5 (ι.C3 i O) i (e.D5 r),c∈l5 ι i e:=by
  have bj:∀ (ob:OB w'.heap S ι i (e.D5 r)),∃ O,OB w'.heap S (ι.C3 i O) i (e.D5 r)/\∀ c∈l5 (ι.C3 i O) i (e.D5 r),c∈l5 ι i e:=by
   intro ob;refine ⟨ι.own i,?_,?_⟩
   ·cases e<;>simpa [OB,Ix.C3,g9.D5] using ob
   ·intro c cV
    cases e with
    | var t x=>simpa [l5,Ix.C3,g9.D5] using cV
    | own t x=>simpa [l5,Ix.C3,g9.D5] using cV
    | K1=>exact absurd rfl cH
  obtain ⟨b0,off0,cf,gB⟩:=hc;rcases Zm bO with ⟨t,x,rfl⟩|⟨t,x,rfl,hp⟩
  ·
   have mg:=aM;obtain ⟨b,off,hl⟩:=AU (h.hs.ob i _ he) h.hs.slt (.inl ⟨_,_,rfl⟩) aM hg;have ir:=(C1 hl).1;rw [cf] at ir; cases ir;have dL:=(C1 hl).2;obtain ⟨Oq,q1,q2,q3,q4,q5,q6⟩:=M2 cH (h.hs.ob i _ he) h.hs.slt aM hg hl;have mR:d9 w.heap b0 off0 1=[.slice (some ⟨b1,o1,none⟩) l.length cap]:=by
    rw [l4 (F3 dL)] at gB; exact gB.symm
   have qf:Oq=[b1]:=by
    have q3':g8 w.heap S (.d0 true t0) Oq [.slice (some ⟨b1,o1,none⟩) l.length cap] l:=by rw [<- mR]; exact q3
    exact q3'.det fy
   subst qf;have kU:=(h.hs.ob i _ he).yD cH h.hs.slt aM hg hl q3;have kR:d9 w'.heap b0 off0 1=[.slice (some ⟨b1,o1,none⟩) l.length cap]:=by
    rw [l4 (bm.frame b0 dL kU)]; exact mR
   exact bj (OB.set (h.hs.ob i _ he) bQ h.hs.slt (.inl ⟨_,_,rfl⟩) aM hg hl (by rw [aW]; exact Nat.le_refl _) q3 (λ c cO pJ=>bm.frame c cO pJ) (by
    show g8 w'.heap S (.d0 true t0) [b1] (d9 w'.heap b0 off0 1) _;rw [kR]; exact fA) aI).1
  ·
   rcases hp with rfl|⟨j,q,rfl⟩
   ·have jV:j8 (.d0 true t) x []=some ⟨.d0 true t0,l⟩:=hg
    rw [y9] at jV;simp only [Option.some.injEq,Sigma.mk.injEq,Ty.d0.injEq,true_and] at jV;obtain ⟨rfl,qp⟩:=jV;obtain rfl:x=l:=eq_of_heq qp;obtain ⟨⟨O9,rQ,qe⟩,oX⟩:=h.hs.ob i _ he;have iH:ι.cells i=[.slice (some ⟨b1,o1,none⟩) (List.length x) cap]:=by
     rw [G8 cH,x7] at cf;cases cf;have qL:(ι.cells i).length=1:=qe.length;simp only [VH,VR,d9,vL,List.drop_zero,Ty.size] at gB;rw [List.take_of_length_le (by omega)] at gB;exact gB.symm
    have jI:r8 (.d0 true t) x [] (.d0 true t) (x.take lo++m++x.drop (lo+m.length))=some r:=aI;have hr:r=⟨.d0 true t,x.take lo++m++x.drop (lo+m.length)⟩:=by
     simp only [r8,if_true,Option.some.injEq] at jI;exact jI.symm
    subst hr;rw [iH] at qe;have tF:O9=[b1]:=qe.det fy;subst tF;refine bj ⟨⟨[b1],rQ,?_⟩,oX⟩;rw [iH]; exact fA
   ·obtain ⟨b,off,hl⟩:=AU (h.hs.ob i _ he) h.hs.slt (.inr ⟨_,_,_,_,rfl,rfl⟩) aM hg
    have ir:=(C1 hl).1;rw [cf] at ir; cases ir;have dL:=(C1 hl).2;obtain ⟨Oq,q1,q2,q3,q4,q5,q6⟩:=M2 cH (h.hs.ob i _ he) h.hs.slt aM hg hl;have mR:d9 w.heap b0 off0 1=[.slice (some ⟨b1,o1,none⟩) l.length cap]:=by
     rw [l4 (F3 dL)] at gB; exact gB.symm
    have qf:Oq=[b1]:=by
     have q3':g8 w.heap S (.d0 true t0) Oq [.slice (some ⟨b1,o1,none⟩) l.length cap] l:=by rw [<- mR]; exact q3
     exact q3'.det fy
    subst qf;have kU:=(h.hs.ob i _ he).yD cH h.hs.slt aM hg hl q3;have kR:d9 w'.heap b0 off0 1=[.slice (some ⟨b1,o1,none⟩) l.length cap]:=by
     rw [l4 (bm.frame b0 dL kU)]; exact mR
    exact bj (OB.set (h.hs.ob i _ he) bQ h.hs.slt (.inr ⟨_,_,_,_,rfl,rfl⟩) aM hg hl (by rw [aW]; exact Nat.le_refl _) q3 (λ c cO pJ=>bm.frame c cO pJ) (by
     show g8 w'.heap S (.d0 true t0) [b1] (d9 w'.heap b0 off0 1) _;rw [kR]; exact fA) aI).1
 obtain ⟨O,aS,nS⟩:=tE;refine ⟨w',_,jh,h.renew he (QX bO) E8.nil (L:=l5 ι i e) (bm.mono (by simpa using dG)) (λ b hb=>.inl hb) (λ _ h=>h) (λ _ h=>.inl h) (O':=O) aS (λ c cV=>?_)⟩;have:=h.hs.bl i e he c (nS c cV);exact ⟨this.1,.inr (nS c cV),by rw [aW]; exact this.2.2⟩
theorem Zn (h:RS B S ι s a w) {i:Nat} {e:g9} (he:look i s.hp=some e) {p:List Step} {r:Sigma Ty.den} (bO:yf e p r=true) (hr:e.D5 r=e):∃ ι',RS B S ι' ((s.Y1 i e.Y2).w4 i (e.D5 r)) a w:=by
 have eO:=QX bO;rw [hr] at eO ⊢;have hs:ι.C3 i (ι.own i)=ι:=by
  cases ι with
  | mk r c o =>
   simp only [Ix.C3,Ix.mk.injEq,true_and]
   funext j
   split
   ·rename_i e9; rw [e9]
   ·rfl
 exact ⟨_,h.renew he eO E8.nil (L:=l5 ι i e) ⟨rfl,.refl _,rfl,Nat.le_refl _,λ _ _ _=>rfl⟩ (λ b hb=>.inl hb) (λ _ h=>h) (λ _ h=>.inl h) (O':=ι.own i) (by rw [hs]; exact h.hs.ob i e he) (λ c cV=>by
  rw [hs] at cV;have:=h.hs.bl i e he c cV;exact ⟨this.1,.inr cV,this.2.2⟩)⟩
theorem GP (h:RS B S ι s a w) {v:AV} {val:Value} (hv:VX w.heap S ι s.hp v [val]) {i:Nat} {p:List Step} {lo hi:Int} (hd:v.vF s=some (i,p,lo,hi)) :
  ∃ e t0 l A cap c A',look i s.hp=some e/\w8 e.ty e.x p/\j8 e.ty e.x p=some ⟨.d0 true t0,l⟩/\Cells w.heap ι i e p (.d0 true t0) [.slice A (List.length l) cap]/\0<=lo/\lo<=hi/\hi<=(List.length l:Int) /\
   val=.slice A' (hi - lo).toNat c/\(c≠0->A'=A.map (·.add (lo.toNat*t0.size)))/\(hi - lo).toNat<=c:=by
 unfold AV.vF at hd;split at hd
 ·rename_i j q
  split at hd
  ·rename_i t0 l cR
   cases hd;obtain ⟨e,u,y,cs,h1,h2,h3,h4,h5⟩:=hv;have hg:=G9 h1 cR;rw [h3] at hg; cases hg;obtain ⟨O2,m1,m2,m3⟩:=F8 h.hs h1 h2 h3 h4;obtain ⟨A,cap,cE,hle⟩:∃ A cap,cs=[.slice A (List.length l) cap]/\List.length l<=cap:=by
    rcases m3 with ⟨_,⟨A,c,e0,eM⟩,hl⟩|⟨b2,o2,cap2,O',c1,c2,_⟩
    ·subst hl; exact ⟨A,c,e0,Nat.zero_le _⟩
    ·exact ⟨_,_,c1,c2⟩
   subst cE;refine ⟨e,t0,l,A,cap,cap,A,h1,h2,h3,h4,Int.le_refl _,by omega,Int.le_refl _,?_,λ _=>?_,by omega⟩
   ·have h5:val=.slice A (List.length l) cap:=by simpa [o8,Ty.agg] using h5
    rw [h5,show ((List.length l:Int) - 0).toNat=List.length l by omega]
   ·cases A with
    | none=>rfl
    | some A=>simp [Addr.add]
  ·cases hd
 ·rename_i j q lo' cU
  split at hd
  ·rename_i t0 l cR
   cases hd;obtain ⟨e,v',h1,h2,h3,h4,h5,h6⟩:=hv;have hg:=G9 h1 cR;cases h3;rcases h6 with ⟨t1,l1,A,cap,k1,k2,k3,c,A',k4,k5,k6,k7⟩|⟨n,t1,l1,b,off,k1,_,_,_⟩
   ·rw [k1] at hg; cases hg
    exact ⟨e,t0,l,A,cap,c,A',h1,h2,k1,k3,h4,h5,k2,k4,k5,k6⟩
   ·rw [k1] at hg; cases hg
  ·cases hd
 ·cases hd
theorem XI {t:Ty} {O:List Nat} {cs:List Value} {l:List t.den} (ch:t.shared=true) (hr:i8 (g8 w.heap S t) t.size O cs l):∀ {k:Nat},i8 (g8 w.heap S t) t.size [] (cs.take (k*t.size)) (l.take k):=by
 have hO:=i8.M8 (λ _ _ _ hr=>g8.M8 ch hr) hr;subst hO;intro k
 induction k generalizing cs l with
 | zero=>simp only [Nat.zero_mul,List.take_zero]; exact ⟨rfl,rfl⟩
 | succ k ih =>
  match l,hr with
  | [],⟨_,e⟩=>subst e; simp only [List.take_nil]; exact ⟨rfl,rfl⟩
  | x::l,⟨O1,O2,e,r1,r2⟩ =>
   obtain ⟨rfl,rfl⟩:=List.append_eq_nil_iff.1 e.symm;refine ⟨[],[],rfl,?_,?_⟩
   ·rw [List.take_take,Nat.min_eq_left (by rw [Nat.succ_mul]; omega)]; exact r1
   ·rw [List.drop_take,show (k+1)*t.size - t.size=k*t.size by rw [Nat.succ_mul]; omega]; exact ih r2
theorem JX {P:Program} (h:RS B S ι s a w) {v:AV} {val:Value} (hv:VX w.heap S ι s.hp v [val]) {i:Nat} {p:List Step} {lo hi:Int} (hd:v.vF s=some (i,p,lo,hi)) {t:Ty} {m:List t.den} (hm:(m.length:Int)<=hi - lo) {news:List Value} (hN:i8 (g8 w.heap S t) t.size [] news m)
  {s':St} (hf:vj s i p lo.toNat t m=some s'):∃ w' ι' A' c,val=.slice A' (hi - lo).toNat c/\RS B S ι' s' a w'/\((A'=none/\m=[]/\w'=w)\/∃ A,A'=some A/\(storeCells A news).run P w=.ok () w'):=by
 obtain ⟨e,t0,l,A,cap,c,A',h1,h2,h3,h4,h5,h6,h7,h8,h9,iZ⟩:=GP h hv hd;unfold vj at hf;have aS:s.obj i=some e:=h1;rw [aS] at hf;simp only [h3] at hf;split at hf
 ·rename_i ht
  subst ht;split at hf
  ·rename_i r aI
   split at hf
   ·rename_i hc
    simp only [Bool.and_eq_true] at hc;cases hf;have aI:r8 e.ty e.x p (.d0 true t) (l.take lo.toNat++m++l.drop (lo.toNat+m.length))=some r:=aI;by_cases gZ:m=[]
    ·subst gZ
     have dd:news=[]:=hN.2;subst dd;have bj:r8 e.ty e.x p (.d0 true t) l=some r:=by
      rw [<- aI]; congr 1; simp
     have hr:r=⟨e.ty,e.x⟩:=by
      have:=Pr h2 h3;rw [bj] at this; cases this; rfl
     have ot:e.D5 r=e:=by
      rw [hr];cases e with
      | K1=>rfl
      | _=>rfl
     obtain ⟨ι',cq⟩:=Zn h h1 hc.2 ot;refine ⟨w,ι',A',c,h8,cq,?_⟩;cases A' with
     | none=>exact .inl ⟨rfl,rfl,rfl⟩
     | some A=>exact .inr ⟨A,rfl,by simp [storeCells]⟩
    ·have gY:1<=m.length:=List.length_pos_iff.2 gZ
     have eM:c≠0:=by omega
     have hA:=h9 eM;obtain ⟨Op,m1,mn,hR⟩:=F8 h.hs h1 h2 h3 h4;rcases hR with ⟨_,⟨A9,c9,e0,ur⟩,hl⟩|⟨b2,o2,cap2,O',c1,c2,c3,_⟩
     ·rw [hl] at h7; simp at h7; omega
     ·simp only [List.cons.injEq,Value.slice.injEq,and_true,true_and] at c1
      obtain ⟨rfl,rfl⟩:=c1;obtain ⟨w',ι',k1,k2⟩:=b65 (P:=P) h h1 h2 h3 hc.1 h4 (c3.2 rfl) (lo:=lo.toNat) (m:=m) (by omega) hN aI hc.2;refine ⟨w',ι',A',c,h8,k2,.inr ⟨⟨b2,o2+lo.toNat*t.size,none⟩,by rw [hA]; simp [Addr.G7],k1⟩⟩
   ·cases hf
  ·cases hf
 ·cases hf
end
end Go.Ex
namespace Go.Ex
theorem Pw {P:Program} {k:Nat} {T:TypeId} {t:Ty} (h:o6 P k T (.hole t)=true):∃ e,P.underlying T=some (.slice e):=by
 cases k with
 | zero=>simp [o6] at h
 | succ k =>
  obtain ⟨d,h1,h2⟩:=P6 h;simp only [o6,Bool.and_eq_true,h1] at h;obtain ⟨_,h⟩:=h;cases d<;>first|(exact (Bool.false_ne_true h).elim)|skip
  ·exact ⟨_,h1⟩
  ·rename_i fs
   have h:l8 (o6 P k) fs.toList 0 (.hole t)=true:=h;cases hf:fs.toList<;>(rw [hf] at h; simp [l8] at h)
theorem Oh {P:Program} {k:Nat} {T:TypeId} {t:Ty} (h:o6 P k T (.y7 t)=true):∃ e,P.underlying T=some (.slice e):=by
 cases k with
 | zero=>simp [o6] at h
 | succ k =>
  obtain ⟨d,h1,h2⟩:=P6 h;simp only [o6,Bool.and_eq_true,h1] at h;obtain ⟨_,h⟩:=h;cases d<;>first|(exact (Bool.false_ne_true h).elim)|skip
  ·exact ⟨_,h1⟩
  ·rename_i fs
   have h:l8 (o6 P k) fs.toList 0 (.y7 t)=true:=h;cases hf:fs.toList<;>(rw [hf] at h; simp [l8] at h)
section
variable {E:Env} {B:D7} {S S':Nat->Prop} {ι:Ix} {s:St} {a:Act} {w:World} {hp:List (Nat×g9)} {H H':Array Go.Obj}
theorem Rf {P:Program} {e:TypeId} {t:Ty} {n d:Nat} (hT:o6 P n e t=true)
  (hA:∀ {cs cs':List Value} {x y:t.den},g8 H S t [] cs x->g8 H' S' t [] cs' y->(Op.equalIn d e (o8 t cs) (o8 t cs')).run P w=.ok (Z3 t x y) w) {cs cs':List Value} :
  ∀ {l l':List t.den} {k:Nat},l.length=l'.length->i8 (g8 H S t) t.size [] (cs.drop (k*t.size)) l->i8 (g8 H' S' t) t.size [] (cs'.drop (k*t.size)) l' ->
   (Op.eqItems d e t.size cs.toArray cs'.toArray (List.range' k l.length)).run P w=.ok (Z3.zQ (Z3 t) l l') w
 | [],[],k,_,_,_=>by simp [Op.eqItems,Z3.zQ]
 | [],_::_,_,h,_,_=>by cases h
 | _::_,[],_,h,_,_=>by cases h
 | x::l,y::l',k,hl,⟨O1,O2,e1,h1,h2⟩,⟨O3,O4,e2,h3,h4⟩=>by
  obtain ⟨rfl,rfl⟩:=List.append_eq_nil_iff.1 e1.symm;obtain ⟨rfl,rfl⟩:=List.append_eq_nil_iff.1 e2.symm;have p1:=xM (w:=w) hT h1;have p2:=xM (w:=w) hT h3;have e3:=hA h1 h3;have hk:k*t.size+t.size=(k+1)*t.size:=by rw [Nat.succ_mul]
  rw [List.drop_drop,hk] at h2 h4;have ih:=Rf hT hA (l:=l) (l':=l') (k:=k+1) (by simpa using hl) h2 h4;simp only [List.length_cons,List.range'_succ,Op.eqItems,Sem.run_bind,p1,p2,Result.andThen,e3,Z3.zQ];cases hq:Z3 t x y with
  | true=>simpa using ih
  | false=>simp
theorem run_eq {P:Program}:∀ (t:Ty),
  (∀ {n m d:Nat} {T:TypeId} {cs cs':List Value} {x y:t.den},o6 P n T t=true->W9 P m T t=true->t.ht<d->g8 H S t [] cs x->g8 H' S' t [] cs' y->(Op.equalIn d T (o8 t cs) (o8 t cs')).run P w=.ok (Z3 t x y) w) /\
  (∀ {n m d off:Nat} {fs:List Field} {cs cs':List Value} {x y:t.den},l8 (o6 P n) fs off t=true->xp (W9 P m) fs t=true->t.ht<=d->g8 H S t [] ((cs.drop off).take t.size) x->g8 H' S' t [] ((cs'.drop off).take t.size) y ->
   (Op.eqFields d cs.toArray cs'.toArray fs).run P w=.ok (Z3 t x y) w):=by
 intro t;have strct:∀ {t:Ty},t.agg=true->(∀ n u,t≠.arr n u) ->
  (∀ {n m d off:Nat} {fs:List Field} {cs cs':List Value} {x y:t.den},l8 (o6 P n) fs off t=true->xp (W9 P m) fs t=true->t.ht<=d->g8 H S t [] ((cs.drop off).take t.size) x->g8 H' S' t [] ((cs'.drop off).take t.size) y ->
   (Op.eqFields d cs.toArray cs'.toArray fs).run P w=.ok (Z3 t x y) w) ->
  (∀ {n m d:Nat} {T:TypeId} {cs cs':List Value} {x y:t.den},o6 P n T t=true->W9 P m T t=true->t.ht<d->g8 H S t [] cs x->g8 H' S' t [] cs' y->(Op.equalIn d T (o8 t cs) (o8 t cs')).run P w=.ok (Z3 t x y) w):=by
  intro t du lv hB n m d T cs cs' x y hT hq hd h1 h2;obtain ⟨fs,k',g1,g2⟩:=Kd hT du lv;have gg:P.underlying T=some (.struct (P.fieldsOf T)):=by simp [Program.fieldsOf,g1]
  have fS:P.fieldsOf T=fs:=by rw [g1] at gg; cases gg; rfl
  cases m with
  | zero=>simp [W9] at hq
  | succ m =>
   have hq:(!P.stoodInHeld T && xp (W9 P m) fs.toList t)=true:=by
    simp only [W9,g1] at hq;exact hq
   simp only [Bool.and_eq_true,Bool.not_eq_true'] at hq;obtain ⟨d,rfl⟩:∃ e,d=e+1:=⟨d - 1,by omega⟩;have hv:∀ cs,o8 t cs=.agg cs.toArray:=by intro cs; simp [o8,du]
   rw [hv,hv,run_equalIn_struct w d T _ _ gg hq.1,fS];refine hB g2 hq.2 (by omega) ?_ ?_
   ·rw [List.drop_zero,List.take_of_length_le (by rw [h1.length]; exact Nat.le_refl _)]; exact h1
   ·rw [List.drop_zero,List.take_of_length_le (by rw [h2.length]; exact Nat.le_refl _)]; exact h2
 induction t with
 | int k =>
  refine ⟨?_,by intro n m d off fs cs cs' x y h; cases fs<;>simp [l8] at h⟩;rintro n m d T cs cs' x y hT _ hd ⟨_,rfl,_⟩ ⟨_,rfl,_⟩;obtain ⟨d,rfl⟩:∃ e,d=e+1:=⟨d - 1,by omega⟩;exact run_equalIn_int w d T k k x y (xN hT)
 | bool =>
  refine ⟨?_,by intro n m d off fs cs cs' x y h; cases fs<;>simp [l8] at h⟩;rintro n m d T cs cs' x y hT _ hd ⟨_,rfl⟩ ⟨_,rfl⟩;obtain ⟨d,rfl⟩:∃ e,d=e+1:=⟨d - 1,by omega⟩;exact run_equalIn_bool (DD hT) d x y
 | str =>
  refine ⟨?_,by intro n m d off fs cs cs' x y h; cases fs<;>simp [l8] at h⟩;rintro n m d T cs cs' x y hT _ hd ⟨_,rfl,_⟩ ⟨_,rfl,_⟩;obtain ⟨d,rfl⟩:∃ e,d=e+1:=⟨d - 1,by omega⟩;have:=run_equalIn_string w d T (⟨(x:yY).toArray⟩:ByteArray) ⟨(y:yY).toArray⟩ (W2 hT);refine Eq.trans this ?_;rw [ByteArray.toList_eq,ByteArray.toList_eq];congr 1;show ((x:yY) == y)=decide ((x:yY)=y);rw [Bool.eq_iff_iff]; simp
 | unit =>
  have hB:∀ {n m d off:Nat} {fs:List Field} {cs cs':List Value} {x y:Ty.unit.den},l8 (o6 P n) fs off .unit=true->xp (W9 P m) fs .unit=true->Ty.unit.ht<=d->g8 H S .unit [] ((cs.drop off).take Ty.unit.size) x->g8 H' S' .unit [] ((cs'.drop off).take Ty.unit.size) y ->
   (Op.eqFields d cs.toArray cs'.toArray fs).run P w=.ok (Z3 .unit x y) w:=by
   intro n m d off fs cs cs' x y h _ _ _ _;cases fs with
   | nil=>simp [Op.eqFields,Z3]
   | cons f fs=>simp [l8] at h
  exact ⟨strct rfl (by simp) hB,hB⟩
 | pair p q ihp ihq =>
  have hB:∀ {n m d off:Nat} {fs:List Field} {cs cs':List Value} {x y:(Ty.pair p q).den},l8 (o6 P n) fs off (.pair p q)=true->xp (W9 P m) fs (.pair p q)=true->(Ty.pair p q).ht<=d ->
    g8 H S (.pair p q) [] ((cs.drop off).take (Ty.pair p q).size) x->g8 H' S' (.pair p q) [] ((cs'.drop off).take (Ty.pair p q).size) y->(Op.eqFields d cs.toArray cs'.toArray fs).run P w=.ok (Z3 (.pair p q) x y) w:=by
   rintro n m d off fs cs cs' x y hf hq hd ⟨O1,O2,e1,h1,h2⟩ ⟨O3,O4,e2,h3,h4⟩;obtain ⟨rfl,rfl⟩:=List.append_eq_nil_iff.1 e1.symm;obtain ⟨rfl,rfl⟩:=List.append_eq_nil_iff.1 e2.symm;cases fs with
   | nil=>simp [l8] at hf
   | cons f fs =>
    simp only [l8,Bool.and_eq_true] at hf;simp only [xp,Bool.and_eq_true] at hq;obtain ⟨⟨⟨⟨g1,_⟩,g3⟩,g4⟩,g5⟩:=hf;have g1:f.offset=off:=Nat.eq_of_beq_eq_true g1;have sD:p.ht+1<=d/\q.ht<=d:=by
     have:max (p.ht+1) q.ht<=d:=hd;omega
    have aW:(Ty.pair p q).size=p.size+q.size:=rfl;rw [List.take_take,Nat.min_eq_left (by omega)] at h1 h3;rw [List.drop_take,List.drop_drop,aW,Nat.add_sub_cancel_left] at h2 h4;rw [<- g1] at h1 h3;have p1:=xM (w:=w) g3 h1;have p2:=xM (w:=w) g3 h3;have e3:=ihp.1 (d:=d) g3 hq.1 (by omega) h1 h3;have ih:=ihq.2 (d:=d) (cs:=cs) (cs':=cs') g5 hq.2 sD.2 h2 h4;have hn:f.name≠ "_":=by simpa using g4
    simp only [Op.eqFields,hn,ne_eq,not_false_eq_true,if_true,Sem.run_bind,p1,p2,Result.andThen,e3,Z3];cases hh:Z3 p x.1 y.1 with
    | true=>simpa using ih
    | false=>simp
  exact ⟨strct rfl (by simp) hB,hB⟩
 | arr k t ih =>
  refine ⟨?_,by intro n m d off fs cs cs' x y h; cases fs<;>simp [l8] at h⟩;rintro n m d T cs cs' x y hT hq hd ⟨h1,h2⟩ ⟨h3,h4⟩;obtain ⟨e,k',g1,g2,g3⟩:=xf hT;cases m with
  | zero=>simp [W9] at hq
  | succ m =>
   have hq:W9 P m e t=true:=by simpa only [W9,g1] using hq
   obtain ⟨d,rfl⟩:∃ e,d=e+1:=⟨d - 1,by omega⟩;obtain ⟨i,hi,sB,_⟩:=V4 g3;have hc:P.cellsOf e=t.size:=by simp [Program.cellsOf,hi,sB]
   have hv:∀ cs,o8 (.arr k t) cs=.agg cs.toArray:=λ cs=>rfl;have jW:t.ht<d:=by have:t.ht+1<d+1:=hd; omega
   rw [hv,hv,run_equalIn_array w d _ _ g1 hi,hc,List.range_eq_range'];have:=Rf (w:=w) (cs:=cs) (cs':=cs') (l:=x) (l':=y) (k:=0) g3 (λ a b=>ih.1 g3 hq jW a b) (by rw [h1,h3]) (by simpa using h2) (by simpa using h4);rw [h1] at this;exact this
 | fn f =>
  refine ⟨?_,by intro n m d off fs cs cs' x y h; cases fs<;>simp [l8] at h⟩;rintro n m d T cs cs' x y hT hq;obtain ⟨_,_,_,g1⟩:=MM hT;cases m<;>simp [W9,g1] at hq
 | map o a b =>
  refine ⟨?_,by intro n m d off fs cs cs' x y h; cases fs<;>simp [l8] at h⟩;rintro n m d T cs cs' x y hT hq;obtain ⟨_,_,_,g1,_⟩:=Ie hT;cases m<;>simp [W9,g1] at hq
 | box o g t =>
  refine ⟨?_,by intro n m d off fs cs cs' x y h; cases fs<;>simp [l8] at h⟩;rintro n m d T cs cs' x y hT hq;cases g with
  | none =>
   obtain ⟨_,_,g1,_⟩:=Ic hT;cases m<;>simp [W9,g1] at hq
  | some f =>
   obtain ⟨_,_,_,g1⟩:=Pv hT;cases m<;>simp [W9,g1] at hq
 | d0 o t ih =>
  refine ⟨?_,by intro n m d off fs cs cs' x y h; cases fs<;>simp [l8] at h⟩;rintro n m d T cs cs' x y hT hq;obtain ⟨e,k',g1,_⟩:=F4 hT;cases m<;>simp [W9,g1] at hq
 | hole t ih =>
  refine ⟨?_,by intro n m d off fs cs cs' x y h; cases fs<;>simp [l8] at h⟩;rintro n m d T cs cs' x y hT hq;obtain ⟨e,g1⟩:=Pw hT;cases m<;>simp [W9,g1] at hq
 | y7 t ih =>
  refine ⟨?_,by intro n m d off fs cs cs' x y h; cases fs<;>simp [l8] at h⟩;rintro n m d T cs cs' x y hT hq;obtain ⟨e,g1⟩:=Oh hT;cases m<;>simp [W9,g1] at hq
theorem PU (hE:C4 E B) (h:RS B S ι s a w) {o:Oper} {op:BinOp} {T T':TypeId} {x y:Operand} (ho:o.op=.binOp op T x y T') {t u:Ty} {p:t.den} {q:u.den} (hx:s.ev x=.val t p) (hy:s.ev y=.val u q):E6 E.P B o a w (eqA E T op t p u q s):=by
 unfold eqA
 split
 ·rename_i hu
  subst hu;have core:(u.agg && I8 E T u && W9 E.P 100 T u && !(E.P.eqGuardType E.P.depth T) && Nat.blt u.ht 100)=true ->
    ∃ cs cs',a.eval x=.agg cs/\a.eval y=.agg cs'/\(∀ op,(eqGuard op T x y (a.eval x) (a.eval y)).run E.P w=.ok () w)/\(Op.equalIn 10000 T (.agg cs) (.agg cs')).run E.P w=.ok (Z3 u p q) w:=by
   intro hc;simp only [Bool.and_eq_true,Bool.not_eq_true',Nat.blt_eq] at hc;obtain ⟨⟨⟨⟨c1,c2⟩,c3⟩,c4⟩,c5⟩:=hc;obtain ⟨cs,e1,h1⟩:=B9 h hx;obtain ⟨cs',e2,h2⟩:=B9 h hy;have hv:∀ cs,o8 u cs=.agg cs.toArray:=by intro cs; simp [o8,c1]
   have e1:a.eval x=.agg cs.toArray:=by rw [hv] at e1; simpa using e1
   have e2:a.eval y=.agg cs'.toArray:=by rw [hv] at e2; simpa using e2
   refine ⟨_,_,e1,e2,λ op=>by rw [e1,e2]; exact run_eqGuard_agg w op T x y _ _ c4,?_⟩;have:=(run_eq (P:=E.P) (w:=w) (H:=w.heap) (H':=w.heap) (S:=S) (S':=S) u).1 (d:=10000) (C6 hE c2) c3 (by omega) h1 h2
   rwa [hv,hv] at this
  split
  ·rename_i hc
   obtain ⟨cs,cs',e1,e2,hg,he⟩:=core hc;refine y6.value (val:=.bool (Z3 u p q)) ?_ h VX.bool;rw [R6 ho (hg .eql) (r:=.ok (.bool (Z3 u p q)) w)]; rfl;rw [e1,e2,run_eql_struct,he]; rfl
  ·rename_i hc
   obtain ⟨cs,cs',e1,e2,hg,he⟩:=core hc;refine y6.value (val:=.bool (!(Z3 u p q))) ?_ h VX.bool;rw [R6 ho (hg .neq) (r:=.ok (.bool (!(Z3 u p q))) w)]; rfl;rw [e1,e2,run_neq_struct,he]; rfl
  ·trivial
 ·trivial
theorem YZ (hE:C4 E B) (h:RS B S ι s a w) {o:Oper} {op:BinOp} {T T':TypeId} {x y:Operand} (ho:o.op=.binOp op T x y T') {i:Nat} {p:List Step} (ex:s.ev x=.ptr i p) (ey:s.ev y=.raw (.pointer none)):E6 E.P B o a w (yI E T op s):=by
 have hx:=h.ev x;have hy:=h.ev y;rw [ex] at hx; rw [ey] at hy;obtain ⟨e,b,off,-,-,-,hx⟩:=hx;have hx:a.eval x=.pointer (some ⟨b,off,none⟩):=by simpa using hx
 have hy:a.eval y=.pointer none:=by
  have hy:[a.eval y]=[Value.pointer none]:=hy;simpa using hy
 have hg:(eqGuard op T x y (a.eval x) (a.eval y)).run E.P w=.ok () w:=by rw [hx,hy]; cases op<;>rfl
 have run:∀ {o':Bool} {t:Ty} {n:Nat},look T E.tt=some ⟨.box o' none t,n⟩->(Op.equal T (.pointer (some ⟨b,off,none⟩)) (.pointer none)).run E.P w=.ok false w:=by
  intro o' t n hl;obtain ⟨e',k',h1,-⟩:=Ic (p7 (B:=B) hE hl);have key:∀ d,(Op.equalIn (d+1) T (.pointer (some ⟨b,off,none⟩)) (.pointer none)).run E.P w=.ok false w:=λ d=>by simp [Op.equalIn,s8 h1]
  exact key 9999
 unfold yI
 split
 ·rename_i hl
  exact y6.value (by rw [R6 ho hg (r:=.ok (.bool false) w)]; rfl; rw [hx,hy]; simp [binOp,run hl]) h VX.bool
 ·rename_i hl
  exact y6.value (by rw [R6 ho hg (r:=.ok (.bool true) w)]; rfl; rw [hx,hy]; simp [binOp,run hl]) h VX.bool
 ·trivial
theorem YL (hE:C4 E B) (h:RS B S ι s a w) {o:Oper} {op:BinOp} {T T':TypeId} {x y:Operand} (ho:o.op=.binOp op T x y T'):E6 E.P B o a w (vU E T op (s.ev x) (s.ev y) s):=by
 unfold vU
 split
 ·rename_i e1 e2; exact YZ hE h ho e1 e2
 ·rename_i e1 e2; exact PU hE h ho e1 e2
 ·rename_i e1 e2; exact PU hE h ho e1 e2
 ·exact YK hE h ho
end
end Go.Ex
namespace Go.Ex
section
variable {E:Env} {B:D7} {S S':Nat->Prop} {ι:Ix} {s:St} {a:Act} {w:World} {hp:List (Nat×g9)} {H H':Array Go.Obj}
theorem TF (h:HS B S ι s.hp w) {v:AV} {val:Value} (hv:VX w.heap S ι s.hp v [val]) {k u:Ty} {m:Option (List (k.den×u.den))} (hm:v.mp s=some ⟨(k,u),m⟩) :
  (m=none/\val=.map none)\/∃ l b es ck,m=some l/\val=.map (some b)/\w.heap[b]?=some (.map es ck)/\uG (g8 w.heap S k []) (g8 w.heap S u []) k u es.toList l:=by
 have key:∀ {o:Bool} {O:List Nat} {cs:List Value},g8 w.heap S (.map o k u) O cs m->val=o8 (.map o k u) cs->(m=none/\val=.map none)\/∃ l b es ck,m=some l/\val=.map (some b)/\w.heap[b]?=some (.map es ck)/\uG (g8 w.heap S k []) (g8 w.heap S u []) k u es.toList l:=by
  rintro o O cs (⟨h1,_,rfl⟩|⟨l,b,es,ck,h1,rfl,h3,h4,_⟩) e
  ·exact .inl ⟨h1,by simpa [o8,Ty.agg] using e⟩
  ·exact .inr ⟨l,b,es,ck,h1,by simpa [o8,Ty.agg] using e,h3,h4⟩
 unfold AV.mp at hm;split at hm
 ·cases hm
  obtain ⟨cs,e,hR⟩:=hv;exact key hR (by simpa using e)
 ·rename_i i p
  split at hm
  ·rename_i o k' v' m' cR
   cases hm;obtain ⟨e,u',y,cs,k1,k2,k3,k4,k5⟩:=hv;have hg:=G9 k1 cR;rw [k3] at hg; cases hg;obtain ⟨O2,m1,m2,m3⟩:=F8 h k1 k2 k3 k4;exact key m3 (by simpa using k5)
  ·cases hm
 ·cases hm
theorem b3B (hE:C4 E B) (h:RS B S ι s a w) {o:Oper} {T:TypeId} {x y:Operand} {ok:Bool} (ho:o.op=.lookup T x y ok):E6 E.P B o a w (GX E T (s.ev x) (s.ev y) ok s):=trivial
theorem b3A (_hE:C4 E B) (h:RS B S ι s a w) {o:Oper} {T:TypeId} {r:Option Operand} (ho:o.op=.makeMap T r):E6 E.P B o a w (l7 E o s):=by
 unfold l7; rw [ho]; trivial
theorem b3N (hE:C4 E B) (h:RS B S ι s a w) {o:Oper} {c:Call} (ho:o.op=.call c) (hc:c.callee=.builtin .append) {x y:Operand} {T U:TypeId} (ha:c.args.toList=[x,y]) (eW:c.argTypes.toList=[T,U])
  {kd:IntKind} (hU:E.P.underlying U=some (.int kd)):E6 E.P B o a w (zr E T (s.ev x) (s.ev y) o.dst s):=by
 unfold zr
 split
 ·rename_i t0 bts d k n hT hd hx hy
  refine E6.GY (λ v s' hl hp=>?_);have dd:@LE.le Int Int.instLEInt 0 n:=hp.1;obtain ⟨N,rfl⟩:∃ N:Nat,n=((N:Nat):Int):=⟨Int.toNat n,(Int.toNat_of_nonneg dd).symm⟩;have cH:N<=140737488355328:=by have:@LE.le Int Int.instLEInt (N:Int) 140737488355328:=hp.2.1; omega
  have gN:N*t0.wb<=140737488355328:=by
   have:@LE.le Int Int.instLEInt ((N:Int)*(t0.wb:Nat)) 140737488355328:=hp.2.2;rw [<- Int.natCast_mul] at this;omega
  obtain ⟨et,k2,h1,h2,h3⟩:=F4 (p7 hE hT);obtain ⟨i,hi,ez,kJ⟩:=V4 h3;have lC:=Jo h3 hi;have eg:a.eval x=.slice none 0 0:=by simpa using (show [a.eval x]=[Value.slice none 0 0] from B9 h hx)
  obtain ⟨dH,_⟩:=VX.H2 (B9 h hy);have aF:c.args=#[x,y]:=by rw [<- ha]
  have eA:c.argTypes=#[T,U]:=by rw [<- eW]
  have dZ:=h.w5 (g:=[]) rfl;have e0:List.replicate (Int.toNat (N:Int)) t0.p9=List.replicate N t0.p9:=rfl;by_cases h0:N=0
  ·subst h0
   have aP:(execOp a.eval o).run E.P w=.ok (.value (.slice none 0 0)) w:=by
    have:IntKind.i64.wrap 0=0:=rfl;simp [execOp,ho,resolve,hc,invoke,builtin,aF,eA,Builtin.append_,s8 h1,s8 hU,eg,dH,run_sizeOf h3,asInt,asIntOf,this,typeInfo,hi,Result.andThen]
   exact y6.lay hl aP (O:=[]) (cs:=[.slice none 0 0]) (by simp [o8,Ty.agg]) (.inl ⟨rfl,⟨none,0,rfl,λ _=>rfl⟩,rfl⟩) dZ E8.nil
  ·have hr:=Lib.run_append_grow_zeros (P:=E.P) w T U o.type et i (o8 t0 (zc t0)) k kd h1 hU hi kJ none 0 0 [] (run_firstCells_none w.drew _ 0 0 0) N (by omega) (by rw [ez]; exact h2) (by omega) (by omega) (by rw [lC]; omega) (by rw [lC]; exact growslice_fits (by omega) (by simpa using gN))
   simp only [Nat.zero_add] at hr;have jU:=grownCap_ge w N 0 et;have fP:=grownCap_le_maxLen w N 0 et (by unfold maxLen; omega);generalize kM:grownCap w N 0 et=gc at hr jU fP;have jb:(o8 t0 (zc t0)).cells=(zc t0).toArray:=(g8.p9 (H:=w.heap) (S:=S) t0).cells;have cF:(([]:List Value).toArray++Builtin.zeroCells (o8 t0 (zc t0)).cells N++Builtin.zeroCells (o8 t0 (zc t0)).cells (gc - N))=((List.replicate N (zc t0)).flatten++(List.replicate (gc - N) (zc t0)).flatten).toArray:=by
    rw [jb,Ee,Ee]; simp
   rw [cF] at hr;have jr:((List.replicate N (zc t0)).flatten).length=N*t0.size:=by simp [P8]
   have bm:E3 [] w (w.drew.alloc (.cells ((List.replicate N (zc t0)).flatten++(List.replicate (gc - N) (zc t0)).flatten).toArray et)):=E3.trans E3.drew (E3.push _) (by simp);obtain ⟨O',q1,q2,q3⟩:=Dn (w:=w) (t:=t0) (l:=List.replicate N t0.p9) (cap:=gc) h.hs.slt (O:=[]) (cells:=(List.replicate N (zc t0)).flatten++(List.replicate (gc - N) (zc t0)).flatten) (by
    rw [List.length_replicate,List.take_left' jr]; exact i8.FU N) (by rw [List.length_replicate]; exact jU) fP (by
    simp only [List.length_append,jr,List.length_flatten,List.map_replicate,List.sum_replicate_nat,P8];rw [<- Nat.add_mul]; exact Nat.mul_le_mul_right _ (by omega)) et (by simp) (w':=w.drew.alloc (.cells ((List.replicate N (zc t0)).flatten++(List.replicate (gc - N) (zc t0)).flatten).toArray et)) rfl (.inl rfl)
   rw [List.length_replicate] at q1;have aP:(execOp a.eval o).run E.P w=.ok (.value (.slice (some ⟨w.heap.size,0,none⟩) N gc)) (w.drew.alloc (.cells ((List.replicate N (zc t0)).flatten++(List.replicate (gc - N) (zc t0)).flatten).toArray et)):=by
    simp [execOp,ho,resolve,hc,invoke,builtin,aF,eA,eg,dH,hr]
   have aW:w.heap.size<(w.drew.alloc (.cells ((List.replicate N (zc t0)).flatten++(List.replicate (gc - N) (zc t0)).flatten).toArray et)).heap.size:=by
    show w.heap.size<(w.heap.push _).size;simp
   exact y6.lay hl aP (cs:=[.slice (some ⟨w.heap.size,0,none⟩) N gc]) (by simp [o8,Ty.agg]) q1 (dZ.uL E8.nil bm) (E8.new dZ E8.nil bm aW q2 (q3 List.nodup_nil))
 ·trivial
theorem uG.length {α β:Type} {R:List Value->α->Prop} {R':List Value->β->Prop} {t u:Ty}:∀ {es:List MapEntry} {l:List (α×β)},uG R R' t u es l->es.length=l.length
 | [],l,h=>by rw [show l=[] from h]; rfl
 | _::es,_,⟨x,y,l',cs,ds,rfl,_,_,_,_,h⟩=>by simp [uG.length h]
theorem uG.set {α β:Type} {R:List Value->α->Prop} {R':List Value->β->Prop} {t u:Ty} {e:MapEntry} {x:α} {y:β} {cs ds:List Value} (h1:e.key=o8 t cs) (h2:R cs x) (h3:e.val=o8 u ds) (h4:R' ds y) :
  ∀ {es:List MapEntry} {l:List (α×β)} {i:Nat},i<es.length->uG R R' t u es l->uG R R' t u (es.set i e) (l.set i (x,y))
 | [],_,_,hi,_=>by simp at hi
 | _::es,_,0,_,⟨x',y',l',c,d,rfl,g1,g2,g3,g4,h⟩=>⟨x,y,l',cs,ds,rfl,h1,h2,h3,h4,h⟩
 | _::es,_,i+1,hi,⟨x',y',l',c,d,rfl,g1,g2,g3,g4,h⟩=>⟨x',y',l'.set i (x,y),c,d,rfl,g1,g2,g3,g4,uG.set h1 h2 h3 h4 (by simpa using hi) h⟩
theorem ZC (hE:C4 E B) (h:RS B S ι s a w) {o:Oper} {T:TypeId} {m x y:Operand} (ho:o.op=.mapUpdate T m x y):E6 E.P B o a w (Ez E T (s.ev m) (s.ev x) (s.ev y) s):=trivial
end
end Go.Ex
namespace Go.Ex
section
variable {E:Env} {B:D7} {S S':Nat->Prop} {ι:Ix} {s:St} {a:Act} {w:World} {hp:List (Nat×g9)} {H H':Array Go.Obj}
theorem MP:∀ {n:Nat} {l v:AV} {us:List Value},l7.nth n l=some v->VX H S ι hp l us->∃ u,us[n]?=some u/\VX H S ι hp v [u]
 | 0,l,v,us,h,hl=>by
  cases l<;>simp only [l7.nth] at h<;>first|cases h|skip
  obtain ⟨u,us',rfl,ha,hb⟩:=hl;exact ⟨u,rfl,ha⟩
 | n+1,l,v,us,h,hl=>by
  cases l<;>simp only [l7.nth] at h<;>first|cases h|skip
  obtain ⟨u,us',rfl,ha,hb⟩:=hl;obtain ⟨u2,e,h2⟩:=MP h hb;exact ⟨u2,by simpa using e,h2⟩
theorem RW (h:RS B S ι s a w) {o:Oper} {c:Call} (ho:o.op=.call c) {P:Program} {x:Operand} {l:List Operand} (ha:c.args.toList=x::l) {k:IntKind} {m:Int} (hx:s.ev x=.val (.int k) m) :
  (c.callee=.builtin .max->E6 P B o a w (foldI s k (λ a b=>if a<b then b else a) m l))/\(c.callee=.builtin .min->E6 P B o a w (foldI s k (λ a b=>if b<a then b else a) m l)):=by
 obtain ⟨fW,bx⟩:=VX.H2 (B9 h hx);have aF:c.args.map a.eval=(a.eval x::l.map a.eval).toArray:=by
  apply Array.ext';simp [ha]
 constructor
 ·intro hc
  cases hl:foldI s k (λ a b=>if a<b then b else a) m l with
  | fail y=>trivial
  | E9 p v s'=>exact absurd hl Jj
  | ok v s' =>
   obtain ⟨n,rfl,rfl,hn,aP⟩:=JD (P:=P) (w:=w) h (m2:=Builtin.max2) (by intro x y hx hy; split<;>assumption) (by intro x y; simp [Builtin.max2]) bx hl;refine y6.value (val:=.int k n) ?_ h (VX.int hn);simp [execOp,ho,resolve,hc,invoke,builtin,aF,fW,Builtin.max_,aP]
 ·intro hc
  cases hl:foldI s k (λ a b=>if b<a then b else a) m l with
  | fail y=>trivial
  | E9 p v s'=>exact absurd hl Jj
  | ok v s' =>
   obtain ⟨n,rfl,rfl,hn,aP⟩:=JD (P:=P) (w:=w) h (m2:=Builtin.min2) (by intro x y hx hy; split<;>assumption) (by intro x y; simp [Builtin.min2]) bx hl;refine y6.value (val:=.int k n) ?_ h (VX.int hn);simp [execOp,ho,resolve,hc,invoke,builtin,aF,fW,Builtin.min_,aP]
theorem Oo {i:Nat} {p:List Step} {lo:Nat} {t:Ty} {m:List t.den} {s':St} (hf:vj s i p lo t m=some s'):t.shared=true:=by
 unfold vj at hf;split at hf
 ·split at hf
  ·split at hf
   ·split at hf
    ·split at hf
     ·rename_i hc
      simp only [Bool.and_eq_true] at hc;exact hc.1
     ·cases hf
    ·cases hf
   ·cases hf
  ·cases hf
 ·cases hf
theorem Rk {T:TypeId} {x y:AV} {p:Prop} {v:AV} {s':St} (hI:wa E T x y s=.E9 p v s'):∃ i lo hi q t0 bts t m l,x=.sub i [] lo hi/\look T E.tt=some ⟨.d0 q t0,bts⟩/\y.uN s t0=some (⟨t,m⟩,[])/\s.obj i=some (.own (.d0 true t) l) /\
  vj s i [] hi.toNat t m=some s'/\I8 E T (.d0 true t)=true/\p=(hi+(List.length m:Int)<=(List.length l:Int))/\v=.sub i [] lo (hi+(List.length m:Int)):=by
 unfold wa at hI;split at hI
 ·rename_i i lo hi q t0 bts hT
  split at hI
  ·rename_i t m u l cr aS
   split at hI
   ·rename_i s1 hf bD hd
    cases hI;obtain rfl:=of_decide_eq_true hd;exact ⟨i,lo,hi,q,t0,bts,t,m,l,rfl,hT,cr,aS,hf,bD,rfl,rfl⟩
   ·cases hI
  ·cases hI
 ·cases hI
theorem b7A {T:TypeId} {x y:AV} {r:Prop×AV×St} (hI:(wa E T x y s).get=some r):wa E T x y s=.E9 r.1 r.2.1 r.2.2:=by
 unfold wa at hI ⊢
 repeat' split at hI
 all_goals first|(cases hI; done)|(cases hI; rfl)
theorem Xa {i:Nat} {lo:Nat} {t:Ty} {m l:List t.den} {s':St} (aS:s.obj i=some (.own (.d0 true t) l)) (hf:vj s i [] lo t m=some s'):s'=(s.Y1 i true).w4 i (.own (.d0 true t) (List.take lo l++m++List.drop (lo+m.length) l)):=by
 unfold vj at hf;rw [aS] at hf;simp only [g9.ty,g9.x,y9] at hf;rw [dif_pos trivial] at hf;simp only [r8,if_true] at hf;split at hf
 ·cases hf; rfl
 ·cases hf
theorem b3O (hE:C4 E B) (h:RS B S ι s a w) {o:Oper} {c:Call} (ho:o.op=.call c) (hc:c.callee=.builtin .append) {x y:Operand} {T U:TypeId} (ha:c.args.toList=[x,y]) (eW:c.argTypes.toList=[T,U])
  (hk:(∃ e',E.P.underlying U=some (.slice e'))\/E.P.underlying U=some .string):E6 E.P B o a w (wa E T (s.ev x) (s.ev y) s):=by
 cases hI:wa E T (s.ev x) (s.ev y) s with
 | fail why=>trivial
 | ok v s' =>
  exfalso;unfold wa at hI
  repeat' split at hI
  all_goals cases hI
 | E9 p v s' =>
  intro hp;obtain ⟨i,lo,hi,q,t0,bts,t,m,l,hx,hT,cr,aS,hf,bD,rfl,rfl⟩:=Rk hI;obtain ⟨Og,news,eG,hN,_,lF⟩:=Hx (P:=E.P) h hk cr (h.ev y);have ch:=Oo hf;have qh:Og=[]:=i8.M8 (λ _ _ _ hr=>g8.M8 ch hr) hN;subst qh;have jl:look i s.hp=some (.own (.d0 true t) l):=aS;obtain ⟨e,v',h1,h2,h3,h4,h5,h6⟩:=B9 h hx;rw [jl] at h1; cases h1;have fF:a.eval x=v':=by simpa using h3
  rcases h6 with ⟨t1,l1,a0,cap,k1,k2,k3,c0,A,k4,kA,k5,k6⟩|⟨n,t1,l1,b,off,k1,_,k3,_⟩
  rotate_left
  ·exfalso
   simp only [Loc,Place,x7,VR] at k3;simp at k3
  have k1':j8 (.d0 true t) l []=some ⟨.d0 true t1,l1⟩:=k1;rw [y9] at k1'; cases k1';have cP:l.length<=cap:=by
   obtain ⟨O2,_,_,m3⟩:=F8 h.hs jl h2 k1 k3;rcases m3 with ⟨_,_,hl⟩|⟨b2,o2,cap2,O',c1,c2,_⟩
   ·rw [hl]; exact Nat.zero_le _
   ·simp only [List.cons.injEq,Value.slice.injEq,and_true] at c1
    rw [c1.2.2]; exact c2
  have hp:hi+(m.length:Int)<=(l.length:Int):=hp;have dY:VX w.heap S ι s.hp (.sub i [] hi (hi+(m.length:Int))) [.slice (a0.map (·.add (hi.toNat*t.size))) m.length (cap - hi.toNat)] :=
   ⟨_,_,jl,h2,rfl,by omega,by omega,.inl ⟨t,l,a0,cap,k1,hp,k3,cap - hi.toNat,_,by rw [show (hi+(m.length:Int) - hi).toNat=m.length by omega],λ _=>rfl,by omega,by omega⟩⟩
  have dZ:(AV.sub i [] hi (hi+(m.length:Int))).vF s=some (i,[],hi,hi+(m.length:Int)):=by
   simp only [AV.vF,St.part,aS,g9.ty,g9.x,y9]
  obtain ⟨w',ι',A',c',e1,cq,bO⟩:=JX (P:=E.P) h dY dZ (by omega) hN hf;simp only [Value.slice.injEq] at e1;obtain ⟨e1,_,_⟩:=e1;obtain ⟨et,k',g1,g2,g3⟩:=F4 (C6 hE bD);obtain ⟨inf,mH,ez,kJ⟩:=V4 g3;have aF:c.args=#[x,y]:=by rw [<- ha]
  have eA:c.argTypes=#[T,U]:=by rw [<- eW]
  have cv:(hi - lo).toNat+m.length<=c0:=by omega
  have aP:(Builtin.append_ #[T,U] o.type #[a.eval x,a.eval y]).run E.P w=.ok (.slice A ((hi - lo).toNat+m.length) c0) w':=by
   rw [fF,k4];rw [<- ez] at eG;by_cases gZ:m=[]
   ·subst gZ
    have dd:news=[]:=hN.2;subst dd;have rm:w'=w:=by
     rcases bO with ⟨_,_,rfl⟩|⟨A1,_,bO⟩
     ·rfl
     ·simpa [storeCells] using bO.symm
    subst rm;have iS:=eG.len;have eM:=eG.cells;simp only [List.length_nil,Nat.add_zero] at iS eM cv;rcases eG.kind with ⟨e',fb⟩|fb<;>cases A<;>simp [Builtin.append_,run_underlying g1,run_underlying fb,sizeOf,typeInfo,mH,iS,eM,storeCells,cv]
   ·have gY:1<=m.length:=List.length_pos_iff.2 gZ
    rcases bO with ⟨_,iB,_⟩|⟨A1,tP,bO⟩
    ·exact absurd iB gZ
    subst tP;obtain ⟨O2,_,_,m3⟩:=F8 h.hs jl h2 k1 k3;rcases m3 with ⟨_,_,hl⟩|⟨b2,o2,cap2,O',c1,c2,_⟩
    ·have hl:l=[]:=hl
     rw [hl] at hp; simp at hp; omega
    ·simp only [List.cons.injEq,Value.slice.injEq,and_true,true_and] at c1
     obtain ⟨rfl,rfl⟩:=c1;have hA:=kA (by omega);subst hA;simp only [Option.map_some,Option.some.injEq] at e1;subst e1;have gE:((⟨b2,o2,none⟩:Addr).add (lo.toNat*t.size)).add ((hi - lo).toNat*t.size)=(⟨b2,o2,none⟩:Addr).add (hi.toNat*t.size):=by
      rw [Addr.G7,Addr.G7,Addr.G7,Nat.add_assoc,<- Nat.add_mul,show lo.toNat+(hi - lo).toNat=hi.toNat by omega]
     rw [<- gE] at bO;simp only [Option.map_some];generalize ux:((⟨b2,o2,none⟩:Addr).add (lo.toNat*t.size))=AA at bO ⊢;rw [<- ez] at bO;rcases eG.kind with ⟨e',fb⟩|fb<;>simp [Builtin.append_,run_underlying g1,run_underlying fb,sizeOf,typeInfo,mH,eG.len,cv,eG.cells,bO]
  have fK:(execOp a.eval o).run E.P w=.ok (.value (.slice A ((hi - lo).toNat+m.length) c0)) w':=by
   simp [execOp,ho,resolve,hc,invoke,builtin,aF,eA,aP]
  intro next Q jN
  unfold Oper.wp;rw [fK];refine jN S ι' w' _ cq ?_;have lp:=Xa aS hf;have lO:s'.ev x=.sub i [] lo hi:=by
   cases x with
   | tmp n =>
    have qI:Nat.beq n I3=false:=by
     cases hb:Nat.beq n I3 with
     | true=>simp [St.ev,hb] at hx
     | false=>rfl
    have ny:(look n s.fr).getD .any=.sub i [] lo hi:=by
     have h9:=hx;simp only [St.ev,qI] at h9;exact h9
    show (match Nat.beq n I3 with|true=>AV.any|false=>s'.get n)=_;rw [qI];show (look n s'.fr).getD .any=_;rw [lp];show (look n (mapA (AV.map (AV.wY i true)) s.fr)).getD .any=_;rw [N5];cases qM:look n s.fr with
    | none=>rw [qM] at ny; cases ny
    | some u9 =>
     rw [qM] at ny;have:u9=.sub i [] lo hi:=ny;subst this;simp [AV.map,AV.wY,AV.i7]
   | const v9=>exact absurd hx (by
     simp only [St.ev];intro h9;unfold ofConst at h9
     repeat' split at h9
     all_goals cases h9)
   | global g=>cases hx
   | func f=>cases hx
  have qx:=cq.ev x;rw [lO,fF,k4] at qx;obtain ⟨e9,v9,r1,r2,r3,r4,r5,r6⟩:=qx;have mh:look i s'.hp=some (.own (.d0 true t) (List.take hi.toNat l++m++List.drop (hi.toNat+m.length) l)):=by
   rw [lp];show look i (Ex.put i _ _)=_;rw [n9,if_pos rfl]
  rw [mh] at r1; cases r1;have mz:(List.take hi.toNat l++m++List.drop (hi.toNat+m.length) l).length=l.length:=by
   simp only [List.length_append,List.length_take,List.length_drop]; omega
  rcases r6 with ⟨t2,l2,a2,cap2,q1,q2,q3,c2,A2,q4,qA,q5,q6⟩|⟨n,t2,l2,b,off,q1,_,q3,_⟩
  ·have q1':j8 (.d0 true t) (List.take hi.toNat l++m++List.drop (hi.toNat+m.length) l) []=some ⟨.d0 true t2,l2⟩:=q1
   rw [y9] at q1'; cases q1';have r3':Value.slice A (hi - lo).toNat c0=v9:=by simpa using r3
   rw [q4] at r3';simp only [Value.slice.injEq,true_and] at r3';obtain ⟨rfl,rfl⟩:=r3';exact ⟨_,_,mh,r2,rfl,r4,by omega,.inl ⟨t,_,a2,cap2,q1,by rw [mz]; exact hp,q3,c0,A,by rw [show (hi+(m.length:Int) - lo).toNat=(hi - lo).toNat+m.length by omega],qA,by omega,q6⟩⟩
  ·exfalso
   simp only [Loc,Place,x7,VR] at q3;simp at q3
theorem Zs (hE:C4 E B) (h:RS B S ι s a w) {o:Oper} {c:Call} (ho:o.op=.call c) (hc:c.callee=.builtin .copy) {x y:Operand} {T U:TypeId} (ha:c.args.toList=[x,y]) (hT:c.argTypes.toList=[T,U]):E6 E.P B o a w (yW E T (s.ev x) (s.ev y) s):=by
 unfold yW
 split
 ·rename_i i p lo hi t m hd fk
  split
  ·rename_i s' hf bD
   obtain ⟨et,k',g1,_,g3⟩:=F4 (C6 hE bD);obtain ⟨A2,c2,ey,hA⟩:=CY h.hs (h.ev y) fk;have hlen:=GQ h.hs (h.ev y) fk;have aF:c.args=#[x,y]:=by rw [<- ha]
   have eA:c.argTypes=#[T,U]:=by rw [<- hT]
   have ch:t.shared=true:=Oo hf;obtain ⟨e,t9,l9,A9,cap9,c9,A8,z1,z2,z3,z4,z5,z6,z7,z8,z9,Sh⟩:=GP h (h.ev x) hd;have eG:∃ news,(Builtin.firstCells t.size (List.take (hi - lo).toNat m).length (a.eval y)).run E.P w=.ok news.toArray w/\i8 (g8 w.heap S t) t.size [] news (List.take (hi - lo).toNat m):=by
    rw [ey];rcases hA with rfl|⟨b,off,O',rfl,k1,k2,k3,k4⟩
    ·refine ⟨[],?_,by rw [List.take_nil]; exact ⟨rfl,rfl⟩⟩
     rw [List.take_nil];cases A2 with
     | none=>exact run_firstCells_none w t.size 0 0 c2
     | some A=>exact run_firstCells_some w t.size 0 A 0 c2 [] (by simp) (by simp)
    ·have hr:=XI ch k3 (k:=(List.take (hi - lo).toNat m).length)
     have e9:List.take (List.take (hi - lo).toNat m).length m=List.take (hi - lo).toNat m:=by
      rw [List.length_take];rcases Nat.le_total (hi - lo).toNat m.length with h9|h9
      ·rw [Nat.min_eq_left h9]
      ·rw [Nat.min_eq_right h9,List.take_length,List.take_of_length_le h9]
     rw [e9] at hr;refine ⟨_,run_firstCells_some w t.size _ _ _ c2 _ (i8.length (λ _ _ _ h=>h.length) hr) (λ j u hu=>?_),hr⟩;rw [Addr.G7];refine M0 (n:=List.length m*t.size) ?_;rw [List.getElem?_take] at hu;split at hu
     ·exact hu
     ·cases hu
   obtain ⟨news,ff,lz⟩:=eG;have gY:((List.take (hi - lo).toNat m).length:Int)<=hi - lo:=by rw [List.length_take]; omega
   obtain ⟨w',ι',A',c',e1,cq,bO⟩:=JX (P:=E.P) h (h.ev x) hd gY lz hf;have kC:Nat.min m.length (hi - lo).toNat=(List.take (hi - lo).toNat m).length:=by rw [List.length_take,Nat.min_comm]
   have aP:(Builtin.copy_ #[T,U] o.type #[a.eval x,a.eval y]).run E.P w=.ok (.int .i64 ((List.take (hi - lo).toNat m).length:Int)) w':=by
    have kD:=ff;rw [ey,List.length_take] at kD;rw [e1,ey];rcases bO with ⟨rfl,_,rfl⟩|⟨A,rfl,bO⟩
    ·simp only [Builtin.copy_]
     simp [s8 g1,Builtin.lenOf,kC,run_sizeOf g3,kD,goInt]
    ·simp [Builtin.copy_,s8 g1,Builtin.lenOf,kC,run_sizeOf g3,kD,bO,goInt]
   have fK:(execOp a.eval o).run E.P w=.ok (.value (.int .i64 ((List.take (hi - lo).toNat m).length:Int))) w':=by
    simp [execOp,ho,resolve,hc,invoke,builtin,aF,eA,aP]
   intro next Q jN
   unfold Oper.wp;rw [fK];refine jN S ι' w' _ cq (VX.int ?_);have:(List.take (hi - lo).toNat m).length<=m.length:=by rw [List.length_take]; omega
   unfold maxLen at hlen;unfold r9;simp only [IntKind.min,IntKind.max,IntKind.signed,IntKind.bits];simp;omega
  ·trivial
 ·trivial
theorem ZU (hE:C4 E B) (h:RS B S ι s a w) {o:Oper} {c:Call} (ho:o.op=.call c) (hc:c.callee=.builtin .clear) {x:Operand} {T:TypeId} (ha:c.args.toList=[x]) (hT:c.argTypes.toList=[T]):E6 E.P B o a w (zf E T (s.ev x) s):=by
 unfold zf
 split
 ·rename_i i p lo hi q t bts hd tm
  split
  ·rename_i s' hf
   obtain ⟨et,k',g1,_,g3⟩:=F4 (p7 hE tm);have aF:c.args=#[x]:=by rw [<- ha]
   have eA:c.argTypes=#[T]:=by rw [<- hT]
   obtain ⟨e,t9,l9,A9,cap9,c9,A8,z1,z2,z3,z4,z5,z6,z7,z8,z9,Sh⟩:=GP h (h.ev x) hd;have oG:i8 (g8 w.heap S t) t.size [] (List.replicate (hi - lo).toNat (zc t)).flatten (List.replicate (hi - lo).toNat t.p9):=(g8.p9 (H:=w.heap) (S:=S) (.arr (hi - lo).toNat t)).2;obtain ⟨w',ι',A',c',e1,cq,bO⟩:=JX (P:=E.P) h (h.ev x) hd (by rw [List.length_replicate]; omega) oG hf;have jb:(o8 t (zc t)).cells=(zc t).toArray:=(g8.p9 (H:=w.heap) (S:=S) t).cells;have aP:(Builtin.clear_ #[T] o.type #[a.eval x]).run E.P w=.ok (.tuple #[]) w':=by
    rw [e1];rcases bO with ⟨rfl,_,rfl⟩|⟨A,rfl,bO⟩
    ·simp [Builtin.clear_,s8 g1]
    ·by_cases h0:(hi - lo).toNat=0
     ·rw [h0] at bO ⊢
      simp [storeCells] at bO;subst bO;simp [Builtin.clear_,s8 g1]
     ·obtain ⟨n,hn⟩:∃ n,(hi - lo).toNat=n+1:=⟨(hi - lo).toNat - 1,by omega⟩
      rw [hn] at bO ⊢;simp [Builtin.clear_,s8 g1,Ba g3,jb,Ee,bO]
   have fK:(execOp a.eval o).run E.P w=.ok (.value (.tuple #[])) w':=by
    simp [execOp,ho,resolve,hc,invoke,builtin,aF,eA,aP]
   intro next Q jN
   unfold Oper.wp;rw [fK];exact jN S ι' w' _ cq rfl
  ·trivial
 ·trivial
theorem Yv (hE:C4 E B) (h:RS B S ι s a w) {o:Oper} {c:Call} (ho:o.op=.call c):E6 E.P B o a w (l7 E o s):=by
 unfold l7;rw [ho];simp only
 split
 ·rename_i f hf
  split
  ·rename_i g caps hg
   obtain ⟨us,he,cP⟩:=B9 h hg;exact JV hE h ho hf (by simpa using he) cP
  ·rename_i g b hg
   refine E6.xh (λ hb=>?_);have hv:=GF h hg;rw [hb] at hv;exact JV hE h ho hf (us:=[]) hv rfl
  ·rename_i g t y hg
   refine E6.xh (λ hy=>?_);obtain ⟨p,e,hp⟩:=Ig (B9 h hg) hy;exact JV hE h ho hf (us:=[p]) (by simpa using e) ⟨p,[],rfl,hp,rfl⟩
  ·trivial
 ·rename_i hf
  split
  ·rename_i x T ha hT
   split
   ·rename_i q u y hx
    split
    ·rename_i hk
     obtain ⟨cs,e,hR⟩:=B9 h hx;obtain ⟨b,cap,hv,hl⟩:=AO hR;have e:a.eval x=o8 (.d0 q u) cs:=by simpa using e
     exact yB hE h ho hf ha hT hk (.inl ⟨q,u,b,0,cap,rfl,by rw [e,hv],rfl⟩) hl
    ·trivial
   ·rename_i u y hx
    split
    ·rename_i hk
     obtain ⟨cs,e,hR⟩:=B9 h hx;obtain ⟨b,cap,hv,hl⟩:=Mg hR;have e:a.eval x=o8 (.y7 u) cs:=by simpa using e
     exact yB hE h ho hf ha hT hk (.inl ⟨false,u,b,0,cap,rfl,by rw [e,hv],rfl⟩) hl
    ·trivial
   ·rename_i y hx
    split
    ·rename_i hk
     obtain ⟨hv,hl⟩:=VX.yp (B9 h hx);exact yB hE h ho hf ha hT hk (.inr (.inl ⟨y,rfl,hv,rfl⟩)) (by unfold maxLen at hl; omega)
    ·trivial
   ·rename_i n u y hx
    split
    ·rename_i hk
     split
     ·rename_i hn
      exact yB hE h ho hf ha hT hk (.inr (.inr ⟨u,rfl⟩)) hn
     ·trivial
    ·trivial
   ·rename_i d p hx
    split
    ·rename_i q u z cR
     split
     ·rename_i hk
      obtain ⟨e,u',y,cs,k1,k2,k3,k4,k5⟩:=B9 h hx;have hg:=G9 k1 cR;rw [k3] at hg; cases hg;obtain ⟨O2,m1,m2,m3⟩:=F8 h.hs k1 k2 k3 k4;obtain ⟨b,cap,hv,hl⟩:=AO m3;have k5:a.eval x=o8 (.d0 q u) cs:=by simpa using k5
      exact yB hE h ho hf ha hT hk (.inl ⟨q,u,b,0,cap,rfl,by rw [k5,hv],rfl⟩) hl
     ·trivial
    ·rename_i u z cR
     split
     ·rename_i hk
      obtain ⟨e,u',y,cs,k1,k2,k3,k4,k5⟩:=B9 h hx;have hg:=G9 k1 cR;rw [k3] at hg; cases hg;obtain ⟨O2,m1,m2,m3⟩:=F8 h.hs k1 k2 k3 k4;obtain ⟨b,cap,hv,hl⟩:=Mg m3;have k5:a.eval x=o8 (.y7 u) cs:=by simpa using k5
      exact yB hE h ho hf ha hT hk (.inl ⟨false,u,b,0,cap,rfl,by rw [k5,hv],rfl⟩) hl
     ·trivial
    ·rename_i k u z cR
     split
     ·rename_i hk
      intro hn;have hm:(s.ev x).mp s=some ⟨(k,u),z⟩:=by rw [hx]; simp only [AV.mp,cR]
      have aF:c.args=#[x]:=by rw [<- ha]
      have eA:c.argTypes=#[T]:=by rw [<- hT]
      obtain ⟨K,V,n,h1,_⟩:=Ie (C6 hE hk);refine y6.value (val:=.int .i64 (List.length (Option.getD (z:Option (List (k.den×u.den))) []))) ?_ h (VX.int (by unfold r9; simp [IntKind.min,IntKind.max,IntKind.signed,IntKind.bits]; omega));have aP:(Builtin.len_ #[T] o.type #[a.eval x]).run E.P w=.ok (.int .i64 (List.length (Option.getD (z:Option (List (k.den×u.den))) []))) w:=by
       rcases TF h.hs (h.ev x) hm with ⟨h2,h3⟩|⟨l,b,es,ck,h2,h3,h4,h5⟩
       ·subst h2
        rw [h3];simp [Builtin.len_,s8 h1,goInt]
       ·subst h2
        rw [h3];have sI:=MapKept.run_getObj_map (P:=E.P) h4;have hl:=uG.length h5;rw [Array.length_toList] at hl;simp [Builtin.len_,s8 h1,goInt,sI,hl]
      simp [execOp,ho,resolve,hf,invoke,builtin,aF,eA,aP]
     ·trivial
    ·trivial
   ·rename_i d p lo hi hx
    split
    ·rename_i u y hw
     split
     ·rename_i hk
      obtain ⟨A,c,e,_,hl,h0,h1,_⟩:=CS h.hs (B9 h hx) hw;have hm:=GQ h.hs (B9 h hx) (l:=y) hw;have:=yB hE h ho hf ha hT hk (n:=y.length) (.inl ⟨true,u,A,0,c,rfl,e,rfl⟩) (by unfold maxLen at hm; omega);rw [hl] at this;exact this
     ·trivial
    ·trivial
   ·rename_i hx
    split
    ·rename_i q u bts qa
     have eg:[a.eval x]=[Value.slice none 0 0]:=B9 h hx;have eg:a.eval x=Value.slice none 0 0:=by simpa using eg
     have aF:c.args=#[x]:=by rw [<- ha]
     have eA:c.argTypes=#[T]:=by rw [<- hT]
     refine y6.value (val:=.int .i64 0) ?_ h (VX.int (by unfold r9; simp [IntKind.min,IntKind.max,IntKind.signed,IntKind.bits]));have:=Ma (w:=w) (ty:=o.type) (n:=0) (p7 hE qa) (.inl ⟨q,u,none,0,0,rfl,eg,rfl⟩);simp [execOp,ho,resolve,hf,invoke,builtin,aF,eA,this]
    ·trivial
   ·trivial
  ·trivial
 ·rename_i hf
  split
  ·rename_i x T ha hT
   split
   ·rename_i q u bts hx qa
    obtain ⟨et,k',f1,_⟩:=F4 (p7 hE qa);have eg:a.eval x=Value.slice none 0 0:=by simpa using (show [a.eval x]=[Value.slice none 0 0] from B9 h hx)
    have aF:c.args=#[x]:=by rw [<- ha]
    have eA:c.argTypes=#[T]:=by rw [<- hT]
    refine y6.value (val:=.int .i64 0) ?_ h (VX.int (by unfold r9; simp [IntKind.min,IntKind.max,IntKind.signed,IntKind.bits]));simp [execOp,ho,resolve,hf,invoke,builtin,aF,eA,Builtin.cap_,s8 f1,eg,goInt]
   ·trivial
  ·trivial
 ·rename_i hf
  split
  ·rename_i x y T U ha hT
   split
   ·rename_i q u bts hU
    obtain ⟨et,k',f1,_⟩:=F4 (p7 hE hU)
    split
    ·exact b3O hE h ho hf ha hT (.inl ⟨et,f1⟩)
    ·exact YH hE h ho hf ha hT ⟨et,f1⟩
   ·rename_i bts hU
    exact RA hE h ho hf ha hT (.inr (W2 (p7 hE hU)))
   ·rename_i kd bts hU
    exact b3N hE h ho hf ha hT (xN (p7 hE hU))
   ·trivial
  ·trivial
 ·rename_i hf
  split
  ·rename_i x l ha
   split
   ·rename_i k m hx
    exact (RW h ho ha hx).1 hf
   ·trivial
  ·trivial
 ·rename_i hf
  split
  ·rename_i x l ha
   split
   ·rename_i k m hx
    exact (RW h ho ha hx).2 hf
   ·trivial
  ·trivial
 ·rename_i hf
  split
  ·rename_i x y T U ha hT; exact Zs hE h ho hf ha hT
  ·trivial
 ·rename_i hf
  split
  ·rename_i x T ha hT; exact ZU hE h ho hf ha hT
  ·trivial
 ·trivial
theorem Xq (hE:C4 E B) (h:RS B S ι s a w) (o:Oper) (iu:∀ c x y,o.op≠.pick c x y):E6 E.P B o a w (l7 E o s):=by
 cases ho:o.op with
 | move x=>unfold l7; rw [ho]; exact y6.value (by simp [execOp,ho]) h (h.ev x)
 | assign x=>unfold l7; rw [ho]; exact y6.value (by simp [execOp,ho]) h (h.ev x)
 | alloc T=>exact b7D hE h ho
 | box T x=>exact WM hE h ho
 | makeSlice T x y=>exact b0g hE h ho
 | slice T x lo hi mx =>
  have:l7 E o s=xC E T (s.ev x) lo hi mx s:=by unfold l7; rw [ho]
  rw [this]; exact b4f hE h ho
 | build T parts=>exact ZF hE h ho
 | buildSlice T n parts=>exact a9s hE h ho
 | makeMap T r=>exact b3A hE h ho
 | lookup T x y ok =>
  have:l7 E o s=GX E T (s.ev x) (s.ev y) ok s:=by unfold l7; rw [ho]
  rw [this]; exact b3B hE h ho
 | mapUpdate T m x y =>
  have:l7 E o s=Ez E T (s.ev m) (s.ev x) (s.ev y) s:=by unfold l7; rw [ho]
  rw [this]; exact ZC hE h ho
 | load T x =>
  have:l7 E o s=X3 E T (s.ev x) s:=by unfold l7; rw [ho]
  rw [this];cases hl:X3 E T (s.ev x) s with
  | fail why=>trivial
  | ok v s'=>exact b6Y hE h ho hl
  | E9 p v s' =>
   exfalso;unfold X3 at hl
   repeat' split at hl
   all_goals cases hl
 | store T x y =>
  unfold l7; rw [ho];simp only
  split
  ·rename_i i p hx; exact b4e hE h ho hx
  ·trivial
 | nilCheck x =>
  unfold l7; rw [ho];simp only
  split
  ·rename_i i p hx
   have hv:=B9 h hx;obtain ⟨e,b,off,h1,h2,h3,h4⟩:=hv;have h4:a.eval x=.pointer (some ⟨b,off,none⟩):=by simpa using h4
   exact y6.value (val:=.pointer (some ⟨b,off,none⟩)) (by simp only [execOp,ho,h4]; rfl) h ⟨e,b,off,h1,h2,h3,rfl⟩
  ·rename_i t y hx
   obtain ⟨b,off,e,h1,h2,h3⟩:=B9 h hx;have e:a.eval x=.pointer (some ⟨b,off,none⟩):=by simpa using e
   exact y6.value (val:=.pointer (some ⟨b,off,none⟩)) (by simp only [execOp,ho,e]; rfl) h ⟨b,off,rfl,h1,h2,h3⟩
  ·rename_i t y hx
   intro hy;obtain ⟨b,off,e,h1,h2,h3⟩:=CU (B9 h hx) hy;have e:a.eval x=.pointer (some ⟨b,off,none⟩):=by simpa using e
   exact y6.value (val:=.pointer (some ⟨b,off,none⟩)) (by simp only [execOp,ho,e]; rfl) h ⟨b,off,rfl,h1,h2,h3⟩
  ·rename_i f t y hx
   intro hy;have hv:=B9 h hx;obtain ⟨p,e,-⟩:=Ig hv hy;exact y6.value (val:=a.eval x) (by simp only [execOp,ho,e]; rfl) h hv
  ·rename_i f l hx
   obtain ⟨us,e,h1⟩:=B9 h hx;have e:a.eval x=.func (.func f) #[] us.toArray:=by simpa using e
   exact y6.value (val:=.func (.func f) #[] us.toArray) (by simp only [execOp,ho,e]; rfl) h ⟨us,rfl,h1⟩
  ·rename_i g b hx
   intro hb;have hv:=GF h hx;have hb:b=true:=hb;subst hb;exact y6.value (val:=.func (.func g) #[] #[]) (by simp only [execOp,ho,hv]; rfl) h ⟨[fnV g true],rfl,rfl,rfl⟩
  ·trivial
 | binOp op T x y T' =>
  have:l7 E o s=vU E T op (s.ev x) (s.ev y) s:=by unfold l7; rw [ho]
  rw [this]; exact YL hE h ho
 | unOp op T x =>
  have:l7 E o s=unA op (s.ev x) s:=by unfold l7; rw [ho]
  rw [this]; exact ZB h ho
 | convert T' T x=>exact b3I hE h ho
 | fieldAddr T x n=>exact b0t hE h ho
 | indexAddr T x y=>exact b0n hE h ho
 | field T x n=>exact b66 hE h ho
 | index T x y=>exact b63 hE h ho
 | extract x n =>
  unfold l7; rw [ho];simp only
  split
  ·rename_i l hx
   split
   ·rename_i v hn
    obtain ⟨us,e,hl⟩:=B9 h hx;have e:a.eval x=.tuple us.toArray:=by simpa using e
    obtain ⟨u,h1,h2⟩:=MP hn hl;have he:execOp a.eval o=(do pure (.value (<- Instr.extract (a.eval x) n))):=by simp [execOp,ho]
    refine H9 he h (val:=u) ?_ h2;rw [e]; simp [Instr.extract,h1]
   ·trivial
  ·trivial
 | makeFunc fn first caps =>
  unfold l7;rw [ho];cases fn with
  | func f =>
   simp only
   split
   ·rename_i hf
    have hf:first=#[]:=by simpa using hf
    have:=h.J4 caps.toList;refine y6.value (val:=.func (.func f) #[] (caps.toList.map a.eval).toArray) ?_ h ⟨_,rfl,this⟩;simp [execOp,ho,Instr.makeFunc,hf,<- Array.toList_map]
   ·trivial
  | _=>trivial
 | call c=>exact Yv hE h ho
 | pick c x y=>exact absurd ho (iu c x y)
 | _=>unfold l7; rw [ho]; trivial
theorem Ka (hE:C4 E B) (hn:B.n=E.nt) (h:RS B S ι s a w) (o:Oper) {k:St->Tree (E.rs++E0 E.ps)} {L:Code->List Item->St->Prop} {Rt:DL (E.rs++E0 E.ps)->Prop} (ht:(yd E o s k).holds L Rt) {next:Act->World->Prop} {Q:Exit->Act->World->Prop}
  (hk:∀ S' ι' s' a' w',RS B S' ι' s' a' w'->(k s').holds L Rt->next a' w'):o.wp E.P a w next Q:=by
 unfold yd at ht;split at ht
 ·exact ht.elim
 ·rename_i hd
  rw [<- hn] at hd;split at ht
  ·rename_i c x y ho
   split at ht
   ·rename_i g hg
    have cS:=VX.zt (B9 h hg);have aP:(execOp a.eval o).run E.P w=.ok (.value (if g then a.eval x else a.eval y)) w:=by
     simp only [execOp,ho,cS,asBool];cases g<;>simp
    unfold Oper.wp;rw [aP];cases g with
    | true=>exact hk S ι _ _ _ (h.put hd (h.ev x)) ht
    | false=>exact hk S ι _ _ _ (h.put hd (h.ev y)) ht
   ·exact ht.elim
  ·rename_i rW
   have hs:=Xq hE h o (λ c x y e=>rW c x y e);split at ht
   ·exact ht.elim
   ·rename_i v s' e
    rw [e] at hs;exact hs next Q (λ S' ι' w' val h1 h2=>hk S' ι' _ _ _ (h1.put hd h2) ht)
   ·rename_i p v s' e
    rw [e] at hs;exact hs ht.1 next Q (λ S' ι' w' val h1 h2=>hk S' ι' _ _ _ (h1.put hd h2) (ht.2 ht.1))
theorem XM {ops:Array Oper} {o:Oper} {j:Nat} {want:Bool} (hg:o.guard=some (j,want)) {g:Nat} (hs:zz ops j=some g) {tmps:Array Value} :
  Region.wanted o (yielded ops tmps)=((match tmps[g]? with|some (.bool b)=>some b|_=>none) == some want):=by
 have:((ops[j]?).bind (·.dst)).bind (tmps[·]?)=tmps[g]?:=by
  have:(ops[j]?).bind (·.dst)=some g:=hs;rw [this]; rfl
 simp only [Region.wanted,hg,yielded,this];rfl
theorem getD_some {l:Array Value} {g:Nat} {v:Value} (h:l.getD g undef=v) (hv:v≠undef):l[g]?=some v:=by
 simp only [Array.getD_eq_getD_getElem?] at h;cases hl:l[g]? with
 | none=>rw [hl] at h; exact absurd h.symm hv
 | some x=>rw [hl] at h; simp at h; rw [h]
theorem JZ (hE:C4 E B) (hn:B.n=E.nt) (h:RS B S ι s a w) {ops:Array Oper} (o:Oper) {k:St->Tree (E.rs++E0 E.ps)} {L:Code->List Item->St->Prop} {Rt:DL (E.rs++E0 E.ps)->Prop} (ht:(xA E ops o s k).holds L Rt) {next:Act->World->Prop} {Q:Exit->Act->World->Prop}
  (hk:∀ S' ι' s' a' w',RS B S' ι' s' a' w'->(k s').holds L Rt->next a' w') :
  if Region.wanted o (yielded ops a.tmps) then o.wp E.P a w next Q else next (a.put o.dst undef) w:=by
 unfold xA at ht;split at ht
 ·rename_i hg
  simp only [Region.wanted,hg,if_true];exact Ka hE hn h o ht hk
 ·rename_i j want hg
  split at ht
  ·exact ht.elim
  ·rename_i g hs
   rw [XM hg hs];have hv:=h.ev (.tmp g);split at ht
   ·rename_i vs cS
    rw [cS] at hv;have hv:[a.tmps.getD g undef]=[Value.tuple vs]:=hv;have hv:a.tmps.getD g undef=.tuple vs:=by simpa using hv
    have gK:((match a.tmps[g]? with|some (.bool b)=>some b|_=>none) == some want)=false:=by
     simp only [Array.getD_eq_getD_getElem?] at hv;cases hl:a.tmps[g]? with
     | none=>rfl
     | some x=>rw [hl] at hv; simp at hv; rw [hv]; rfl
    rw [gK];split at ht
    ·rename_i hd
     rw [<- hn] at hd;exact hk S ι _ _ _ (h.put hd (v:=.raw undef) (val:=undef) (by rfl)) ht
    ·exact ht.elim
   ·rename_i b cS
    rw [cS] at hv;have hb:=VX.zt hv;have cp:=getD_some hb (by simp [undef]);rw [cp];split at ht
    ·exact ht.elim
    ·rename_i hd
     rw [<- hn] at hd;have nJ:∀ c,b=c->RS B S ι (s.put (some g) (.val .bool c)) a w:=by
      rintro c rfl;have bf:g<a.tmps.size:=by
       rcases Nat.lt_or_ge g a.tmps.size with h1|h1
       ·exact h1
       ·rw [Array.getElem?_eq_none h1] at cp; cases cp
      have:=h.put (d:=some g) (v:=.val .bool b) (val:=.bool b) (by simp [G1,Nat.blt_eq,<- h.sz,bf]) VX.bool;have e:a.put (some g) (.bool b)=a:=by
       simp only [Act.put];have:a.tmps.setIfInBounds g (.bool b)=a.tmps:=by
        apply Array.ext_getElem?;intro i;rw [Array.getElem?_setIfInBounds]
        split
        ·rename_i e; subst e; exact cp.symm
        ·rfl
       rw [this]
      rw [e] at this;exact this
     cases b with
     | true =>
      cases want with
      | true=>exact Ka hE hn (nJ true rfl) o ht hk
      | false=>exact hk S ι _ _ _ ((nJ true rfl).put hd (v:=.raw undef) (val:=undef) (by rfl)) ht
     | false =>
      cases want with
      | false=>exact Ka hE hn (nJ false rfl) o ht hk
      | true=>exact hk S ι _ _ _ ((nJ false rfl).put hd (v:=.raw undef) (val:=undef) (by rfl)) ht
   ·exact ht.elim
theorem a9Z {P:Program} {T et:TypeId} (h1:P.underlying T=some (.slice et)) (d:Nat) (A:Option Addr) (n c:Nat):(Op.equalIn (d+1) T (.slice A n c) (.slice none 0 0)).run P w=.ok A.isNone w:=by
 cases A<;>simp [Op.equalIn,s8 h1]
theorem WN (hE:C4 E B) (h:RS B S ι s a w) {o:Oper} {p:Prop} {v1 v2:AV} (hb:brA E s o=some (p,v1,v2)) :
  ∃ val,(execOp a.eval o).run E.P w=.ok (.value val) w/\((p/\VX w.heap S ι s.hp v1 [val])\/VX w.heap S ι s.hp v2 [val]):=by
 unfold brA at hb;split at hb
 ·rename_i op T x y T' ho
  have key:∀ (b:Bool),(op=.eql/\b=true\/op=.neq/\b=false)->(match s.ev y,look T E.tt with
   | .raw (.slice none 0 0),some ⟨.d0 _ _,_⟩=>(match (s.ev x).els s with
    | some r=>some (r.2=[],AV.val .bool b,AV.val .bool (!b))
    | none=>none)
   | _,_=>none)=some (p,v1,v2)->∃ val,(execOp a.eval o).run E.P w=.ok (.value val) w/\((p/\VX w.heap S ι s.hp v1 [val])\/VX w.heap S ι s.hp v2 [val]):=by
   intro b cy hb;split at hb
   ·rename_i q u bts hy hT
    split at hb
    ·rename_i r hr
     obtain ⟨t0,l0⟩:=r;cases hb;have lI:[a.eval y]=[Value.slice none 0 0]:=B9 h hy;have lI:a.eval y=.slice none 0 0:=by simpa using lI
     obtain ⟨A,c,e,hA⟩:=CY h.hs (h.ev x) hr;obtain ⟨et,k2,h1,_,_⟩:=F4 (CT (t:=.d0 q u) (u:=.d0 true u) rfl (p7 hE hT));have hg:(eqGuard op T x y (a.eval x) (a.eval y)).run E.P w=.ok () w:=by rw [e,lI]; cases op<;>rfl
     have heq:(Op.equal T (.slice A (List.length l0) c) (.slice none 0 0)).run E.P w=.ok A.isNone w:=a9Z h1 9999 A _ c;have eK:A=none->l0=[]:=by
      rintro rfl;rcases hA with h2|⟨b2,off2,O2,h2,_⟩
      ·exact h2
      ·cases h2
     have eL:∀ n:Bool,(n=A.isNone/\op=.eql/\b=true\/n=(!A.isNone)/\op=.neq/\b=false)->(l0=[]/\VX w.heap S ι s.hp (.val .bool b) [.bool n])\/VX w.heap S ι s.hp (.val .bool (!b)) [.bool n]:=by
      intro n hn;cases A with
      | none=>rcases hn with ⟨rfl,_,rfl⟩|⟨rfl,_,rfl⟩<;>exact .inl ⟨eK rfl,VX.bool⟩
      | some A=>rcases hn with ⟨rfl,_,rfl⟩|⟨rfl,_,rfl⟩<;>exact .inr VX.bool
     rcases cy with ⟨rfl,rfl⟩|⟨rfl,rfl⟩
     ·exact ⟨.bool A.isNone,by rw [R6 ho hg (r:=.ok (.bool A.isNone) w)]; rfl; rw [e,lI]; simp [binOp,heq],eL _ (.inl ⟨rfl,rfl,rfl⟩)⟩
     ·exact ⟨.bool (!A.isNone),by rw [R6 ho hg (r:=.ok (.bool (!A.isNone)) w)]; rfl; rw [e,lI]; simp [binOp,heq],eL _ (.inr ⟨rfl,rfl,rfl⟩)⟩
    ·cases hb
   ·cases hb
  split at hb
  ·exact key true (.inl ⟨rfl,rfl⟩) hb
  ·exact key false (.inr ⟨rfl,rfl⟩) hb
  ·cases hb
 ·cases hb
end
end Go.Ex
